import Derived.Test.YtcepemagnfpmdaaGreatAB
set_option linter.defProp false
namespace Go.X
open Go.RowKit Go.V
section
variable {T:Tab} {P:Program}
end
end Go.X
namespace Go.X
open Go.RowKit Go.V
section
variable (T:Tab)
end
section
variable {T:Tab} {P:Program}
def jg6 {α:Type} {p:α->Bool}: ∀ {l:List α} {n:Nat} {a:α},l.all p=true->p a=true->(l.set n a).all p=true
 | [],_,_,_,_=>rfl
 |x::r,0,a,h,ha=>by rw [U0,X3] at h;rw [K8,U0,ha,h.2];rfl
 |x::r,n+1,a,h,ha=>by rw [U0,X3] at h;rw [List.set_cons_succ,U0,h.1,jg6 h.2 ha];rfl
def jo1 {U:Nat->Type} {k:Nat} {a:AV U}: ∀ {cs:List (AV U)} {n:Nat},k∈v4 (cs.set n a)->k∈v4 cs\/k∈a.ids
 | [],_,h=>.inl h
 |x::r,0,h=>by
  rw [K8,v4] at h;rcases X4.1 h with h|h
  ·exact .inr h
  ·exact .inl (by rw [v4];exact X4.2 (.inr h))
 |x::r,n+1,h=>by
  rw [List.set_cons_succ,v4] at h;rcases X4.1 h with h|h
  ·exact .inl (by rw [v4];exact X4.2 (.inl h))
  ·exact (jo1 h).imp (fun h=>by rw [v4];exact X4.2 (.inr h)) id
variable {w0:World} {S0:Ow} {F:AF T} {F':PF} {w w':World} {S:List Nat} {φ:Nat->RA} {H:List (Ent T.U)}
def Sim.pinAll {c x:List Nat} {p:List RA} (h:Sim T w0 ⟨c,x,p⟩ ⟨F,H⟩ F' w S φ):Sim T w0 ⟨c,x,(List.range H.length).map φ⟩ ⟨F,H⟩ F' w S φ:=
 ⟨h.fr,h.ids,h.chg,h.own,h.ex,h.lives,fun k r hk=>by
  have hlt:=(X2.1 hk).1;simp at hlt;simp [hlt] at hk;exact ⟨.of hk,hlt⟩,h.ents,h.eids,h.apart⟩
end
end Go.X
namespace Go.X
open Go.RowKit Go.V
section
variable {T:Tab} {P:Program}
def jo6 (H:List (Ent T.U)) (l:List Nat):Keeps T l H H:=⟨W3 _,fun _ _ _=>rfl,fun e ty t ys _ h=>⟨ys,h⟩⟩
end
end Go.X
namespace Go.X
open Go.RowKit Go.V
section
variable (T:Tab)
def vb3 (H:List (Ent T.U)) (i:Nat):Option (TypeId×List (AV T.U)):=match H[i]? with
 |some (.blk e cs)=>(match cs.all (za2 T) with|true=>some (e,cs)|false=>none)
 |_=>none
def jf0 (H:List (Ent T.U)) (e:TypeId) (n:Nat):AV T.U->Bool
 | .ptr j 0=>(match vb3 T H j with|some (t,cs)=>Nat.beq t e&&Nat.beq cs.length n|none=>false)
 | .raw (.pointer none)=>true
 |_=>false
def ke3 (e:TypeId) (n:Nat) (as:List (AV T.U)) (H:List (Ent T.U)):Option (AV T.U×List (Ent T.U)):=match as with
 | [.ptr i o]=>(match vb3 T H i with
  |some (_,cs)=>(match cs[o]? with
   |some a=>(match jf0 T H e n a with|true=>some (a,H)|false=>none)
   |none=>none)
  |none=>none)
 |_=>none
def va9 (e:TypeId) (n:Nat) (as:List (AV T.U)) (H:List (Ent T.U)):Option (AV T.U×List (Ent T.U)):=match as with
 | [.ptr i o,a]=>(match vb3 T H i with
  |some (t,cs)=>(match Nat.blt o cs.length&&jf0 T H e n a with|true=>some (.tup [],H.set i (.blk t (cs.set o a)))|false=>none)
  |none=>none)
 |_=>none
def yz9 {R:Type} (x:Option (AV T.U×List (Ent T.U))) (K:AV T.U->List (Ent T.U)->Option R):Option R:=match x with|some (a,H)=>K a H|none=>none
def zz1 (e:TypeId) (n:Nat):CallSpec T where
 call:=fun as H K _=>yz9 T (ke3 T e n as H) K
 q:=fun _ _ _=>none
 isq:=false
 wr:=fun _ _=> []
def zl4 (e:TypeId) (n:Nat):CallSpec T where
 call:=fun as H K _=>yz9 T (va9 T e n as H) K
 q:=fun _ _ _=>none
 isq:=false
 wr:=fun as _=>match as with| .ptr i _::_=> [i]|_=> []
def yl4 (H:List (Ent T.U)) (i o:Nat):Option (TypeId×List (AV T.U)×Int×Int):=match vb3 T H i with
 |some (t,cs)=>(match cs[o]?,cs[o+1]? with
  |some (.cell ⟨.int .u32,d⟩),some (.cell ⟨.int .i32,s⟩)=>some (t,cs,d,s)
  |_,_=>none)
 |none=>none
def jd9 {R:Type} (i o:Nat) (K:AV T.U->List (Ent T.U)->Option R) (H:List (Ent T.U)):Option R:=match yl4 T H i o with
 |some (t,cs,d,s)=>zb8 (decide (d=0/\s=1)) (K (.tup []) (H.set i (.blk t ((cs.set o (.cell ⟨.int .u32,(1:Int)⟩)).set (o+1) (.cell ⟨.int .i32,(0:Int)⟩))))) none
 |none=>none
def zo9 (G:FuncId):List (AV T.U)->Option (Nat×Nat×List (AV T.U))
 | [.ptr i o,.fn (.func g) [] caps]=>(match Nat.beq g G&&caps.all zh0 with|true=>some (i,o,caps)|false=>none)
 |_=>none
def yy8 (G:FuncId) (b:CallSpec T):CallSpec T where
 call:=fun as H K _=>match zo9 T G as with
  |some (i,o,caps)=>(match yl4 T H i o with
   |some (t,cs,d,s)=>zb8 (decide (d=0)) (zb8 (decide (s=0)) (b.call caps (H.set i (.blk t (cs.set (o+1) (.cell ⟨.int .i32,(1:Int)⟩)))) (fun _ H=>jd9 T i o K H) (fun _ _=>none)) none) (K (.tup []) H)
   |none=>none)
  |none=>none
 q:=fun _ _ _=>none
 isq:=false
 wr:=fun as H=>match zo9 T G as with
  |some (i,o,caps)=>(match yl4 T H i o with
   |some (t,cs,_,_)=>i::b.wr caps (H.set i (.blk t (cs.set (o+1) (.cell ⟨.int .i32,(1:Int)⟩))))
   |none=> [])
  |none=> []
end
section
variable {T:Tab} {P:Program}
def zw6 {R:Type} {r:R} {x:Option (AV T.U×List (Ent T.U))} {K:AV T.U->List (Ent T.U)->Option R} (h:yz9 T x K=some r): ∃a H,x=some (a,H)/\K a H=some r:=by
 unfold yz9 at h;split at h
 ·exact ⟨_,_,rfl,h⟩
 ·cases h
def zz6 {H:List (Ent T.U)} {i:Nat} {e:TypeId} {cs:List (AV T.U)} (h:vb3 T H i=some (e,cs)):H[i]?=some (.blk e cs)/\cs.all (za2 T)=true:=by
 unfold vb3 at h;split at h<;>try (cases h;done)
 rename_i e' cs' hi;split at h<;>try (cases h;done)
 rename_i hn;simp only [X0,X7] at h;obtain ⟨rfl,rfl⟩:=h;exact ⟨hi,hn⟩
def vj1 {H:List (Ent T.U)} {i:Nat} {e:TypeId} {cs:List (AV T.U)} {l:List Nat} (hl:i∈l):Keeps T l H (H.set i (.blk e cs)):=by
 refine ⟨by rw [Q1];exact W3 _,fun k hk hn=>Z5 (fun (h:i=k)=>hn (by rw [<-h];exact hl)),fun k ty t ys hk h=>?_⟩;by_cases hki:k=i
 ·subst hki;rw [Q0 hk] at h;cases h
 ·rw [Z5 (Ne.symm hki)] at h;exact ⟨ys,h⟩
def yy0 {e:TypeId} {n:Nat} {as:List (AV T.U)} {H H1:List (Ent T.U)} {x:AV T.U} (h:va9 T e n as H=some (x,H1)): ∃i o a t cs,as= [.ptr i o,a]/\vb3 T H i=some (t,cs)/\o<cs.length/\jf0 T H e n a=true/\x=.tup []/\H1=H.set i (.blk t (cs.set o a)):=by
 unfold va9 at h;split at h<;>try (cases h;done)
 rename_i i o a;split at h<;>try (cases h;done)
 rename_i t cs hb;split at h<;>try (cases h;done)
 rename_i hc;rw [X3] at hc;simp only [X0,X7] at h;exact ⟨i,o,a,t,cs,rfl,hb,by simpa [W9] using hc.1,hc.2,h.1.symm,h.2.symm⟩
def jd0 {e:TypeId} {n:Nat} {as:List (AV T.U)} {H H1:List (Ent T.U)} {x:AV T.U} (h:ke3 T e n as H=some (x,H1)): ∃i o t cs,as= [.ptr i o]/\vb3 T H i=some (t,cs)/\cs[o]?=some x/\jf0 T H e n x=true/\H1=H:=by
 unfold ke3 at h;split at h<;>try (cases h;done)
 rename_i i o;split at h<;>try (cases h;done)
 rename_i t cs hb;split at h<;>try (cases h;done)
 rename_i a ha;split at h<;>try (cases h;done)
 rename_i hc;simp only [X0,X7] at h;obtain ⟨rfl,rfl⟩:=h;exact ⟨i,o,t,cs,rfl,hb,ha,hc,rfl⟩
def vi3 (e:TypeId) (n:Nat):zs4 (zz1 T e n):=by
 intro R as H K Kp r h;obtain ⟨a,H1,h1,h2⟩:=zw6 h;obtain ⟨i,o,t,cs,_,_,_,_,rfl⟩:=jd0 h1;exact .inl ⟨a,_,h2,jo6 _ _,fun K' _=>by show yz9 T _ K'=_;rw [h1];rfl⟩
def qt5 (e:TypeId) (n:Nat):zs4 (zl4 T e n):=by
 intro R as H K Kp r h;obtain ⟨a,H1,h1,h2⟩:=zw6 h;obtain ⟨i,o,b,t,cs,rfl,hb,_,_,rfl,rfl⟩:=yy0 h1;exact .inl ⟨_,_,h2,vj1 (by show i∈ [i];simp),fun K' _=>by show yz9 T _ K'=_;rw [h1];rfl⟩
def yg4 {f:FuncId} {cs:CallSpec T} (h: ∀ {R:Type} (as:List (AV T.U)) (H:List (Ent T.U)) (K:AV T.U->Option R),cs.q as H K=none):zg8 T P f cs:=by
 intro R as H K r hr;rw [h] at hr;cases hr
def yx4 {w:World} {g p:Nat} {c:Array Value} {e:TypeId} (hb:Blk w g c e) (v:Value):Blk (w.setCell ⟨g,p,none⟩ v) g (c.setIfInBounds p v) e/\Chg [g] w (w.setCell ⟨g,p,none⟩ v):=
 ⟨heap_setCell_same w g p c e v hb,⟨rfl,rfl,rfl,by simp,fun k _ hk=>heap_setCell_other w _ k v fun h=>hk (by rw [h];simp)⟩⟩
def zk6 {w:World} {g p:Nat} {c:Array Value} {e:TypeId} (hb:Blk w g c e):w.cell? ⟨g,p,none⟩=c[p]?/\w.frozen? ⟨g,p,none⟩=false:=by
 have hb:w.heap[g]?=some (.cells c e (0,0)):=hb;exact ⟨by simp [World.cell?,hb],by simp [World.frozen?,hb]⟩
variable {w0:World} {S0:Ow} {F:AF T} {F':PF} {w w':World} {S:List Nat} {φ:Nat->RA} {H:List (Ent T.U)}
def jy2 (w:World) (e:TypeId) (n:Nat) (p:Option Addr):Prop:= ∀q,p=some q-> ∃g c,q=⟨g,0,none⟩/\Blk w g c e/\c.size=n
def jq2 (h:Sim T w0 S0 ⟨F,H⟩ F' w S φ) {e:TypeId} {n:Nat} {a:AV T.U} (hr:jf0 T H e n a=true) {v:Value} (hv:VR T w S φ a v): ∃p,v=.pointer p/\jy2 w e n p/\ ∀k∈a.ids,k<H.length:=by
 unfold jf0 at hr;split at hr<;>try (cases hr;done)
 ·rename_i j;split at hr<;>try (cases hr;done)
  rename_i t cs hb;obtain ⟨hi,hn⟩:=zz6 hb;rw [X3] at hr;have:=X1 hr.1;subst this;have hl:=X1 hr.2;obtain ⟨g,q1,q2⟩:=hv;refine ⟨_,q2,fun q hq=>?_,fun k hk=>?_⟩
  ·obtain ⟨g',c,a1,a2,a3,a4⟩:=h.ents j _ hi;rw [q1] at a1;simp only [X0,Addr.mk.injEq,and_true] at a1;subst a1;simp only [X0] at hq;refine ⟨g,c,hq.symm,a2,?_⟩;have:=(a4.vrl T hn).len T;rw [hl] at this;simpa using this.symm
  ·simp only [AV.ids,Q4] at hk;subst hk;exact (X2.1 hi).1
 ·exact ⟨none,hv,fun q hq=>(by cases hq),fun k hk=>(by cases hk)⟩
def jb0 {f:FuncId} {e:TypeId} {n:Nat} (hL: ∀(a:Addr) (p:Option Addr) (w:World),w.cell? a=some (.pointer p)->jy2 w e n p->Calls P f #[.pointer (some a)] w (vp3 w (.pointer p))):w8 T P f (zz1 T e n):=by
 intro R as H K Kp r hr w0 S0 F F' w S φ h vs hvs hok;obtain ⟨x,H1,h1,h2⟩:=zw6 hr;obtain ⟨i,o,t,cs,rfl,hb,hx,hre,rfl⟩:=jd0 h1;obtain ⟨hi,hn⟩:=zz6 hb
 match vs,hvs with
 | [v],hvs=>
 obtain ⟨g,q1,rfl⟩:=hvs.1;obtain ⟨g',c,a1,a2,a3,a4⟩:=h.ents i _ hi;rw [q1] at a1;simp only [X0,Addr.mk.injEq,and_true] at a1;subst a1;obtain ⟨v,k1,k2⟩:=(a4.vrl T hn).get T hx;obtain ⟨p,rfl,hp,hid⟩:=jq2 h hre k2;refine (hL ⟨g,o,none⟩ p w (by rw [(zk6 a2).1];simpa using k1) hp).mono fun en w' hR=>?_;cases en with
 |returned u=>
  obtain ⟨hc,rfl⟩:=hR;refine ⟨x,_,h2,S,φ,h.pure hc,k2.chg T hc (by simp) (fun _ h=>.inl h),hid,?_⟩;unfold jf0 at hre;split at hre<;>first|trivial|cases hre
 |panicked ch=>exact hR.elim
 |outgrown=>exact hR.elim
def Sim.setB (h:Sim T w0 S0 ⟨F,H⟩ F' w S φ) {i o g:Nat} {e:TypeId} {cs:List (AV T.U)} (hi:H[i]?=some (.blk e cs)) (hn:cs.all (za2 T)=true) (hg:(φ i).ad=some ⟨g,0,none⟩) {a:AV T.U} (ha:za2 T a=true) {v:Value} (hv:VR T w S φ a v) (hids: ∀k∈a.ids,k<H.length):
  Sim T w0 S0 ⟨F,H.set i (.blk e (cs.set o a))⟩ F' (w.setCell ⟨g,o,none⟩ v) S φ:=by
 obtain ⟨g',c,a1,a2,a3,a4⟩:=h.ents i _ hi;rw [hg] at a1;simp only [X0,Addr.mk.injEq,and_true] at a1;subst a1;obtain ⟨b1,b2⟩:=yx4 (p:=o) a2 v;have hT: ∀b∈ [g],b∈S:=fun b hb=>by simp at hb;subst hb;exact a3
 refine h.upd hi rfl b2 (fun b hb=>?_) ⟨g,_,hg,b1,a3,?_⟩ (fun k hk=>?_) (fun e1 t xs h=>by cases h)
 ·simp at hb;subst hb;exact ⟨_,.inl hg,rfl⟩
 ·refine BR.chg T b2 hT (fun _ h=>.inl h) (BR.of T ?_ (jg6 hn ha));have:=(a4.vrl T hn).set T o hv;rwa [show (c.setIfInBounds o v).toList=c.toList.set o v by simp]
 ·rcases jo1 hk with hk|hk
  ·exact h.eids i _ hi k hk
  ·exact hids k hk
def yz7 {f:FuncId} {e:TypeId} {n:Nat} (hS: ∀(a:Addr) (u:Value) (p:Option Addr) (w:World),w.cell? a=some u->w.frozen? a=false->jy2 w e n p->Calls P f #[.pointer (some a),.pointer p] w fun en w'=>en=.returned (.tuple #[])/\ ∃w1,Chg [] w w1/\w'=w1.setCell a (.pointer p)):w8 T P f (zl4 T e n):=by
 intro R as H K Kp r hr w0 S0 F F' w S φ h vs hvs hok;obtain ⟨x,H1,h1,h2⟩:=zw6 hr;obtain ⟨i,o,a,t,cs,rfl,hb,ho,hre,rfl,rfl⟩:=yy0 h1;obtain ⟨hi,hn⟩:=zz6 hb
 match vs,hvs with
 | [v,u],hvs=>
 obtain ⟨g,q1,rfl⟩:=hvs.1;obtain ⟨g',c,a1,a2,a3,a4⟩:=h.ents i _ hi;rw [q1] at a1;simp only [X0,Addr.mk.injEq,and_true] at a1;subst a1;have hu:VR T w S φ a u:=hvs.2.1;obtain ⟨p,rfl,hp,hid⟩:=jq2 h hre hu;obtain ⟨v,k1,k2⟩:=(a4.vrl T hn).get T (Y0 ho);refine (hS ⟨g,o,none⟩ v p w (by rw [(zk6 a2).1];simpa using k1) (zk6 a2).2 hp).mono fun en w' hR=>?_;obtain ⟨rfl,w1,hc,rfl⟩:=hR;have hs:=h.pure hc;refine ⟨_,_,h2,S,φ,hs.setB (o:=o) hi hn q1 ?_ (hu.chg T hc (by simp) (fun _ h=>.inl h)) hid,⟨#[],rfl,trivial⟩,fun k hk=>(by cases hk),trivial⟩;unfold jf0 at hre;split at hre<;>first|rfl|cases hre
def jk1 {G:FuncId} {as caps:List (AV T.U)} {i o:Nat} (h:zo9 T G as=some (i,o,caps)):as= [.ptr i o,.fn (.func G) [] caps]/\caps.all zh0=true:=by
 unfold zo9 at h;split at h<;>try (cases h;done)
 split at h<;>try (cases h;done)
 rename_i hb;rw [X3] at hb;have:=X1 hb.1;subst this;simp only [X0,X7] at h;obtain ⟨rfl,rfl,rfl⟩:=h;exact ⟨rfl,hb.2⟩
def yg1 {i o:Nat} {t:TypeId} {cs:List (AV T.U)} {d s:Int} (h:yl4 T H i o=some (t,cs,d,s)):H[i]?=some (.blk t cs)/\cs.all (za2 T)=true/\cs[o]?=some (.cell ⟨.int .u32,d⟩)/\cs[o+1]?=some (.cell ⟨.int .i32,s⟩):=by
 unfold yl4 at h;split at h<;>try (cases h;done)
 rename_i t' cs' hb;split at h<;>try (cases h;done)
 rename_i d' s' h1 h2;simp only [X0,X7] at h;obtain ⟨rfl,rfl,rfl,rfl⟩:=h;exact ⟨(zz6 hb).1,(zz6 hb).2,h1,h2⟩
def yo2 {R:Type} {r:R} {i o:Nat} {K:AV T.U->List (Ent T.U)->Option R} (h:jd9 T i o K H=some r): ∃t cs,yl4 T H i o=some (t,cs,0,1)/\K (.tup []) (H.set i (.blk t ((cs.set o (.cell ⟨.int .u32,(1:Int)⟩)).set (o+1) (.cell ⟨.int .i32,(0:Int)⟩))))=some r/\
  ∀ {R':Type} (K':AV T.U->List (Ent T.U)->Option R'),jd9 T i o K' H=K' (.tup []) (H.set i (.blk t ((cs.set o (.cell ⟨.int .u32,(1:Int)⟩)).set (o+1) (.cell ⟨.int .i32,(0:Int)⟩)))):=by
 unfold jd9 at h;split at h<;>try (cases h;done)
 rename_i t cs d s hx;unfold zb8 at h;split at h<;>try (cases h;done)
 rename_i hd;obtain ⟨rfl,rfl⟩:=of_decide_eq_true hd;refine ⟨t,cs,hx,h,fun K'=>?_⟩;unfold jd9;rw [hx];rfl
def jc3 {R:Type} {r:R} {c:Bool} {x y:Option R} (h:zb8 c x y=some r):(c=true/\x=some r)\/(c=false/\y=some r):=by
 unfold zb8 at h;cases c
 ·exact .inr ⟨rfl,by simpa using h⟩
 ·exact .inl ⟨rfl,by simpa using h⟩
def vi4 {G:FuncId} {b:CallSpec T} (hb:zs4 b):zs4 (yy8 T G b):=by
 intro R as H K Kp r h;have h:(match zo9 T G as with
  |some (i,o,caps)=>(match yl4 T H i o with
   |some (t,cs,d,s)=>zb8 (decide (d=0)) (zb8 (decide (s=0)) (b.call caps (H.set i (.blk t (cs.set (o+1) (.cell ⟨.int .i32,(1:Int)⟩)))) (fun _ H=>jd9 T i o K H) (fun _ _=>none)) none) (K (.tup []) H)
   |none=>none)
  |none=>none)=some r:=h
 split at h<;>try (cases h;done)
 rename_i i o caps ha;split at h<;>try (cases h;done)
 rename_i t cs d s hx;have hw:(yy8 T G b).wr as H=i::b.wr caps (H.set i (.blk t (cs.set (o+1) (.cell ⟨.int .i32,(1:Int)⟩)))):=by show (match zo9 T G as with|some (i,o,caps)=>_|none=>_)=_;rw [ha];dsimp only;rw [hx]
 rw [hw];rcases jc3 h with ⟨h1,h2⟩|⟨h1,h2⟩
 ·rcases jc3 h2 with ⟨h3,h4⟩|⟨h3,h4⟩
  ·rcases hb _ _ _ _ r h4 with ⟨x,H1,g1,g2,g3⟩|⟨x,H1,g1,g2,g3⟩
   ·obtain ⟨t2,cs2,k1,k2,k3⟩:=yo2 g1;refine .inl ⟨_,_,k2,?_,fun K' Kp'=>?_⟩
    ·obtain ⟨l1,l2,l3⟩:=g2;rw [Q1] at l1;refine ⟨by rw [Q1];exact l1,fun k q1 q2=>?_,fun k ty t' ys q1 q2=>?_⟩
     ·simp only [Z0,not_or] at q2;rw [Z5 (Ne.symm q2.1),l2 k (by rw [Q1];exact q1) q2.2,Z5 (Ne.symm q2.1)]
     ·by_cases hki:k=i
      ·subst hki;rw [Q0 (by omega)] at q2;cases q2
      ·rw [Z5 (Ne.symm hki)] at q2;obtain ⟨xs,q3⟩:=l3 k ty t' ys (by rw [Q1];exact q1) q2;rw [Z5 (Ne.symm hki)] at q3;exact ⟨xs,q3⟩
    ·show (match zo9 T G as with|some (i,o,caps)=>_|none=>_)=_;rw [ha];dsimp only;rw [hx];dsimp only;rw [h1,h3];show b.call _ _ _ _=_;rw [g3,k3]
   ·cases g1
  ·cases h4
 ·refine .inl ⟨_,_,h2,jo6 _ _,fun K' Kp'=>?_⟩;show (match zo9 T G as with|some (i,o,caps)=>_|none=>_)=_;rw [ha];dsimp only;rw [hx];dsimp only;rw [h1];rfl
def kd3 (P:Program) (f G:FuncId):Prop:= ∀(g p:Nat) (t:TypeId) (c:Array Value) (caps:Array Value) (w:World),Blk w g c t->
 (∀d:Int,d≠0->c[p]?=some (.int .u32 d)->Calls P f #[.pointer (some ⟨g,p,none⟩),.func (.func G) #[] caps] w (vp3 w (.tuple #[])))/\
 (c[p]?=some (.int .u32 0)->c[p+1]?=some (.int .i32 0)-> ∀Q:World->Prop,
  Calls P G caps (w.setCell ⟨g,p+1,none⟩ (.int .i32 1)) (fun e w2=>(∃v,e=.returned v)/\Q w2/\ ∃t2 c2,Blk w2 g c2 t2/\c2[p]?=some (.int .u32 0)/\c2[p+1]?=some (.int .i32 1))->
  Calls P f #[.pointer (some ⟨g,p,none⟩),.func (.func G) #[] caps] w fun e w'=>e=.returned (.tuple #[])/\ ∃w2 w3,Q w2/\Chg [] w2 w3/\w'=(w3.setCell ⟨g,p,none⟩ (.int .u32 1)).setCell ⟨g,p+1,none⟩ (.int .i32 0))
def yi4 {k:IntKind} {x:Int} {v:Value} (h:VR T w S φ (.cell ⟨.int k,x⟩) v):v=.int k x:=by
 have h:CR T w S (.int k) x v:=h;cases h;rfl
def jb1 {f G:FuncId} {b:CallSpec T} (hP:kd3 P f G) (hb:w8 T P G b):w8 T P f (yy8 T G b):=by
 intro R as H K Kp r hh w0 S0 F F' w S φ hs vs hvs hok;have h:(match zo9 T G as with
  |some (i,o,caps)=>(match yl4 T H i o with
   |some (t,cs,d,s)=>zb8 (decide (d=0)) (zb8 (decide (s=0)) (b.call caps (H.set i (.blk t (cs.set (o+1) (.cell ⟨.int .i32,(1:Int)⟩)))) (fun _ H=>jd9 T i o K H) (fun _ _=>none)) none) (K (.tup []) H)
   |none=>none)
  |none=>none)=some r:=hh
 clear hh;split at h<;>try (cases h;done)
 rename_i i o caps ha;split at h<;>try (cases h;done)
 rename_i t cs d s hx;obtain ⟨hargs,hep⟩:=jk1 ha;subst hargs;obtain ⟨hi,hn,hd,hst⟩:=yg1 hx
 match vs,hvs with
 | [v,u],hvs=>
 obtain ⟨g,q1,rfl⟩:=hvs.1;obtain ⟨va,vb,rfl,e1,hcap⟩:=hvs.2.1;have hva:va= #[]:=by
  have:=e1.len T;simpa using this.symm
 subst hva;obtain ⟨g',c,a1,a2,a3,a4⟩:=hs.ents i _ hi;rw [q1] at a1;simp only [X0,Addr.mk.injEq,and_true] at a1;subst a1;have hv:=a4.vrl T hn;obtain ⟨v0,k1,k2⟩:=hv.get T hd;have:=yi4 k2;subst this;obtain ⟨v1,k3,k4⟩:=hv.get T hst;have:=yi4 k4;subst this;have k1:c[o]?=some (.int .u32 d):=by simpa using k1
 have k3:c[o+1]?=some (.int .i32 s):=by simpa using k3
 obtain ⟨p1,p2⟩:=hP g o t c vb w a2;rcases jc3 h with ⟨h1,h2⟩|⟨h1,h2⟩
 ·rcases jc3 h2 with ⟨h3,h4⟩|⟨h3,h4⟩
  ·have hd0:=of_decide_eq_true h1;have hs0:=of_decide_eq_true h3;subst hd0;subst hs0;obtain ⟨c0,x0,p0⟩:=S0;have hs1:=(hs.setB (o:=o+1) hi hn q1 (a:=.cell ⟨.int .i32,(1:Int)⟩) rfl (v:=.int .i32 1) (CR.int _ _) (fun k hk=>by cases hk));have hil:i<H.length:=(X2.1 hi).1;have hT: ∀b∈ [g],b∈S:=fun b hb=>by simp at hb;subst hb;exact a3
   have hcap1:VRL T (w.setCell ⟨g,o+1,none⟩ (.int .i32 1)) S φ caps vb.toList:=hcap.chg T (yx4 (p:=o+1) a2 _).2 hT (fun _ h=>.inl h);have hok1: ∀a∈caps,okA (H.set i (.blk t (cs.set (o+1) (.cell ⟨.int .i32,(1:Int)⟩)))) a:=jr9 hep fun k hk=>by
    rw [Q1];exact (hok (.fn (.func G) [] caps) (by simp)).1 k (by simpa [AV.ids,v4] using hk)
   refine (p2 k1 k3 (fun w2=> ∃H1 S1 φ1,jd9 T i o K H1=some r/\Sim T w0 ⟨c0,x0,(List.range (H.set i (.blk t (cs.set (o+1) (.cell ⟨.int .i32,(1:Int)⟩)))).length).map φ⟩ ⟨F,H1⟩ F' w2 S1 φ1) ?_).mono ?_
   ·have hcall:=hb caps _ _ _ r h4 w0 ⟨c0,x0,_⟩ F F' _ S φ hs1.pinAll vb.toList hcap1 hok1;rw [show vb.toList.toArray=vb by simp] at hcall;refine hcall.mono fun en w2 hR=>?_;cases en with
    |returned u=>
     obtain ⟨a,H1,m1,S1,φ1,m2,_,_⟩:=hR;refine ⟨⟨u,rfl⟩,⟨H1,S1,φ1,m1,m2⟩,?_⟩;obtain ⟨t2,cs2,n1,_,_⟩:=yo2 m1;obtain ⟨r1,r2,r3,r4⟩:=yg1 n1;obtain ⟨g2,c2,b1,b2,b3,b4⟩:=m2.ents i _ r1;have hpin:=(m2.pins i (φ i) (by rw [Q1];simp [hil])).1.1;rw [hpin,q1] at b1;simp only [X0,Addr.mk.injEq,and_true] at b1;subst b1;obtain ⟨x1,y1,y2⟩:=(b4.vrl T r2).get T r3;have:=yi4 y2;subst this;obtain ⟨x2,y3,y4⟩:=(b4.vrl T r2).get T r4;have:=yi4 y4;subst this;exact ⟨t2,c2,b2,by simpa using y1,by simpa using y3⟩
    |panicked ch=>obtain ⟨a,H1,m1,_⟩:=hR;cases m1
    |outgrown=>exact hR.elim
   ·rintro en w' ⟨rfl,w2,w3,⟨H1,S1,φ1,m1,m2⟩,hc,rfl⟩
    obtain ⟨t2,cs2,n1,n2,_⟩:=yo2 m1;obtain ⟨r1,r2,r3,r4⟩:=yg1 n1;have hpin:=(m2.pins i (φ i) (by rw [Q1];simp [hil])).1.1;have m3:=(m2.pure hc).setB (o:=o) r1 r2 (hpin.trans q1) (a:=.cell ⟨.int .u32,(1:Int)⟩) rfl (v:=.int .u32 1) (CR.int _ _) (fun k hk=>by cases hk);have hil1:i<H1.length:=(X2.1 r1).1;have m4:=m3.setB (o:=o+1) (Q0 hil1) (jg6 r2 rfl) (hpin.trans q1) (a:=.cell ⟨.int .i32,(0:Int)⟩) rfl (v:=.int .i32 0) (CR.int _ _) (fun k hk=>by cases hk);rw [List.set_set] at m4;refine ⟨_,_,n2,S1,φ1,⟨m4.fr,m4.ids,m4.chg,m4.own,m4.ex,m4.lives,fun k r' hk=>?_,m4.ents,m4.eids,m4.apart⟩,⟨#[],rfl,trivial⟩,fun k hk=>(by cases hk),trivial⟩;obtain ⟨z1,z2⟩:=hs.pins k r' hk;have z2:k<H.length:=z2;have:=m4.pins k (φ k) (by rw [Q1];simp [z2]);exact ⟨this.1.trans z1,this.2⟩
  ·cases h4
 ·have hd0:d≠0:=of_decide_eq_false h1;refine (p1 d hd0 k1).mono fun en w' hR=>?_;cases en with
  |returned u=>
   obtain ⟨hc,rfl⟩:=hR;exact ⟨_,_,h2,S,φ,hs.pure hc,⟨#[],rfl,trivial⟩,fun k hk=>(by cases hk),trivial⟩
  |panicked ch=>exact hR.elim
  |outgrown=>exact hR.elim
def zf7 {f:FuncId} {e:TypeId} {n:Nat} (hL: ∀(a:Addr) (p:Option Addr) (w:World),w.cell? a=some (.pointer p)->jy2 w e n p->Calls P f #[.pointer (some a)] w (vp3 w (.pointer p))):w8 T P f (zz1 T e n)/\zg8 T P f (zz1 T e n)/\zs4 (zz1 T e n):=⟨jb0 hL,yg4 fun _ _ _=>rfl,vi3 e n⟩
def zc9 {f:FuncId} {e:TypeId} {n:Nat} (hS: ∀(a:Addr) (u:Value) (p:Option Addr) (w:World),w.cell? a=some u->w.frozen? a=false->jy2 w e n p->Calls P f #[.pointer (some a),.pointer p] w fun en w'=>en=.returned (.tuple #[])/\ ∃w1,Chg [] w w1/\w'=w1.setCell a (.pointer p)):w8 T P f (zl4 T e n)/\zg8 T P f (zl4 T e n)/\zs4 (zl4 T e n):=⟨yz7 hS,yg4 fun _ _ _=>rfl,qt5 e n⟩
def yg2 {f G:FuncId} {b:CallSpec T} (hP:kd3 P f G) (hb:w8 T P G b/\zg8 T P G b/\zs4 b):w8 T P f (yy8 T G b)/\zg8 T P f (yy8 T G b)/\zs4 (yy8 T G b):=⟨jb1 hP hb.1,yg4 fun _ _ _=>rfl,vi4 hb.2.2⟩
end
end Go.X
