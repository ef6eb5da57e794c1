import Derived.Test.YthhhfnfgmijggaaGreatAB
import Derived.OrdersIn
import Derived.TacticsIn
import Derived.RangeFuncRecord
set_option linter.defProp false
namespace Go.X
open Go.RowKit Go.V
abbrev RD (ro:Option Nat):Fence:= {Fence.wide with round:=ro}
section
variable {P:Program} {ops:Array Oper} {Q:Exit->Act->World->Prop} {ro:Option Nat} {m:Nat}
def ve9 {f args w R}:CallsIn (RD ro) m P f args w R↔Calls P f args w R:=callsIn_wide (n:=m)
def kj7 {a args w R} (h:Rows P a args w R):RowsIn (RD ro) m P a args w R:=
 fun c b _=>let ⟨v,w',r,s⟩:=h c b;⟨v,w',r,stepsIn_wide.2 s⟩
def gh4 {p:Prop}:(RD ro).depth.isSome=true->p:=fun h=>by cases h
def vv3 {o:Oper} {a:Act} {w:World} {K:Act->World->Prop} (hd: ∀c,o.op≠.defer c) (h:o.wp P a w K Q):o.wpIn (RD ro) m P a w K Q:=by
 refine ⟨fun _ _=>trivial,?_⟩;rw [Oper.semAt_eq _ _ _ hd];unfold Oper.wp at h;generalize (execOp a.eval o).run P w=r at h⊢;cases r with
 |ok x w'=>cases x<;>simp only [Oper.upon,Oper.uponIn] at h⊢ <;>first|exact h|exact ⟨gh4,ve9.2 h⟩|exact ⟨gh4,kj7 h⟩|exact h.elim
 |halt x w'=>cases x<;>simp only [Oper.upon,Oper.uponIn] at h⊢ <;>exact h
def jg4 {o:Oper} (h:jk6 o.op=true): ∀c,o.op≠.defer c:=fun c e=>by rw [e] at h;cases h
def jf6 (c: ¬LetsOut Q): ∀(l a w),(l.all fun o=>jk6 o.op)=true->wpList P ops Q l a w->wpListIn (RD ro) m P ops Q l a w
 | [],_,_,_,h=>h
 |o::r,a,w,b,h=>by
  rw [V1,X3] at b;unfold wpList at h;unfold wpListIn;split
  ·rename_i d;rw [if_pos d] at h;rcases h with h|⟨_,h⟩
   ·exact vv3 (jg4 b.1) (Oper.wp_mono (fun a w h=>jf6 c r a w b.2 h) h)
   ·exact absurd h c
  ·rename_i d;rw [if_neg d] at h;exact ⟨fun _ _=>trivial,jf6 c r _ _ b.2 h⟩
def jb0 {k} (e: ¬LetsOut Q) (f:(ops.toList.all fun o=>jk6 o.op)=true): ∀(b c a w),wpAny P k ops Q b c a w->wpAnyIn (RD ro) m P k ops Q b c a w
 |0,_,_,_,h=>h
 |b+1,c,a,w,h=>by
  refine ⟨h.1,fun i p=>?_⟩;have d:=h.2 i p;unfold wpOp at d;unfold wpOpIn;split
  ·rename_i g;rw [g] at d;exact jb0 e f b _ _ _ d
  ·rename_i o g;rw [g] at d;simp only at d;split
   ·rename_i j;rw [if_pos j] at d;rcases d with d|⟨_,d⟩
    ·refine vv3 (jg4 (Y8.1 f o (Array.mem_toList_iff.2 (Array.mem_of_getElem? g)))) (Oper.wp_mono (fun a w h=>jb0 e f b _ a w h) d)
    ·exact absurd d e
   ·rename_i j;rw [if_neg j] at d;exact ⟨fun _ _=>trivial,jb0 e f b _ _ _ d⟩
def zp1 (a:List (Nat×Nat)):Code->Bool
 | .region id ops b=>(ops.toList.all fun o=>jk6 o.op)&&(!b||(vm9 a id).isSome)
 | .seq x y=>zp1 a x&&zp1 a y
 | .cond _ x y=>zp1 a x&&zp1 a y
 | .block _ c=>zp1 a c
 | .skip=>true
 | .exit _=>true
 | .ret=>true
 |_=>false
end
section
variable {T:Tab} {P:Program} {C:Ctx T} {w0:World} {S0:Ow} {n:Nat} {ds:List Deferred} {R:Type} {r:R} {ro:Option Nat} {m:Nat}
def qi2 {X Q} (h: ¬LetsOut Q): ¬LetsOut (Exit.then X Q):=fun ⟨a,w,b⟩=>h ⟨a,w,b⟩
def jx3 {id Q} (h: ¬LetsOut Q): ¬LetsOut (Exit.inBlock id Q):=fun ⟨a,w,b⟩=>h ⟨a,w,b⟩
def zl4 (k:zb4 T P C.E) (t:P.follows .mixedOrders=true): ∀(c q K e Q F' w),zp1 C.ms c=true-> ¬LetsOut Q->evC P C n [] (fun _ _=>none) c q K e=some r->KsOk Q n ds w0 S0 r K->zc4 T w0 S0 e F' w->
  ∀a,Fr n ds F' a->c.wpIn (RD ro) m P Q a w
 | .skip,q,K,e,Q,F',w,d,j,h,f,i=>fun a g=>wpIn_skip (f.normal e h F' w i a g)
 | .region id ops u,q,K,e,Q,F',w,d,j,h,f,i=>by
  obtain ⟨S,φ,i⟩:=i;unfold evC at h;intro a g;cases u with
  |false=>
   have G:WR P ops Q 0 n ds F' w:=qg4 k (fun e o=>f.normal e o) f.panic h i;rw [zp1,X3] at d;exact wpIn_region_list (jf6 j _ _ _ d.1 (by simpa using G a g))
  |true=>
   simp only at h;split at h
   ·rw [zp1,X3] at d;exact wpIn_region_any t (jb0 j d.1 _ _ _ _ (vc0 k (fun e o=>f.normal e o) f.panic h i a g))
   ·rename_i I;rw [zp1,I] at d;simp at d
 | .seq x y,q,K,e,Q,F',w,d,j,h,f,i=>by
  unfold evC at h;rw [zp1,X3] at d;have:=zl4 k t x _ _ e _ F' w d.1 (qi2 j) h (f.behind (X:=y.wpIn (RD ro) m P Q) fun z A J L B a g=>
   zl4 k t y _ _ z Q J L d.2 j A f B a g) i
  exact fun a g=>wpIn_seq (this a g)
 | .cond c x y,q,K,e,Q,F',w,d,j,h,f,i=>by
  unfold evC at h;rw [zp1,X3] at d;split at h
  ·rename_i b M;obtain ⟨S,φ,p⟩:=i;obtain ⟨v,A,N⟩:=v4 p.fr M;have:=zf6 N;subst this;intro a g;refine wpIn_cond_split (g.eval A) (fun D=>?_) fun D=>?_
   ·rcases zh5 h with ⟨_,h⟩|⟨s,_⟩
    ·exact zl4 k t x _ K e Q F' w d.1 j h f ⟨S,φ,p⟩ a g
    ·exact absurd (D.symm.trans s) (by simp)
   ·rcases zh5 h with ⟨s,_⟩|⟨_,h⟩
    ·exact absurd (D.symm.trans s) (by simp)
    ·exact zl4 k t y _ K e Q F' w d.2 j h f ⟨S,φ,p⟩ a g
  ·cases h
 | .block id c,q,K,e,Q,F',w,d,j,h,f,i=>by
  unfold evC at h;rw [zp1] at d;have:=zl4 k t c _ _ e _ F' w d (jx3 j) h (f.block id) i;exact fun a g=>wpIn_block (this a g)
 | .exit id,q,K,e,Q,F',w,d,j,h,f,i=>fun a g=>wpIn_exit (f.exit id e h F' w i a g)
 | .ret,q,K,e,Q,F',w,d,j,h,f,i=>fun a g=>wpIn_ret (f.ret e h F' w i a g)
 | .loop c,q,K,e,Q,F',w,d,j,h,f,i=>by cases d
 | .rangeFunc ..,_,_,_,_,_,_,d,_,h,_,_=>by cases d
 | .scope _,_,_,_,_,_,_,d,_,h,_,_=>by cases d
 | .label _,_,_,_,_,_,_,d,_,h,_,_=>by cases d
 | .goto _,_,_,_,_,_,_,d,_,h,_,_=>by cases d
 | .refuse _,_,_,_,_,_,_,d,_,h,_,_=>by cases d
end
def odd:Obj->Bool| .loop _=>true| .deferred _=>true|_=>false
structure Turn (l:Nat) (w w':World):Prop where
 os:w'.os=w.os
 tape:w'.tape=w.tape
 output:w'.output=w.output
 size:w'.heap.size=w.heap.size
 old: ∃o,w.heap[l]?=some o/\odd o=true
 block: ∀k,k≠l->w'.heap[k]?=w.heap[k]?
def Turn.putObj {w l o} (a) (h:w.heap[l]?=some o) (b:odd o=true):Turn l w (w.putObj l a):=
 ⟨rfl,rfl,rfl,World.putObj_size,⟨o,h,b⟩,fun _ c=>World.putObj_heap_other c⟩
section
variable {T:Tab} {w w':World} {l:Nat} {S:List Nat} {φ:Nat->RA}
def Turn.cell (h:Turn l w w') {a v} (b:w.cell? a=some v):w'.cell? a=some v:=by
 have c:a.block≠l:=by
  intro e;obtain ⟨o,d,f⟩:=h.old;unfold World.cell? at b;rw [e,d] at b;cases o<;>first|(cases f;done)|simp at b
 exact (World.cell?_of_block (h.block _ c)).trans b
def Turn.chg (h:Turn l w w'):Chg [l] w w':=⟨h.os,h.tape,h.output,Nat.le_of_eq h.size.symm,fun k _ a=>h.block k fun e=>a (by simp [e])⟩
def CR.turn (h:Turn l w w') {t:Ty} {x:den T.U t} {v:Value} (hr:CR T w S t x v):CR T w' S t x v:=by
 induction hr with
 |int k x=>exact .int k x
 |bool b=>exact .bool b
 |str s=>exact .str s
 |list e xs ad cap u hcap hnil had hcell hrel ih=>
  refine .list e xs ad cap u hcap hnil ?_ (fun k j c hk=>h.cell (hcell k j c hk)) ih;intro hx;obtain ⟨h1,h2,h3⟩:=had hx;exact ⟨h1,by rw [h.size];exact h2,h3⟩
def CellsR.turn (h:Turn l w w') {a b} (d:CellsR T w S a b):CellsR T w' S a b:=⟨d.1,fun j c v e f=>CR.turn h (d.2 j c v e f)⟩
mutual
def VR.turn (h:Turn l w w'): ∀ {a v},VR T w S φ a v->VR T w' S φ a v
 | .cell c,v,d=>CR.turn h d
 | .ptr i o,v,d=>d
 | .eptr i sz k c,v,d=>d
 | .lptr e x k o,v,d=>by obtain ⟨y,s,g,j,p⟩:=d;exact ⟨y,s,CR.turn h g,j,p⟩
 | .own i,v,d=>d
 | .sl i sz o n,v,d=>d
 | .agg z,v,d=>by obtain ⟨q,g,j⟩:=d;exact ⟨q,g,VRL.turn h j⟩
 | .tup z,v,d=>by obtain ⟨q,g,j⟩:=d;exact ⟨q,g,VRL.turn h j⟩
 | .fn f a b,v,d=>by obtain ⟨A,B,g,j,p⟩:=d;exact ⟨A,B,g,VRL.turn h j,VRL.turn h p⟩
 | .ifc t a,v,d=>by obtain ⟨u,g,j⟩:=d;exact ⟨u,g,VR.turn h j⟩
 | .raw u,v,d=>d
 | .arr t n x,v,d=>by obtain ⟨q,g,j,p⟩:=d;exact ⟨q,g,j,CellsR.turn h p⟩
 | .aptr i o sz n k c,v,d=>d
 | .asl i o sz n D m,v,d=>d
 | .mp i,v,d=>d
def VRL.turn (h:Turn l w w'): ∀ {as b},VRL T w S φ as b->VRL T w' S φ as b
 | [],[],_=>trivial
 | [],_::_,a=>a.elim
 |_::_,[],a=>a.elim
 |_::_,_::_,a=>⟨VR.turn h a.1,VRL.turn h a.2⟩
end
def BR.turn' (h:Turn l w w') {a b} (c:BR T w S φ a b):BR T w' S φ a b:=⟨VRL.turn h c.1,c.2⟩
def MR.turn (h:Turn l w w') {k}: ∀ {b c},MR T w S φ k b c->MR T w' S φ k b c
 | [],[],_=>trivial
 | [],_::_,a=>a.elim
 |_::_,[],a=>a.elim
 |(_,_)::_,_::_,a=>⟨a.1,VR.turn h a.2.1,MR.turn h a.2.2⟩
def TR.turn (h:Turn l w w') {k t}: ∀ {b c},TR T w S k t b c->TR T w' S k t b c
 | [],[],_=>trivial
 | [],_::_,a=>a.elim
 |_::_,[],a=>a.elim
 |(_,_)::_,_::_,a=>⟨a.1,CR.turn h a.2.1,TR.turn h a.2.2⟩
def DC.turn (h:Turn l w w') {e:TypeId} {c:Cell T.U} {v:Value} (hb:l∉zw0 T e c v) (hd:DC T w S e c v):DC T w' S e c v:=by
 obtain ⟨t,x⟩:=c;cases t with
 |list t=>
  refine ⟨fun he=>CR.turn h (hd.1 he),fun he=>?_⟩;obtain ⟨B,ad,cap,vals,rfl,h1,h2,h3⟩:=hd.2 he;refine ⟨B,ad,cap,vals,rfl,h1.chg h.chg ?_,by rw [h.size];exact h2,CellsR.turn h h3⟩;have hz:Nat.beq e 0=false:=by cases hb:Nat.beq e 0;rfl;exact absurd (X1 hb) he
  cases had:ad with
  |none=>exact .inr rfl
  |some a=>
   subst had;refine .inl fun hm=>hb ?_;rw [<-List.mem_singleton.1 hm];simp [zw0,hz,zm9,bk]
 |_=>exact CR.turn h hd
def EntR.turn (h:Turn l w w') (hl:l∉S) {i:Nat} {e:Ent T.U} (hlv:e.live=true-> ∀a,At (φ i) a->a.block∈S) (he:EntR T w S φ i e):EntR T w' S φ i e:=by
 cases e with
 |drow e d fe xs op=>
  obtain ⟨B,vals,h1,hn,h2,h3,h4⟩:=he;refine ⟨B,vals,?_,hn,by rw [h.size];exact h2,h3,⟨fun j c v q1 q2 q3=>⟨DC.turn h (fun hm=>?_) (h4.cl j c v q1 q2 q3).1,(h4.cl j c v q1 q2 q3).2⟩,h4.ap,fun a cs q1=>⟨(h4.opn a cs q1).1,(h4.opn a cs q1).2.1,fun f x hx=>by obtain ⟨v,q2,q3⟩:=(h4.opn a cs q1).2.2 f x hx;exact ⟨v,q2,VR.turn h q3⟩⟩⟩⟩
  ·cases hφ:(φ i).ad with
   |none=>rw [hφ] at h1;exact h1.chg h.chg (.inr rfl)
   |some a=>rw [hφ] at h1;exact h1.chg h.chg (.inl (by simp;intro e;exact hl (e▸h3 a hφ)))
  ·exact hl (hlv rfl ⟨l,0,none⟩ (.inr ((h4.cl j c v q1 q2 q3).2 l hm).1))
 |blk e cs=>
  obtain ⟨g,c,h1,h2,h3,h4⟩:=he;exact ⟨g,c,h1,h2.chg h.chg (by simp;intro e;subst e;exact hl h3),h3,BR.turn' h h4⟩
 |row e t xs=>
  obtain ⟨B,vals,h1,hn,h2,h3,h4⟩:=he;refine ⟨B,vals,?_,hn,by rw [h.size];exact h2,CellsR.turn h h3,h4⟩;cases hφ:(φ i).ad with
  |none=>rw [hφ] at h1;exact h1.chg h.chg (.inr rfl)
  |some a=>rw [hφ] at h1;exact h1.chg h.chg (.inl (by simp;intro e;exact hl (e▸h4 a hφ)))
 |map k es=>
  obtain ⟨g,ls,c,h1,h2,h3,h4⟩:=he;exact ⟨g,ls,c,h1,h2.chg h.chg (by simp;intro e;subst e;exact hl h3),h3,MR.turn h h4⟩
 |tmap k t m=>
  obtain ⟨g,ls,c,h1,h2,h3,h4,h5⟩:=he;exact ⟨g,ls,c,h1,h2.chg h.chg (by simp;intro e;subst e;exact hl h3),h3,TR.turn h h4,h5⟩
 |gone=>trivial
variable {w0:World} {S0:Ow} {F:AF T} {H:List (Ent T.U)} {F':PF}
def Sim.turn (c:Sim T w0 S0 ⟨F,H⟩ F' w S φ) (h:Turn l w w') (j:l∉S) (k:w0.heap.size<=l):Sim T w0 S0 ⟨F,H⟩ F' w' S φ:=by
 refine ⟨fun i a d=>?_,c.ids,c.chg.step h.chg (by simpa using .inr k),fun b f=>⟨(c.own b f).1,by rw [h.size];exact (c.own b f).2⟩,c.ex,c.lives,c.pins,fun i e g=>EntR.turn h j (fun o a d=>(c.lives i e g o a d).1) (c.ents i e g),c.eids,c.apart⟩;obtain ⟨v,p,q⟩:=c.fr i a d;exact ⟨v,p,VR.turn h q⟩
def agn (w0:World) (S0:Ow) (S:List Nat) (φ:Nat->RA) (k:Nat):Ow:=⟨S.filter fun b=>ye4 b S0.chg||Nat.ble w0.heap.size b,S,(List.range k).map φ⟩
def jb1 {k b}:b∈(agn w0 S0 S φ k).chg↔b∈S/\(b∈S0.chg\/w0.heap.size<=b):=by
 show b∈S.filter _↔_;rw [W3,V5,zb9,Nat.ble_eq]
def vs3 {k j x} (h:(agn w0 S0 S φ k).pin[j]?=some x):φ j=x/\j<k:=by
 have h:((List.range k).map φ)[j]?=some x:=h;rw [W4] at h;cases hj:(List.range k)[j]? with
 |none=>rw [hj] at h;cases h
 |some i=>
  rw [hj] at h;obtain ⟨a,b⟩:=X2.1 hj;simp at a b h;subst b;exact ⟨h,a⟩
def Sim.anew (c:Sim T w0 S0 ⟨F,H⟩ F' w S φ):Sim T w (agn w0 S0 S φ H.length) ⟨F,H⟩ F' w S φ:=by
 refine ⟨c.fr,c.ids,Chg.refl _ _,fun b d=>⟨.inl d,(c.own b d).2⟩,fun b d _ _=>d,fun i e f g a h=>⟨(c.lives i e f g a h).1,.inl (jb1.2 (c.lives i e f g a h))⟩,fun k r j=>⟨.of (vs3 j).1,(vs3 j).2⟩,c.ents,c.eids,c.apart⟩
def vn3 (F:AF T):Prop:= ∀i a,F.get T i=some a->zh4 a=true
def Sim.after (p:Sim T w0 S0 ⟨F,H⟩ F' w S φ) (O:vn3 F) {B t u z y g} (d:Sim T w (agn w0 S0 S φ H.length) ⟨B,t⟩ u z y g):
  Sim T w0 S0 ⟨B,t⟩ u z y g/\Sim T w0 S0 ⟨F,t⟩ F' z y g/\Chg (agn w0 S0 S φ H.length).chg w z/\(∀b∈y,b∈S\/w.heap.size<=b)/\(∀k,k<H.length->RSame (g k) (φ k))/\H.length<=t.length:=by
 have f: ∀k,k<H.length->RSame (g k) (φ k)/\k<t.length:=fun k A=>d.pins k (φ k) (by
  show ((List.range H.length).map φ)[k]?=some (φ k);rw [W4,List.getElem?_range A];rfl)
 have q:H.length<=t.length:=by
  rcases N5 H.length with V|V
  ·omega
  ·have:=(f (H.length-1) (by omega)).2;omega
 have D: ∀b∈y,b∈S\/w.heap.size<=b:=fun b o=>(d.own b o).1;have x: ∀b∈(agn w0 S0 S φ H.length).chg,b∈S0.chg\/w0.heap.size<=b:=fun b o=>(jb1.1 o).2;have W:=p.chg.size;have c:Sim T w0 S0 ⟨B,t⟩ u z y g:=by
  refine ⟨d.fr,d.ids,p.chg.step d.chg x,fun b o=>⟨?_,(d.own b o).2⟩,fun b o K E=>?_,fun i e L M a s=>?_,fun k r A=>?_,d.ents,d.eids,d.apart⟩
  ·rcases D b o with h|h
   ·exact (p.own b h).1
   ·exact .inr (by omega)
  ·have N:=p.ex b o K E;exact d.ex b N (fun X=>by rcases x b X with h|h;exact K h;omega) (p.own b N).2
  ·refine ⟨(d.lives i e L M a s).1,?_⟩;rcases (d.lives i e L M a s).2 with h|h
   ·exact x _ h
   ·exact .inr (by omega)
  ·obtain ⟨G,I⟩:=p.pins k r A;obtain ⟨Y,Z⟩:=f k I;exact ⟨Y.trans G,Z⟩
 refine ⟨c,?_,d.chg,D,fun k A=>(f k A).1,q⟩;refine ⟨fun i a s=>?_,fun i a s=>?_,c.chg,c.own,c.ex,c.lives,c.pins,c.ents,c.eids,c.apart⟩
 ·obtain ⟨v,G,I⟩:=p.fr i a s;exact ⟨v,G,(I.chg T d.chg (fun b o=>(jb1.1 o).1) D).phiS fun j J=>(f j ((p.ids i a s).1 j J)).1⟩
 ·exact zd3 (O i a s) fun j J=>V6 ((p.ids i a s).1 j J) q
end
end Go.X
namespace Go.X
open Go.RowKit Go.V
def qm4 (P:Program) (l:Nat) (args:Array Value) (W:World) (R:Ending->World->Prop):Prop:=
 ∃d b a c,(Instr.yield l args).run P W=.ok (.round l d b a c) W/\RoundIn Fence.wide 0 P l d b a c W R
structure ItS (T:Tab) where
 cnt:List (AV T.U)->List (Ent T.U)->Option Nat
 item:List (AV T.U)->List (Ent T.U)->Nat->Option (List (AV T.U))
def wp0 (T:Tab) (P:Program) (g:FuncId) (m:ItS T):Prop:=
 ∀(b:List (AV T.U)) (H:List (Ent T.U)) (N:Nat),m.cnt b H=some N->
  ∀(w0:World) (S0:Ow) (F:AF T) (F':PF) (w:World) (S:List Nat) (φ:Nat->RA) (f:List Value),Sim T w0 S0 ⟨F,H⟩ F' w S φ->VRL T w S φ b f->
  ∃o:Nat->World->List Value->Prop,
   (∀(k:Nat) (h:List (Ent T.U)) (v:List (AV T.U)) (w0:World) (S0:Ow) (F:AF T) (F':PF) (d:World) (i:List Nat) (c:Nat->RA),m.item b h k=some v->Sim T w0 S0 ⟨F,h⟩ F' d i c->VRL T d i c b f->
    ∃us,o k d us/\VRL T d i c v us/\ ∀a∈v,okA h a)/\
   ∀(l:Nat) (J:Nat->World->Prop),(∀k W,k<N->J k W-> ∃us,o k W us/\qm4 P l us.toArray W fun e j=>e=.returned (.bool true)/\J (k+1) j)->J 0 w->
    Calls P g (#[.func (.yield l) #[] #[]]++f.toArray) w fun e j=>(∃v,e=.returned v)/\J N j
section
variable {T:Tab} {R:Type}
def putA:List Nat->List (AV T.U)->AF T->AF T
 |p::ps,a::as,F=>putA ps as ((p,a)::F)
 |_,_,F=>F
def ws7:List Nat->List Value->PF->PF
 |p::ps,v::a,F=>ws7 ps a ((p,v)::F)
 |_,_,F=>F
variable (P:Program) (C:Ctx T) (n:Nat)
noncomputable def vr2 (ps:List Nat) (as b:Code) (F:AF T) (v:List (AV T.U)) (H:List (Ent T.U)) (K:List (Ent T.U)->Option R):Option R:=
 match Nat.beq v.length ps.length with
 |true=>evC P C n [] (fun _ _=>none) as [] ⟨fun c=>evC P C n [] (fun _ _=>none) b [] ⟨fun a=>K a.H,fun _ _=>none,fun _=>none,fun _ _=>none⟩ c,fun _ _=>none,fun _=>none,fun _ _=>none⟩ ⟨putA ps v F,H⟩
 |false=>none
noncomputable def jz0 (c:ItS T) (a:List (AV T.U)) (ps:List Nat) (as d:Code) (F:AF T) (b:List (Ent T.U)->Option R) (m:Nat):Nat->List (Ent T.U)->Option R:=
 Nat.rec (fun _ H=>b H) (fun _ e k H=>match c.item a H k with|some v=>vr2 P C n ps as d F v H fun f=>e (k+1) f|none=>none) m
end
section
variable {T:Tab} {P:Program} {C:Ctx T} {w0:World} {S0:Ow} {n:Nat} {ds:List Deferred} {R:Type} {r:R} {w:World} {S:List Nat} {φ:Nat->RA} {F:AF T} {H:List (Ent T.U)} {F':PF}
def vv8: ∀ {ps us F' a},(ps.all fun p=>Nat.blt p n)=true->Fr n ds F' a->
  Fr n ds (ws7 ps us F') {a with tmps:=(ps.zip us).foldl (fun t (p:Nat×Value)=>t.setIfInBounds p.1 p.2) a.tmps}
 | [],_,F',a,_,h=>h
 |_::_,[],F',a,_,h=>h
 |p::ps,u::us,F',a,b,h=>by
  rw [V1,X3] at b;have c:=h.upd (dst:=some p) (by simpa [zi4] using b.1) u;exact vv8 (ps:=ps) (us:=us) b.2 c
def qz4: ∀ {ps v us F F'},Sim T w0 S0 ⟨F,H⟩ F' w S φ->VRL T w S φ v us->(∀a∈v,okA H a)->Sim T w0 S0 ⟨putA ps v F,H⟩ (ws7 ps us F') w S φ
 | [],v,us,F,F',h,c,_=>by cases v<;>cases us<;>exact h
 |_::_,[],[],F,F',h,_,_=>h
 |_::_,[],_::_,_,_,_,c,_=>c.elim
 |_::_,_::_,[],_,_,_,c,_=>c.elim
 |p::ps,a::v,u::us,F,F',h,c,d=>qz4 (ps:=ps) (h.slot (dst:=some p) c.1 (d a (U8 ..))) c.2 fun b e=>d b (Z4 _ e)
def qi4 (hE:zb4 T P C.E) (hm:P.follows .mixedOrders=true) {Q f ps as I c g it N F s}
  (hF:F.get T f=some (.fn (.func g) [] c)) (hen:zm3 P g=true) (hit:wp0 T P g it) (hc:it.cnt c H=some N) (hp:vn3 F) (hd1:zp1 C.ms as=true) (hd2:zp1 C.ms I=true) (hps:(ps.toList.all fun p=>Nat.blt p n)=true)
  (hr:jz0 P C n it c ps.toList as I F s N 0 H=some r) (hs:Sim T w0 S0 ⟨F,H⟩ F' w S φ) {a} (ha:Fr n ds F' a)
  (hend: ∀z w1 y q D,s z=some r->Sim T w0 S0 ⟨F,z⟩ F' w1 y q->w1.heap[D]?=some (.deferred (some []))->D∉y->w0.heap.size<=D->Q .normal {a with defers:= {target:=.collected D,args:= #[]}::a.defers} w1):
  (Code.rangeFunc (.tmp f) ps as I).wpIn Fence.wide 0 P Q a w:=by
 obtain ⟨vf,hvf,hrf⟩:=hs.fr f _ hF;obtain ⟨va,vb,rfl,hva,hvb⟩:=hrf;have hva0:va= #[]:=by
  cases hl:va.toList with
  |nil=>exact Array.toList_inj.1 (by simpa using hl)
  |cons x r=>rw [hl] at hva;exact hva.elim
 subst hva0;have hev:a.eval (.tmp f)=.func (.func g) #[] vb:=ha.eval (x:=.tmp f) hvf;refine wpIn_rangeFunc ?_;intro fn _;obtain ⟨j,o⟩: ∃j:LoopState->Option Code->Loop,j=fun st pe=> {state:=st,pending:=pe,fn,tmps:=a.tmps,params:=ps,assign:=as,body:=I,defers:=w.heap.size}:=⟨_,rfl⟩;obtain ⟨K,L⟩: ∃K,(w.alloc (.deferred (some []))).alloc (.loop (j .ready none))=K:=⟨_,rfl⟩;have hL1:K.heap[w.heap.size+1]?=some (.loop (j .ready none)):=by
  rw [<-L];have:=World.alloc_heap_new (w.alloc (.deferred (some []))) (.loop (j .ready none));rwa [World.size_alloc] at this
 have hK1:K.heap[w.heap.size]?=some (.deferred (some [])):=by
  rw [<-L];exact (Below.heap_alloc _ _ _ (by simp)).trans (World.alloc_heap_new w _)
 have hc1:Chg [] w K:=by rw [<-L];exact (Chg.alloc _ _).pure (Chg.alloc _ _)
 have hs1:=hs.pure hc1;have hw0:w0.heap.size<=w.heap.size:=hs.chg.size;have Y: ∀b∈S,b<w.heap.size:=fun b hb=>(hs.own b hb).2;refine ⟨w.heap.size+1,[{target:=.collected w.heap.size,args:= #[]}],K,{target:=.fn (.func g) vb,args:= #[.func (.yield (w.heap.size+1)) #[] #[]]},K,g,
  #[.func (.yield (w.heap.size+1)) #[] #[]]++vb,K,?_,?_,fun _ _=>trivial,?_,fun h=>(by cases h),?_⟩
 ·rw [<-L,o];exact run_enterLoop_outer _ _ _ _ _
 ·simp only [resolve,hev];simp [go_sem]
 ·simp [invoke,go_sem,yc7 hen]
 generalize hl:w.heap.size+1=l at *;generalize hD:w.heap.size=D at *;refine callsIn_wide.2 ?_;have hvb1:VRL T K S φ c vb.toList:=by
  obtain ⟨v,A,h2⟩:=hs1.fr f _ hF;rw [hvf] at A;simp only [X0] at A;subst A;obtain ⟨_,vb',e,_,h3⟩:=h2;cases e;exact h3
 obtain ⟨Rd,hrd,hcall⟩:=hit c H N hc _ _ _ _ _ _ _ _ hs1 hvb1
 let J:Nat->World->Prop:=fun k W=>k<=N/\ ∃z y q,Sim T w0 S0 ⟨F,z⟩ F' W y q/\l∉y/\D∉y/\W.heap[l]?=some (.loop (j .ready none))/\W.heap[D]?=some (.deferred (some []))/\jz0 P C n it c ps.toList as I F s (N-k) k z=some r
 have hlS:l∉S:=fun h=>by have:=Y l h;omega
 have hDS:D∉S:=fun h=>by have:=Y D h;omega
 have M:w0.heap.size<=l:=by omega
 refine ((hcall l J ?_ ⟨J7 _,H,S,φ,hs1,hlS,hDS,hL1,hK1,hr⟩).mono ?_)
 ·
  rintro k W hk ⟨_,z,y,q,u,hl1,hD1,hL,hK,d⟩
  obtain ⟨m,hm1⟩: ∃m,N-k=m+1:=⟨N-k-1,by omega⟩;rw [hm1] at d;have d:(match it.item c z k with|some v=>vr2 P C n ps.toList as I F v z fun H2=>jz0 P C n it c ps.toList as I F s m (k+1) H2|none=>none)=some r:=d;split at d<;>try (cases d;done)
  rename_i v hv;unfold vr2 at d;split at d<;>try (cases d;done)
  rename_i B;have B:=X1 B;have hvb2:VRL T W y q c vb.toList:=by
   obtain ⟨v,A,h2⟩:=u.fr f _ hF;rw [hvf] at A;simp only [X0] at A;subst A;obtain ⟨_,vb',e,_,h3⟩:=h2;cases e;exact h3
  obtain ⟨us,hus,hvr,hok⟩:=hrd k z v _ _ _ _ _ _ _ hv u hvb2;have hus1:us.length=ps.size:=by rw [<-hvr.len T,B];simp
  have hlt:l<W.heap.size:=(Y3.1 hL).1;have hDlt:D<W.heap.size:=(Y3.1 hK).1;refine ⟨us,hus,fn,_,as,I,by have hy:=run_yield (P:=P) (args:=us.toArray) hL (by rw [o];simpa using hus1);rw [o] at hy;exact hy,roundIn_of_wpIn trivial ?_⟩;have hfr:Fr n [] (ws7 ps.toList us F') {tmps:=(ps.zip us.toArray).foldl (fun t (p:Tmp×Value)=>t.setIfInBounds p.1 p.2) a.tmps,defers:= []}:=by
   have h0:Fr n [] F' {tmps:=a.tmps,defers:= []}:=⟨ha.size,rfl,ha.val⟩;have A:=vv8 (us:=us) hps h0;have e:(ps.zip us.toArray).foldl (fun t (p:Tmp×Value)=>t.setIfInBounds p.1 p.2) a.tmps=(ps.toList.zip us).foldl (fun t (p:Nat×Value)=>t.setIfInBounds p.1 p.2) a.tmps:=by
    rw [<-Array.foldl_toList];simp
   rw [e];exact A
  have O:=qz4 (ps:=ps.toList) u.anew hvr hok;refine zl4 (ro:=some l) (m:=0) hE hm as [] _ _ _ _ W hd1 (by rintro ⟨_,_,h⟩;exact h) d ⟨?_,fun i st h=>(by cases h),fun st h=>(by cases h),fun a st h=>(by cases h)⟩ ⟨y,q,O⟩ _ hfr
  rintro st1 A F1 w1 ⟨S2,φ2,hsm⟩ a1 ha1
  obtain ⟨g1,g2,g3,g4,g5,g6⟩:=u.after hp hsm;have Z: ∀b,b∉y->b<W.heap.size->w1.heap[b]?=W.heap[b]?/\b∉S2:=fun b hb hbl=>⟨g3.block b hbl fun h=>hb (jb1.1 h).1,fun h=>by rcases g4 b h with h|h;exact hb h;omega⟩;obtain ⟨V,hl2⟩:=Z l hl1 hlt;obtain ⟨hK2,hD2⟩:=Z D hD1 hDlt;rw [hL] at V;rw [hK] at hK2;have hrb:(j .ready none).state=.ready:=by rw [o]
  refine ⟨_,run_beginRound V hrb,?_⟩;have ht:=Turn.putObj (.loop {j .ready none with state:=.busy}) V rfl;generalize hw2:w1.putObj l (.loop {j .ready none with state:=.busy})=w2 at ht;have hL3:w2.heap[l]?=some (.loop {j .ready none with state:=.busy}):=by rw [<-hw2];exact World.putObj_heap_same (Y3.1 V).1
  have hK3:w2.heap[D]?=some (.deferred (some [])):=by rw [<-hw2];exact (World.putObj_heap_other (by omega)).trans hK2
  have k1:=g1.turn ht hl2 M;have k2:=g2.turn ht hl2 M;refine zl4 (ro:=some l) (m:=0) hE hm I [] _ _ _ _ w2 hd2 (by rintro ⟨_,_,h⟩;exact h) A ⟨?_,fun i st h=>(by cases h),fun st h=>(by cases h),fun a st h=>(by cases h)⟩ ⟨S2,φ2,k1.anew⟩ _ ha1
  rintro st2 h2 F2 w3 ⟨S3,φ3,hsm3⟩ a2 ha2
  obtain ⟨q1,q2,q3,q4,q5,q6⟩:=k2.after hp hsm3;have hlt3:l<w2.heap.size:=(Y3.1 hL3).1;have hDlt3:D<w2.heap.size:=(Y3.1 hK3).1;have G: ∀b,b∉S2->b<w2.heap.size->w3.heap[b]?=w2.heap[b]?/\b∉S3:=fun b hb hbl=>⟨q3.block b hbl fun h=>hb (jb1.1 h).1,fun h=>by rcases q4 b h with h|h;exact hb h;omega⟩;obtain ⟨X,hl4⟩:=G l hl2 hlt3;obtain ⟨hK4,hD4⟩:=G D hD2 hDlt3;rw [hL3] at X;rw [hK3] at hK4;refine ⟨_,_,run_endRound none X,rfl,by omega,st2.H,S3,φ3,q2.turn (Turn.putObj _ X rfl) hl4 M,hl4,hD4,?_,(World.putObj_heap_other (by omega)).trans hK4,?_⟩
  ·rw [World.putObj_heap_same (Y3.1 X).1,o];rfl
  ·rw [show N-(k+1)=m by omega];exact h2
 ·
  rintro e W2 ⟨⟨v,rfl⟩,_,z,y,q,u,hl1,hD1,hL,hK,d⟩
  refine ⟨none,_,?_,hend z _ y q D ?_ (u.turn (Turn.putObj (.loop {j .ready none with state:=.exhausted}) hL rfl) hl1 M) ((World.putObj_heap_other (by omega)).trans hK) hD1 (by omega)⟩
  ·have:=run_endLoop (P:=P) hL (by rw [o];simp);rw [this];congr 1;rw [o]
  ·rw [Nat.sub_self] at d;exact d
end
structure RfP (T:Tab) where
 depth:Nat
 g:FuncId
 it:ItS T
 live:List Nat
section
variable (T:Tab) (P:Program)
def qo5:AF T->Bool
 | []=>true
 |(_,a)::r=>zh4 a&&qo5 r
noncomputable def rfK (C:Ctx T) (e:Func) (j:Nl) (a:List PE) (h:List Sh) (k:Sh) (D:RfP T) (c:Code) (d:St T):Option (zq1 T a×(zd9 T h⊕zd9 T [k])):=
 match c with
 | .block _ (.rangeFunc (.tmp f) ps as i)=>(match (zr8 T d.F D.live).get T f with
  |some (.fn (.func g) [] b)=>(match Nat.beq g D.g&&(zm3 P g&&(qo5 T (zr8 T d.F D.live)&&(zp1 C.ms as&&(zp1 C.ms i&&(ps.toList.all fun p=>Nat.blt p e.ntmps))))) with
   |true=>(match D.it.cnt b d.H with
    |some N=>jz0 P C e.ntmps D.it b ps.toList as i (zr8 T d.F D.live) (fun H=>z6 (yc0 T P e j a h ⟨zr8 T d.F D.live,H⟩) fun y=>some (y.1,.inl y.2)) N 0 d.H
    |none=>none)
   |false=>none)
  |_=>none)
 |_=>none
def gu4:Nat->Code->Option (Array Tmp×Code×Code)
 |0,.block _ (.rangeFunc _ ps as a)=>some (ps,as,a)
 |k+1,.seq _ y=>gu4 k y
 |_,_=>none
noncomputable def vy3 (C:Ctx T) (e:Func) (c:Code) (g:Nl) (a:List PE) (f:List Sh) (h:Sh) (D:RfP T) (b:List (AV T.U)) (m k:Nat) (d:St T):Option (zq1 T a×(zd9 T f⊕zd9 T [h])):=
 match gu4 D.depth c with
 |some (ps,as,i)=>jz0 P C e.ntmps D.it b ps.toList as i d.F (fun H=>z6 (yc0 T P e g a f ⟨d.F,H⟩) fun y=>some (y.1,.inl y.2)) m k d.H
 |none=>none
noncomputable def topR (C:Ctx T) (e:Func) (c:Code) (f:Nl) (ps:List Sh) (a:List PE) (b:List Sh) (d:Sh) (D:RfP T) (x:zd9 T ps):Option (zq1 T a×(zd9 T b⊕zd9 T [d])):=
 evS P C e.ntmps ⟨fun _=>none,fun _ _=>none,fun _=>none,qn8 T f a b d⟩ (rfK T P C e f a b d D) D.depth c ⟨yb6 T (zc0 T id ps x 0) 0,zg6 T id ps x 0⟩
end
section
variable {T:Tab} {P:Program} {w:World} {S:List Nat} {φ:Nat->RA} {w0:World} {S0:Ow} {F:AF T} {H:List (Ent T.U)} {F':PF}
def jg6: ∀ {F},qo5 T F=true->vn3 F
 | [],_,i,a,h=>by simp [AF.get] at h
 |(j,b)::r,c,i,a,h=>by
  rw [qo5,X3] at c;simp only [AF.get] at h;split at h
  ·simp only [X0] at h;subst h;exact c.1
  ·exact jg6 c.2 i a h
def Sim.sub (h:Sim T w0 S0 ⟨F,H⟩ F' w S φ) {F0} (c: ∀i a,F0.get T i=some a->F.get T i=some a):Sim T w0 S0 ⟨F0,H⟩ F' w S φ:=
 ⟨fun i a b=>h.fr i a (c i a b),fun i a b=>h.ids i a (c i a b),h.chg,h.own,h.ex,h.lives,h.pins,h.ents,h.eids,h.apart⟩
def vv6 {C f m c ps B nl b G D g} (hm:P.follows .mixedOrders=true) (hE:zb4 T P C.E)
  (hf:P.funcs[f]?=some m) (hb:m.body=some c) (hs:Nat.ble ps.length m.ntmps=true) (I:Nat.ble (za2 ps) C.pin=true) (d:Nat.beq b.length (za2 ps)=true) (hit:wp0 T P D.g D.it)
  (hg: ∀x y,g x=some y->topR T P C m c nl ps b B G D x=some y):POk T P f ⟨ps,b,B,G,g⟩:=by
 intro x y hy w S φ J t K L;have hN:=hg x y hy;have d:=X1 d;have M:(zc0 T id ps x 0).length=ps.length:=by
  have: ∀(l:List Sh) (x:zd9 T l) (k:Nat),(zc0 T id l x k).length=l.length:=by
   intro l;induction l with
   |nil=>intro x k;rfl
   |cons s r ih=>intro x k;exact congrArg (· +1) (ih x.2 _)
  exact this ps x 0
 have O:t.length=ps.length:=by rw [<-K.len T];exact M
 have hsz:t.length<=m.ntmps:=by rw [O];exact Y1 hs
 have hfr:Fr m.ntmps [] (jf8 t 0) {tmps:=t.toArray++Array.replicate (m.ntmps-t.toArray.size) undef,defers:= []}:=by
  refine ⟨by simp;omega,rfl,fun i v hv=>?_⟩;obtain ⟨_,e⟩:=ya5 t 0 i v hv;simp only [M1] at e;have hi:=(X2.1 e).1;refine ⟨?_,by omega⟩;rw [Y7,Array.getElem?_append_left (by simpa using hi)];simp [e]
 have o:=J.slots K L;have p:((List.range (za2 ps)).map φ).length<=C.pin:=by simpa using Y1 I
 refine callsIn_wide.1 (callsIn_of_wp_marks (F:=Fence.wide) (n:=0) hf hb trivial (wpIn_wide.2 (jd4 (r:=y) hm p hE D.depth c _ _ _ w hN (K2:=rfK T P C m nl b B G D) ⟨fun A h=>(by cases h),fun i A h=>(by cases h),fun A h=>(by cases h),fun a A h=>?_⟩ ?_ ⟨S,φ,o⟩ _ hfr)))
 ·intro F1 w1 S1 Q u j q hok U V;have h:qn8 T nl b B G a A=some y:=h;obtain ⟨Q,j,q,_⟩:=zg5 nl.bn j (as:= [a]) (us:= [u]) ⟨q,trivial⟩ (fun i hi=>hok.1 i (by simpa [v5] using hi));unfold qn8 at h;split at h<;>try (cases h;done)
  rename_i y1 l1 h1;split at h<;>try (cases h;done)
  rename_i z l2 e;split at h<;>try (cases h;done)
  rename_i hn;simp only [X0] at h;subst h;show LeavesInM Fence.wide 0 P m U.tmps _ U.defers (.panicking _) w1;rw [V.defers];exact ⟨z,rfl,u,rfl,qm5 d h1 e hn j q⟩
 ·intro c2 A e F1 w1 hs1 a V;obtain ⟨S1,Q,j⟩:=hs1;unfold rfK at e;split at e<;>try (cases e;done)
  rename_i id f2 pa as bd;split at e<;>try (cases e;done)
  rename_i g2 caps W;split at e<;>try (cases e;done)
  rename_i X;simp only [X3] at X;obtain ⟨b1,b2,b3,b4,b5,b6⟩:=X;have:=X1 b1;subst this;split at e<;>try (cases e;done)
  rename_i N hc;have Y:=j.sub (F0:=zr8 T A.F D.live) fun i a h=>yp6 h;refine wpIn_wide.1 (wpIn_block (qi4 hE hm W b2 hit hc (jg6 b3) b4 b5 b6 e Y V ?_));intro H1 w2 S2 φ2 Dm Z hs2 hD hDS hD0;obtain ⟨y',hy',he⟩:=za0 Z;simp only [X0] at he;subst he;show LeavesInM Fence.wide 0 P m a.tmps _ ({target:=.collected Dm,args:= #[]}::a.defers) .returning w2;refine ⟨by simp,.inl ⟨Dm,_,rfl,run_takeDeferred hD,?_⟩⟩;rw [V.defers];have hs3:=hs2.turn (Turn.putObj (.deferred none) hD rfl) hDS hD0;obtain ⟨v,h1,us,h3,h4⟩:=yn4 d hy' ⟨S2,φ2,hs3⟩ V;exact ⟨v,h1,_,rfl,us,h3,h4⟩
end
end Go.X
namespace Go.X
open Go.RowKit Go.V
def CWI (P:Program) (c:Code) (Q:Exit->Act->World->Prop) (n:Nat) (F:PF) (w:World):Prop:= ∀a,Fr n [] F a->c.wpIn Fence.wide 0 P Q a w
def WRI (P:Program) (ops:Array Oper) (Q:Exit->Act->World->Prop) (k n:Nat) (F:PF) (w:World):Prop:= ∀a,Fr n [] F a->wpListIn Fence.wide 0 P ops Q (ops.toList.drop k) a w
section
variable {P:Program} {ops:Array Oper} {Q:Exit->Act->World->Prop} {k n:Nat} {F F':PF} {w w':World}
def jf7 {o:Oper} {a:Act} {K} (h:o.uponIn Fence.wide 0 P a K Q ((execOp a.eval o).run P w)):o.wpIn Fence.wide 0 P a w K Q:=
 ⟨fun _ _=>trivial,by rw [show Fence.wide.round=none from rfl,Oper.semAt_none];exact h⟩
def WRI.step {o} (c:dec ops k n F=some o) (h: ∀a,Fr n [] F a->execOp a.eval o=execOp (evD F) o->o.wpIn Fence.wide 0 P a w (wpListIn Fence.wide 0 P ops Q (ops.toList.drop (k+1))) Q):WRI P ops Q k n F w:=by
 intro a b;obtain ⟨d,_,e,f,g⟩:=zi2 c;rw [zo9 d];unfold wpListIn;rw [if_pos (g b)];exact h a b (qj7 b e f)
def WRI.val {o v} (b:dec ops k n F=some o) (c:(execOp (evD F) o).run P w=.ok (.value v) w') (K:WRI P ops Q (k+1) n (upd F o.dst v) w'):WRI P ops Q k n F w:=
 .step b fun a d e=>jf7 (by rw [e,c];exact K _ (d.upd (zi2 b).2.1 v))
def WRI.skip {o} (b:dec ops k n F=some o) (c:(execOp (evD F) o).run P w=.ok .skip w') (K:WRI P ops Q (k+1) n (upd F o.dst undef) w'):WRI P ops Q k n F w:=
 .step b fun a d e=>jf7 (by rw [e,c];exact K _ (d.upd (zi2 b).2.1 undef))
def WRI.one (h:wd1 P ops k n F w=some (F',w')) (K:WRI P ops Q (k+1) n F' w'):WRI P ops Q k n F w:=by
 unfold wd1 at h;split at h
 ·cases h
 ·rename_i o f;split at h
  ·rename_i c;split at h
   ·rename_i d;have g:dec ops k n F=some o:=by unfold dec;simp only [f,c,d]
    split at h
    ·rename_i v b e;simp only [X0,X7] at h;obtain ⟨rfl,rfl⟩:=h;exact .val g e K
    ·rename_i b e;simp only [X0,X7] at h;obtain ⟨rfl,rfl⟩:=h;exact .skip g e K
    ·cases h
   ·cases h
  ·rename_i c;split at h
   ·rename_i d;simp only [X0,X7] at h;obtain ⟨rfl,rfl⟩:=h;intro a i;rw [zo9 f];unfold wpListIn;rw [if_neg (by rw [yj9 i c];simp)];exact ⟨fun _ _=>trivial,K _ (i.upd d undef)⟩
   ·cases h
  ·cases h
def WRI.evs: ∀(m k F w),evK P ops n m k F w=some (F',w')->WRI P ops Q (k+m) n F' w'->WRI P ops Q k n F w
 |0,_,_,_,h,K=>by
  simp only [evK,X0,X7] at h;obtain ⟨rfl,rfl⟩:=h;exact K
 |m+1,k,F,w,h,K=>by
  unfold evK at h;split at h
  ·rename_i a b c;exact WRI.one c (WRI.evs m (k+1) a b h (by rw [V0,J8 1 m];exact K))
  ·cases h
def WRI.batch (m F') (h:(match evK P ops n m k F w with|some (G,b)=>some (G.keep (F'.map Prod.fst),b)|none=>none)=some (F',w)) (K:WRI P ops Q (k+m) n F' w):WRI P ops Q k n F w:=by
 split at h
 ·rename_i G b c;simp only [X0,X7] at h;obtain ⟨d,rfl⟩:=h;exact .evs m k F _ c fun a e=>K a (e.keep _ d)
 ·cases h
def WRI.load {dst t g o c e} (b:Blk w g c e) (d:ye1 ops k n F=some (dst,t,.pointer (some ⟨g,o,none⟩))) (v) (f:ldv P t c o=some v)
  (K:WRI P ops Q (k+1) n (upd F dst v) w):WRI P ops Q k n F w:=by
 obtain ⟨op,a,rfl,h⟩:=zw2 d;refine .val a (v:=v) (w':=w) ?_ K;rw [h];simp [Instr.loadAt,Instr.sureAddr,zt6 b f]
def qw2 (ops:Array Oper) (k n:Nat) (F:PF):Option (Option Tmp×Value×List Value):=
 match dec ops k n F with|some ⟨dst,.call ⟨.value x,as,_⟩,_,_,_,_⟩=>some (dst,evD F x,as.toList.map (evD F))|_=>none
def WRI.yield {dst l us R} (g:qw2 ops k n F=some (dst,.func (.yield l) #[] #[],us)) (t:qm4 P l us.toArray w R)
  (u: ∀e w',R e w'-> ∃v,e=.returned v) (K: ∀v w',R (.returned v) w'->WRI P ops Q (k+1) n (upd F dst v) w'):WRI P ops Q k n F w:=by
 unfold qw2 at g;split at g
 ·rename_i d x as o y p z A c;simp only [X0,X7] at g;obtain ⟨rfl,B,rfl⟩:=g;obtain ⟨C,i,q,j,f,b⟩:=t;refine .step c fun a D E=>jf7 ?_;have r:(execOp (evD F) ⟨d,.call ⟨.value x,as,o⟩,y,p,z,A⟩).run P w=.ok (.round l C i q j) w:=by
   have e:(List.map (evD F) as.toList).toArray=as.map (evD F):=by rw [<-Array.toList_map]
   rw [e] at f;simp [execOp,resolve,B,Deferred.ofValue,invoke,f]
  rw [E,r];refine ⟨fun h=>(by cases h),b.mono fun e m s=>?_⟩;obtain ⟨v,rfl⟩:=u e m s;exact K v m s _ (D.upd (zi2 c).2.1 v)
 ·cases g
def WRI.fin (b:Nat.ble ops.size k=true) (K: ∀a,Fr n [] F a->Q .normal a w):WRI P ops Q k n F w:=fun a c=>by
 rw [T6 (by simpa using Y1 b)];exact K a c
def CWI.region {id} (h:WRI P ops Q 0 n F w):CWI P (.region id ops false) Q n F w:=fun a b=>wpIn_region_list (by simpa using h a b)
def CWI.seq {x y} (h:CWI P x (Exit.then (fun a w=> ∃b,Fr n [] b a/\CWI P y Q n b w) Q) n F w):CWI P (.seq x y) Q n F w:=
 fun a d=>wpIn_seq (wpIn_mono (h a d) fun e f w' c=>by cases e<;>first|exact c|(obtain ⟨b,g,i⟩:=c;exact i f g))
def CWI.block {id c} (h:CWI P c (Exit.inBlock id Q) n F w):CWI P (.block id c) Q n F w:=fun a b=>wpIn_block (h a b)
def CWI.cond {c x y} (t) (d:ev F c=some (.bool t)) (e:t=true->CWI P x Q n F w) (f:t=false->CWI P y Q n F w):CWI P (.cond c x y) Q n F w:=
 fun a b=>wpIn_cond_split (b.eval d) (fun h=>e h a b) (fun h=>f h a b)
def CWI.skip (K: ∀a,Fr n [] F a->Q .normal a w):CWI P .skip Q n F w:=fun a b=>wpIn_skip (K a b)
def CWI.exit {id} (K: ∀a,Fr n [] F a->Q (.exit id) a w):CWI P (.exit id) Q n F w:=fun a b=>wpIn_exit (K a b)
end
def qi1 {Q id a w} (h:Q .normal a w):Exit.inBlock id Q (.exit id) a w:=by
 show (if id=id then Q .normal a w else Q (.exit id) a w);rw [if_pos rfl];exact h
def qh8 {P n F w f a c args R} (d:P.funcs[f]?=some a) (e:a.body=some c) (g:a.ntmps=n) (j:Nat.ble args.size n=true)
  (l) (m:(jf8 args.toList 0).keep l=F) (h:CWI P c (bodyPostM Fence.wide 0 P a R) n F w):Calls P f args w R:=by
 have o:args.size<=n:=Y1 j;refine callsIn_wide.1 (callsIn_of_wp_marks (F:=Fence.wide) (n:=0) d e trivial (h _ (Fr.keep ⟨?_,rfl,?_⟩ l m)))
 ·simp [g];omega
 ·intro i v p;obtain ⟨_,b⟩:=ya5 args.toList 0 i v p;simp only [M1,Array.getElem?_toList] at b;have q:=(Y3.1 b).1;refine ⟨?_,by omega⟩;rw [Y7,Array.getElem?_append_left q,b];rfl
section
variable {T:Tab}
def qm8 (H:List (Ent T.U)) (t:TypeId) (i:Nat):Option Int:=
 match H[i]? with
 |some (.blk a [.cell ⟨.int .i64,x⟩])=>match Nat.beq a t with|true=>some x|false=>none
 |_=>none
def gt9 (a b:TypeId) (H:List (Ent T.U)):List (AV T.U)->Option (Int×Int)
 | [.ptr i 0,.ptr j 0]=>match qm8 H a i,qm8 H b j with|some x,some y=>some (x,y)|_,_=>none
 |_=>none
def wq9 (b c:TypeId):ItS T where
 cnt:=fun a H=>match gt9 b c H a with|some (x,_)=>z9 (decide (x<=8)) (some x.toNat) none|none=>none
 item:=fun a H k=>match gt9 b c H a with
  |some (x,y)=>some [cI T .i64 (IntKind.i64.wrap (y+(k:Int))),cI T .i64 (IntKind.i64.wrap (8*IntKind.i64.wrap (IntKind.i64.wrap (x-1)-(k:Int))))]
  |none=>none
def jg0 {H t i x} (h:qm8 H t i=some x):H[i]?=some (.blk t [cI T .i64 x]):=by
 unfold qm8 at h;split at h
 ·rename_i c y a;split at h
  ·rename_i b;cases h;rw [a,X1 b]
  ·cases h
 ·cases h
def qg0 {b c H a x y} (h:gt9 b c H a=some (x,y)): ∃i j,a= [.ptr i 0,.ptr j 0]/\H[i]?=some (.blk b [cI T .i64 x])/\H[j]?=some (.blk c [cI T .i64 y]):=by
 unfold gt9 at h;split at h
 ·rename_i i j;split at h
  ·rename_i f g d e;simp only [X0,X7] at h;obtain ⟨rfl,rfl⟩:=h;exact ⟨i,j,rfl,jg0 d,jg0 e⟩
  ·cases h
 ·cases h
variable {w0 w:World} {S0:Ow} {F:AF T} {H:List (Ent T.U)} {F':PF} {S:List Nat} {φ:Nat->RA}
def yy1 (e:Sim T w0 S0 ⟨F,H⟩ F' w S φ) {i t x} (f:H[i]?=some (.blk t [cI T .i64 x])) {g} (h:(φ i).ad=some ⟨g,0,none⟩):Blk w g #[.int .i64 x] t:=by
 obtain ⟨o,c,b,j,_,l⟩:=e.ents i _ f;rw [h] at b;simp only [X0,Addr.mk.injEq,and_true] at b;subst b;have a:=l.vrl T rfl
 match m:c.toList,a with
 | [v],a=>
  obtain ⟨d,_⟩:=a;have d:CR T w S (.int .i64) x v:=d;cases d;have:c= #[Value.int .i64 x]:=Array.toList_inj.1 (by rw [m]);rw [<-this];exact j
 | [],a=>exact a.elim
 |_::_::_,a=>exact a.2.elim
def wg9 {P g f h}
  (p: ∀(m o l:Nat) (sz:Int) (J:Nat->World->Prop) (w:World),sz<=8->(∃y,Blk w m #[.int .i64 sz] f/\Blk w o #[.int .i64 y] h)->
   (∀k W,k<sz.toNat->J k W-> ∃x y,Blk W m #[.int .i64 x] f/\Blk W o #[.int .i64 y] h/\qm4 P l #[.int .i64 (IntKind.i64.wrap (y+(k:Int))),.int .i64 (IntKind.i64.wrap (8*IntKind.i64.wrap (IntKind.i64.wrap (x-1)-(k:Int))))] W fun e t=>e=.returned (.bool true)/\J (k+1) t)->
   J 0 w->Calls P g #[.func (.yield l) #[] #[],.pointer (some ⟨m,0,none⟩),.pointer (some ⟨o,0,none⟩)] w fun e t=>(∃v,e=.returned v)/\J sz.toNat t):wp0 T P g (wq9 f h):=by
 intro q H N r w0 S0 F F' w S φ V M u;have d:(match gt9 f h H q with|some (x,_)=>z9 (decide (x<=8)) (some x.toNat) none|none=>none)=some N:=r;clear r;split at d<;>try (cases d;done)
 rename_i x y X;obtain ⟨i,j,rfl,z,Y⟩:=qg0 X;rcases zh5 d with ⟨Z,d⟩|⟨_,d⟩
 case inr=>cases d
 simp only [X0] at d;subst d
 match V,u with
 | [v1,v2],u=>
  obtain ⟨⟨m,a1,rfl⟩,⟨o,a2,rfl⟩,_⟩:=u;refine ⟨fun k W us=> ∃x y,Blk W m #[.int .i64 x] f/\Blk W o #[.int .i64 y] h/\us= [.int .i64 (IntKind.i64.wrap (y+(k:Int))),.int .i64 (IntKind.i64.wrap (8*IntKind.i64.wrap (IntKind.i64.wrap (x-1)-(k:Int))))],?_,?_⟩
  ·intro k H1 v w0 S0 F F' w1 S1 φ1 b s A;have b:(match gt9 f h H1 [.ptr i 0,.ptr j 0] with
    |some (x,y)=>some [cI T .i64 (IntKind.i64.wrap (y+(k:Int))),cI T .i64 (IntKind.i64.wrap (8*IntKind.i64.wrap (IntKind.i64.wrap (x-1)-(k:Int))))]
    |none=>none)=some v:=b
   split at b<;>try (cases b;done)
   rename_i B C D;simp only [X0] at b;subst b;obtain ⟨i',j',e,E,G⟩:=qg0 D;simp only [List.cons.injEq,AV.ptr.injEq,and_true] at e;obtain ⟨rfl,rfl⟩:=e;obtain ⟨⟨g1',I,O⟩,⟨g2',K,R⟩,_⟩:=A;simp only [Value.pointer.injEq,X0,Addr.mk.injEq,and_true] at O R;subst O;subst R;refine ⟨_,⟨B,C,yy1 s E I,yy1 s G K,rfl⟩,⟨.int _ _,.int _ _,trivial⟩,fun a U=>?_⟩;simp only [Z0,J1,or_false] at U;rcases U with rfl|rfl<;>exact zd3 rfl (by intro i z;cases z)
  ·intro l J c h0;have L:x<=8:=of_decide_eq_true Z;refine p m o l x J w L ⟨y,yy1 M z a1,yy1 M Y a2⟩ (fun k W hk hJ=>?_) h0;obtain ⟨us,⟨B,C,b1,b2,rfl⟩,hy⟩:=c k W hk hJ;exact ⟨B,C,b1,b2,hy⟩
end
end Go.X
