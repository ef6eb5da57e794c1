import Derived.Test.YtliopfopmhhdeaaGreatAB
import Derived.OrdersIn
import Derived.TacticsIn
import Derived.RangeFuncRecord
set_option linter.defProp false
namespace Go.X
open Go.RowKit Go.V
abbrev RD (ro:Option Nat):Fence:= {Fence.wide with round:=ro}
section
variable {P:Program} {ops:Array Oper} {Q:Exit->Act->World->Prop} {ro:Option Nat} {m:Nat}
def qq7 {f args w R}:CallsIn (RD ro) m P f args w R↔Calls P f args w R:=callsIn_wide (n:=m)
def vl5 {row args w R} (h:Rows P row args w R):RowsIn (RD ro) m P row args w R:=
 fun c cs _=>let ⟨v,w',r,s⟩:=h c cs;⟨v,w',r,stepsIn_wide.2 s⟩
def kb4 {p:Prop}:(RD ro).depth.isSome=true->p:=fun h=>by cases h
def vd0 {o:Oper} {a:Act} {w:World} {K:Act->World->Prop} (hd: ∀c,o.op≠.defer c) (h:o.wp P a w K Q):o.wpIn (RD ro) m P a w K Q:=by
 refine ⟨fun _ _=>trivial,?_⟩;rw [Oper.semAt_eq _ _ _ hd];unfold Oper.wp at h;generalize (execOp a.eval o).run P w=r at h⊢;cases r with
 |ok x w'=>cases x<;>simp only [Oper.upon,Oper.uponIn] at h⊢ <;>first|exact h|exact ⟨kb4,qq7.2 h⟩|exact ⟨kb4,vl5 h⟩|exact h.elim
 |halt x w'=>cases x<;>simp only [Oper.upon,Oper.uponIn] at h⊢ <;>exact h
def jb3 {o:Oper} (h:qc2 o.op=true): ∀c,o.op≠.defer c:=fun c e=>by rw [e] at h;cases h
def ja1 (hQ: ¬LetsOut Q): ∀(l:List Oper) (a:Act) (w:World),(l.all fun o=>qc2 o.op)=true->wpList P ops Q l a w->wpListIn (RD ro) m P ops Q l a w
 | [],_,_,_,h=>h
 |o::r,a,w,hd,h=>by
  rw [J1,X3] at hd;unfold wpList at h;unfold wpListIn;split
  ·rename_i hw;rw [if_pos hw] at h;rcases h with h|⟨_,h⟩
   ·exact vd0 (jb3 hd.1) (Oper.wp_mono (fun a w h=>ja1 hQ r a w hd.2 h) h)
   ·exact absurd h hQ
  ·rename_i hw;rw [if_neg hw] at h;exact ⟨fun _ _=>trivial,ja1 hQ r _ _ hd.2 h⟩
def yv9 {md:Region.Mode} (hQ: ¬LetsOut Q) (hd:(ops.toList.all fun o=>qc2 o.op)=true): ∀(fuel:Nat) (listed:Array Bool) (a:Act) (w:World),wpAny P md ops Q fuel listed a w->wpAnyIn (RD ro) m P md ops Q fuel listed a w
 |0,_,_,_,h=>h
 |fuel+1,listed,a,w,h=>by
  refine ⟨h.1,fun i hi=>?_⟩;have h2:=h.2 i hi;unfold wpOp at h2;unfold wpOpIn;split
  ·rename_i ho;rw [ho] at h2;exact yv9 hQ hd fuel _ _ _ h2
  ·rename_i o ho;rw [ho] at h2;simp only at h2;split
   ·rename_i hw;rw [if_pos hw] at h2;rcases h2 with h2|⟨_,h2⟩
    ·refine vd0 (jb3 (Y8.1 hd o (Array.mem_toList_iff.2 (Array.mem_of_getElem? ho)))) (Oper.wp_mono (fun a w h=>yv9 hQ hd fuel _ a w h) h2)
    ·exact absurd h2 hQ
   ·rename_i hw;rw [if_neg hw] at h2;exact ⟨fun _ _=>trivial,yv9 hQ hd fuel _ _ _ h2⟩
def zk7 (a:List (Nat×Nat)):Code->Bool
 | .region id ops b=>(ops.toList.all fun o=>qc2 o.op)&&(!b||(qx3 a id).isSome)
 | .seq x y=>zk7 a x&&zk7 a y
 | .cond _ x y=>zk7 a x&&zk7 a y
 | .block _ c=>zk7 a c
 | .skip=>true
 | .exit _=>true
 | .ret=>true
 |_=>false
end
section
variable {T:Tab} {P:Program} {C:Ctx T} {w0:World} {S0:Ow} {n:Nat} {ds:List Deferred} {R:Type} {r:R} {ro:Option Nat} {m:Nat}
def jv4 {X Q} (h: ¬LetsOut Q): ¬LetsOut (Exit.then X Q):=fun ⟨a,w,b⟩=>h ⟨a,w,b⟩
def jn1 {id Q} (h: ¬LetsOut Q): ¬LetsOut (Exit.inBlock id Q):=fun ⟨a,w,b⟩=>h ⟨a,w,b⟩
def zf8 (hE:za0 T P C.E) (hm:P.follows .mixedOrders=true): ∀(c:Code) (q:Pos) (K:Ks T R) (st:St T) (Q:Exit->Act->World->Prop) (F':PF) (w:World),zk7 C.ms c=true-> ¬LetsOut Q->evC P C n [] (fun _ _=>none) c q K st=some r->KsOk Q n ds w0 S0 r K->zc4 T w0 S0 st F' w->
  ∀a,Fr n ds F' a->c.wpIn (RD ro) m P Q a w
 | .skip,q,K,st,Q,F',w,hd,hQ,h,hK,hs=>fun a ha=>wpIn_skip (hK.normal st h F' w hs a ha)
 | .region id ops draw,q,K,st,Q,F',w,hd,hQ,h,hK,hs=>by
  obtain ⟨S,φ,hs⟩:=hs;unfold evC at h;intro a ha;cases draw with
  |false=>
   have hw:WR P ops Q 0 n ds F' w:=ju0 hE (fun st hst=>hK.normal st hst) hK.panic h hs;rw [zk7,X3] at hd;exact wpIn_region_list (ja1 hQ _ _ _ hd.1 (by simpa using hw a ha))
  |true=>
   simp only at h;split at h
   ·rw [zk7,X3] at hd;exact wpIn_region_any hm (yv9 hQ hd.1 _ _ _ _ (qo4 hE (fun st hst=>hK.normal st hst) hK.panic h hs a ha))
   ·rename_i hn;rw [zk7,hn] at hd;simp at hd
 | .seq x y,q,K,st,Q,F',w,hd,hQ,h,hK,hs=>by
  unfold evC at h;rw [zk7,X3] at hd;have:=zf8 hE hm x _ _ st _ F' w hd.1 (jv4 hQ) h (hK.behind (X:=y.wpIn (RD ro) m P Q) fun st1 h1 F1 w1 hs1 a ha=>
   zf8 hE hm y _ _ st1 Q F1 w1 hd.2 hQ h1 hK hs1 a ha) hs
  exact fun a ha=>wpIn_seq (this a ha)
 | .cond c x y,q,K,st,Q,F',w,hd,hQ,h,hK,hs=>by
  unfold evC at h;rw [zk7,X3] at hd;split at h
  ·rename_i b hc;obtain ⟨S,φ,hs'⟩:=hs;obtain ⟨v,h1,h2⟩:=j7 hs'.fr hc;have:=ze8 h2;subst this;intro a ha;refine wpIn_cond_split (ha.eval h1) (fun hb=>?_) fun hb=>?_
   ·rcases zd8 h with ⟨_,h⟩|⟨hb',_⟩
    ·exact zf8 hE hm x _ K st Q F' w hd.1 hQ h hK ⟨S,φ,hs'⟩ a ha
    ·exact absurd (hb.symm.trans hb') (by simp)
   ·rcases zd8 h with ⟨hb',_⟩|⟨_,h⟩
    ·exact absurd (hb.symm.trans hb') (by simp)
    ·exact zf8 hE hm y _ K st Q F' w hd.2 hQ h hK ⟨S,φ,hs'⟩ a ha
  ·cases h
 | .block id c,q,K,st,Q,F',w,hd,hQ,h,hK,hs=>by
  unfold evC at h;rw [zk7] at hd;have:=zf8 hE hm c _ _ st _ F' w hd (jn1 hQ) h (hK.block id) hs;exact fun a ha=>wpIn_block (this a ha)
 | .exit id,q,K,st,Q,F',w,hd,hQ,h,hK,hs=>fun a ha=>wpIn_exit (hK.exit id st h F' w hs a ha)
 | .ret,q,K,st,Q,F',w,hd,hQ,h,hK,hs=>fun a ha=>wpIn_ret (hK.ret st h F' w hs a ha)
 | .loop c,q,K,st,Q,F',w,hd,hQ,h,hK,hs=>by cases hd
 | .rangeFunc ..,_,_,_,_,_,_,hd,_,h,_,_=>by cases hd
 | .scope _,_,_,_,_,_,_,hd,_,h,_,_=>by cases hd
 | .label _,_,_,_,_,_,_,hd,_,h,_,_=>by cases hd
 | .goto _,_,_,_,_,_,_,hd,_,h,_,_=>by cases hd
 | .refuse _,_,_,_,_,_,_,hd,_,h,_,_=>by cases hd
end
def odd:Obj->Bool| .loop _=>true| .deferred _=>true|_=>false
structure Turn (l:Nat) (w w':World):Prop where
 os:w'.os=w.os
 tape:w'.tape=w.tape
 output:w'.output=w.output
 size:w'.heap.size=w.heap.size
 old: ∃o,w.heap[l]?=some o/\odd o=true
 block: ∀k,k≠l->w'.heap[k]?=w.heap[k]?
def Turn.putObj {w:World} {l:Nat} {o:Obj} (o':Obj) (h:w.heap[l]?=some o) (ho:odd o=true):Turn l w (w.putObj l o'):=
 ⟨rfl,rfl,rfl,World.putObj_size,⟨o,h,ho⟩,fun _ hk=>World.putObj_heap_other hk⟩
section
variable {T:Tab} {w w':World} {l:Nat} {S:List Nat} {φ:Nat->RA}
def Turn.cell (h:Turn l w w') {a v} (b:w.cell? a=some v):w'.cell? a=some v:=by
 have c:a.block≠l:=by
  intro e;obtain ⟨o,d,f⟩:=h.old;unfold World.cell? at b;rw [e,d] at b;cases o<;>first|(cases f;done)|simp at b
 exact (World.cell?_of_block (h.block _ c)).trans b
def Turn.chg (h:Turn l w w'):Chg [l] w w':=⟨h.os,h.tape,h.output,N7 h.size.symm,fun k _ a=>h.block k fun e=>a (by simp [e])⟩
def CR.turn (h:Turn l w w') {t:Ty} {x:den T.U t} {v:Value} (hr:CR T w S t x v):CR T w' S t x v:=by
 induction hr with
 |int k x=>exact .int k x
 |bool b=>exact .bool b
 |str s=>exact .str s
 |nl e xs ad cap _ hn ih=>exact .nl e xs ad cap ih hn
 |list e xs ad cap u hcap hnil had hcell hrel ih=>
  refine .list e xs ad cap u hcap hnil ?_ (fun k j c hk=>h.cell (hcell k j c hk)) ih;intro hx;obtain ⟨h1,h2,h3⟩:=had hx;exact ⟨h1,by rw [h.size];exact h2,h3⟩
def CellsR.turn (h:Turn l w w') {cs vs} (a:CellsR T w S cs vs):CellsR T w' S cs vs:=⟨a.1,fun j c v b d=>CR.turn h (a.2 j c v b d)⟩
mutual
def VR.turn (h:Turn l w w'): ∀ {a v},VR T w S φ a v->VR T w' S φ a v
 | .cell c,v,d=>CR.turn h d
 | .ptr i o,v,d=>d
 | .eptr i sz k c,v,d=>d
 | .lptr e xs k o,v,d=>by obtain ⟨ad,cap,g,j,p⟩:=d;exact ⟨ad,cap,CR.turn h g,j,p⟩
 | .own i,v,d=>d
 | .sl i sz o n,v,d=>d
 | .agg cs,v,d=>by obtain ⟨vs,g,j⟩:=d;exact ⟨vs,g,VRL.turn h j⟩
 | .tup cs,v,d=>by obtain ⟨vs,g,j⟩:=d;exact ⟨vs,g,VRL.turn h j⟩
 | .fn f a b,v,d=>by obtain ⟨q,s,g,j,p⟩:=d;exact ⟨q,s,g,VRL.turn h j,VRL.turn h p⟩
 | .ifc t a,v,d=>by obtain ⟨u,g,j⟩:=d;exact ⟨u,g,VR.turn h j⟩
 | .raw u,v,d=>d
 | .arr t n xs,v,d=>by obtain ⟨vs,g,j,p⟩:=d;exact ⟨vs,g,j,CellsR.turn h p⟩
 | .aptr i o sz n k c,v,d=>d
 | .asl i o sz n x m,v,d=>d
 | .mp i,v,d=>d
 | .hmp i,v,d=>d
def VRL.turn (h:Turn l w w'): ∀ {aS:List (AV T.U)} {vs:List Value},VRL T w S φ aS vs->VRL T w' S φ aS vs
 | [],[],_=>trivial
 | [],_::_,hv=>hv.elim
 |_::_,[],hv=>hv.elim
 |_::_,_::_,hv=>⟨VR.turn h hv.1,VRL.turn h hv.2⟩
end
def BR.turn' (h:Turn l w w') {cs vs} (a:BR T w S φ cs vs):BR T w' S φ cs vs:=⟨VRL.turn h a.1,a.2⟩
def MR.turn (h:Turn l w w') {k:IntKind}: ∀ {es:List (Int×AV T.U)} {ls:List MapEntry},MR T w S φ k es ls->MR T w' S φ k es ls
 | [],[],_=>trivial
 | [],_::_,hm=>hm.elim
 |_::_,[],hm=>hm.elim
 |(_,_)::_,_::_,hm=>⟨hm.1,VR.turn h hm.2.1,MR.turn h hm.2.2⟩
def TR.turn (h:Turn l w w') {k:IntKind} {t:Ty}: ∀ {es:List (Int×den T.U t)} {ls:List MapEntry},TR T w S k t es ls->TR T w' S k t es ls
 | [],[],_=>trivial
 | [],_::_,hm=>hm.elim
 |_::_,[],hm=>hm.elim
 |(_,_)::_,_::_,hm=>⟨hm.1,CR.turn h hm.2.1,TR.turn h hm.2.2⟩
def DC.turn (h:Turn l w w') {e:TypeId} {c:Cell T.U} {v:Value} (hb:l∉zr6 T e c v) (hd:DC T w S e c v):DC T w' S e c v:=by
 obtain ⟨t,x⟩:=c;cases t with
 |list t=>
  refine ⟨fun he=>CR.turn h (hd.1 he),fun he=>?_⟩;obtain ⟨B,ad,cap,vals,rfl,h1,h2,h3⟩:=hd.2 he;refine ⟨B,ad,cap,vals,rfl,h1.chg h.chg ?_,by rw [h.size];exact h2,CellsR.turn h h3⟩;have hz:Nat.beq e 0=false:=by cases hb:Nat.beq e 0;rfl;exact absurd (X1 hb) he
  cases had:ad with
  |none=>exact .inr rfl
  |some a=>
   subst had;refine .inl fun hm=>hb ?_;rw [<-List.mem_singleton.1 hm];simp [zr6,hz,zb7,bk]
 |_=>exact CR.turn h hd
def EntR.turn (h:Turn l w w') (hl:l∉S) {i:Nat} {e:Ent T.U} (hlv:e.live=true-> ∀a,At (φ i) a->a.block∈S) (he:EntR T w S φ i e):EntR T w' S φ i e:=by
 cases e with
 |drow e d fe xs op=>
  obtain ⟨B,vals,h1,hn,h2,h3,h4⟩:=he;refine ⟨B,vals,?_,hn,by rw [h.size];exact h2,h3,⟨fun j c v q1 q2 q3=>⟨DC.turn h (fun hm=>?_) (h4.cl j c v q1 q2 q3).1,(h4.cl j c v q1 q2 q3).2⟩,h4.ap,fun a cs q1=>⟨(h4.opn a cs q1).1,(h4.opn a cs q1).2.1,fun f x hx=>by obtain ⟨v,q2,q3⟩:=(h4.opn a cs q1).2.2 f x hx;exact ⟨v,q2,VR.turn h q3⟩⟩⟩⟩
  ·cases hφ:(φ i).ad with
   |none=>rw [hφ] at h1;exact h1.chg h.chg (.inr rfl)
   |some a=>rw [hφ] at h1;exact h1.chg h.chg (.inl (by simp;intro e;exact hl (e▸h3 a hφ)))
  ·exact hl (hlv rfl ⟨l,0,none⟩ (.inr ((h4.cl j c v q1 q2 q3).2 l hm).1))
 |blk e cs=>
  obtain ⟨g,c,h1,h2,h3,h4⟩:=he;exact ⟨g,c,h1,h2.chg h.chg (by simp;intro e;subst e;exact hl h3),h3,BR.turn' h h4⟩
 |row e t xs=>
  obtain ⟨B,vals,h1,hn,h2,h3,h4⟩:=he;refine ⟨B,vals,?_,hn,by rw [h.size];exact h2,CellsR.turn h h3,h4⟩;cases hφ:(φ i).ad with
  |none=>rw [hφ] at h1;exact h1.chg h.chg (.inr rfl)
  |some a=>rw [hφ] at h1;exact h1.chg h.chg (.inl (by simp;intro e;exact hl (e▸h4 a hφ)))
 |map k es=>
  obtain ⟨g,ls,c,h1,h2,h3,h4,h5⟩:=he;exact ⟨g,ls,c,h1,h2.chg h.chg (by simp;intro e;subst e;exact hl h3),h3,MR.turn h h4,h5⟩
 |tmap k t m=>
  obtain ⟨g,ls,c,h1,h2,h3,h4,h5⟩:=he;exact ⟨g,ls,c,h1,h2.chg h.chg (by simp;intro e;subst e;exact hl h3),h3,TR.turn h h4,h5⟩
 |pmap k be d m op=>
  obtain ⟨g,ls,c,bs,h1,h2,h3,h4,h5⟩:=he;refine ⟨g,ls,c,bs,h1,h2.chg h.chg (by simp;intro e;subst e;exact hl h3),h3,⟨h4.len,h4.lenb,h4.nd,fun p x u e b q1 q2 q3=>?_,h4.ap,h4.opn⟩,h5⟩;obtain ⟨u1,u2,u3,u4⟩:=h4.at_ p x u e b q1 q2 q3;refine ⟨u1,u2,u3,fun hn=>⟨(u4 hn).1,(u4 hn).2.1,?_⟩⟩;obtain ⟨c',v1,v2⟩:=(u4 hn).2.2;exact ⟨c',v1.chg h.chg (by simp;intro e;subst e;exact hl (hlv rfl ⟨_,0,none⟩ (.inr (u4 hn).1))),BR.turn' h v2⟩
 |hid=>exact he
 |gone=>trivial
variable {w0:World} {S0:Ow} {F:AF T} {H:List (Ent T.U)} {F':PF}
def Sim.turn (c:Sim T w0 S0 ⟨F,H⟩ F' w S φ) (h:Turn l w w') (j:l∉S) (k:w0.heap.size<=l):Sim T w0 S0 ⟨F,H⟩ F' w' S φ:=by
 refine ⟨fun i a d=>?_,c.ids,c.chg.step h.chg (by simpa using .inr k),fun b f=>⟨(c.own b f).1,by rw [h.size];exact (c.own b f).2⟩,c.ex,c.lives,c.pins,fun i e g=>EntR.turn h j (fun o a d=>(c.lives i e g o a d).1) (c.ents i e g),c.eids,c.apart⟩;obtain ⟨v,p,q⟩:=c.fr i a d;exact ⟨v,p,VR.turn h q⟩
def agn (w0:World) (S0:Ow) (S:List Nat) (φ:Nat->RA) (k:Nat):Ow:=⟨S.filter fun b=>zs6 b S0.chg||Nat.ble w0.heap.size b,S,(List.range k).map φ⟩
def ya7 {k b}:b∈(agn w0 S0 S φ k).chg↔b∈S/\(b∈S0.chg\/w0.heap.size<=b):=by
 show b∈S.filter _↔_;rw [W3,J5,zb2,Nat.ble_eq]
def qy5 {k j x} (h:(agn w0 S0 S φ k).pin[j]?=some x):φ j=x/\j<k:=by
 have h:((List.range k).map φ)[j]?=some x:=h;rw [W4] at h;cases hj:(List.range k)[j]? with
 |none=>rw [hj] at h;cases h
 |some i=>
  rw [hj] at h;obtain ⟨a,b⟩:=X2.1 hj;simp at a b h;subst b;exact ⟨h,a⟩
def Sim.anew (c:Sim T w0 S0 ⟨F,H⟩ F' w S φ):Sim T w (agn w0 S0 S φ H.length) ⟨F,H⟩ F' w S φ:=by
 refine ⟨c.fr,c.ids,Chg.refl _ _,fun b d=>⟨.inl d,(c.own b d).2⟩,fun b d _ _=>d,fun i e f g a h=>⟨(c.lives i e f g a h).1,.inl (ya7.2 (c.lives i e f g a h))⟩,fun k r j=>⟨.of (qy5 j).1,(qy5 j).2⟩,c.ents,c.eids,c.apart⟩
def qc6 (F:AF T):Prop:= ∀i a,F.get T i=some a->zh1 a=true
def Sim.after (o:Sim T w0 S0 ⟨F,H⟩ F' w S φ) (M:qc6 F) {z H2 s x u f} (c:Sim T w (agn w0 S0 S φ H.length) ⟨z,H2⟩ s x u f):
  Sim T w0 S0 ⟨z,H2⟩ s x u f/\Sim T w0 S0 ⟨F,H2⟩ F' x u f/\Chg (agn w0 S0 S φ H.length).chg w x/\(∀b∈u,b∈S\/w.heap.size<=b)/\(∀k,k<H.length->RSame (f k) (φ k))/\H.length<=H2.length:=by
 have d: ∀k,k<H.length->RSame (f k) (φ k)/\k<H2.length:=fun k y=>c.pins k (φ k) (by
  show ((List.range H.length).map φ)[k]?=some (φ k);rw [W4,List.getElem?_range y];rfl)
 have p:H.length<=H2.length:=by
  rcases M8 H.length with N|N
  ·omega
  ·have:=(d (H.length-1) (by omega)).2;omega
 have A: ∀b∈u,b∈S\/w.heap.size<=b:=fun b g=>(c.own b g).1;have t: ∀b∈(agn w0 S0 S φ H.length).chg,b∈S0.chg\/w0.heap.size<=b:=fun b g=>(ya7.1 g).2;have O:=o.chg.size;have one:Sim T w0 S0 ⟨z,H2⟩ s x u f:=by
  refine ⟨c.fr,c.ids,o.chg.step c.chg t,fun b g=>⟨?_,(c.own b g).2⟩,fun b g I B=>?_,fun i e J K a q=>?_,fun k r y=>?_,c.ents,c.eids,c.apart⟩
  ·rcases A b g with h|h
   ·exact (o.own b h).1
   ·exact .inr (by omega)
  ·have L:=o.ex b g I B;exact c.ex b L (fun V=>by rcases t b V with h|h;exact I h;omega) (o.own b L).2
  ·refine ⟨(c.lives i e J K a q).1,?_⟩;rcases (c.lives i e J K a q).2 with h|h
   ·exact t _ h
   ·exact .inr (by omega)
  ·obtain ⟨D,E⟩:=o.pins k r y;obtain ⟨W,X⟩:=d k E;exact ⟨W.trans D,X⟩
 refine ⟨one,?_,c.chg,A,fun k y=>(d k y).1,p⟩;refine ⟨fun i a q=>?_,fun i a q=>?_,one.chg,one.own,one.ex,one.lives,one.pins,one.ents,one.eids,one.apart⟩
 ·obtain ⟨v,D,E⟩:=o.fr i a q;exact ⟨v,D,(E.chg T c.chg (fun b g=>(ya7.1 g).1) A).phiS fun j G=>(d j ((o.ids i a q).1 j G)).1⟩
 ·exact zc7 (M i a q) fun j G=>V4 ((o.ids i a q).1 j G) p
end
end Go.X
