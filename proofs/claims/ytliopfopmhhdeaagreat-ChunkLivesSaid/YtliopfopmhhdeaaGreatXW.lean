import Derived.Test.YtliopfopmhhdeaaGreatAB
import Derived.OrdersIn
import Derived.TacticsIn
import Derived.RangeFuncRecord
set_option linter.defProp false
namespace Go.X
open Go.RowKit Go.V
abbrev RD (ro:Option Nat):Fence:= {Fence.wide with round:=ro}
section
variable {P:Program} {ops:Array Oper} {Q:Exit->Act->World->Prop} {ro:Option Nat} {m:Nat}
def qm5 {f:FuncId} {args:Array Value} {w:World} {R:Ending->World->Prop}:CallsIn (RD ro) m P f args w R↔Calls P f args w R:=callsIn_wide (n:=m)
def vh8 {row:String} {args:Array Value} {w:World} {R:Value->World->Prop} (h:Rows P row args w R):RowsIn (RD ro) m P row args w R:=
 fun c cs _=>let ⟨v,w',r,s⟩:=h c cs;⟨v,w',r,stepsIn_wide.2 s⟩
def vw6 {p:Prop}:(RD ro).depth.isSome=true->p:=fun h=>by cases h
def qy9 {o:Oper} {a:Act} {w:World} {K:Act->World->Prop} (hd: ∀c,o.op≠.defer c) (h:o.wp P a w K Q):o.wpIn (RD ro) m P a w K Q:=by
 refine ⟨fun _ _=>trivial,?_⟩;rw [Oper.semAt_eq _ _ _ hd];unfold Oper.wp at h;generalize (execOp a.eval o).run P w=r at h⊢;cases r with
 |ok x w'=>cases x<;>simp only [Oper.upon,Oper.uponIn] at h⊢ <;>first|exact h|exact ⟨vw6,qm5.2 h⟩|exact ⟨vw6,vh8 h⟩|exact h.elim
 |halt x w'=>cases x<;>simp only [Oper.upon,Oper.uponIn] at h⊢ <;>exact h
def yz0 {o:Oper} (h:jz4 o.op=true): ∀c,o.op≠.defer c:=fun c e=>by rw [e] at h;cases h
def yx8 (hQ: ¬LetsOut Q): ∀(l:List Oper) (a:Act) (w:World),(l.all fun o=>jz4 o.op)=true->wpList P ops Q l a w->wpListIn (RD ro) m P ops Q l a w
 | [],_,_,_,h=>h
 |o::r,a,w,hd,h=>by
  rw [J1,X3] at hd;unfold wpList at h;unfold wpListIn;split
  ·rename_i hw;rw [if_pos hw] at h;rcases h with h|⟨_,h⟩
   ·exact qy9 (yz0 hd.1) (Oper.wp_mono (fun a w h=>yx8 hQ r a w hd.2 h) h)
   ·exact absurd h hQ
  ·rename_i hw;rw [if_neg hw] at h;exact ⟨fun _ _=>trivial,yx8 hQ r _ _ hd.2 h⟩
def yt6 {md:Region.Mode} (hQ: ¬LetsOut Q) (hd:(ops.toList.all fun o=>jz4 o.op)=true): ∀(fuel:Nat) (listed:Array Bool) (a:Act) (w:World),wpAny P md ops Q fuel listed a w->wpAnyIn (RD ro) m P md ops Q fuel listed a w
 |0,_,_,_,h=>h
 |fuel+1,listed,a,w,h=>by
  refine ⟨h.1,fun i hi=>?_⟩;have h2:=h.2 i hi;unfold wpOp at h2;unfold wpOpIn;split
  ·rename_i ho;rw [ho] at h2;exact yt6 hQ hd fuel _ _ _ h2
  ·rename_i o ho;rw [ho] at h2;simp only at h2;split
   ·rename_i hw;rw [if_pos hw] at h2;rcases h2 with h2|⟨_,h2⟩
    ·refine qy9 (yz0 (Y8.1 hd o (Array.mem_toList_iff.2 (Array.mem_of_getElem? ho)))) (Oper.wp_mono (fun a w h=>yt6 hQ hd fuel _ a w h) h2)
    ·exact absurd h2 hQ
   ·rename_i hw;rw [if_neg hw] at h2;exact ⟨fun _ _=>trivial,yt6 hQ hd fuel _ _ _ h2⟩
def zj9 (ms:List (Nat×Nat)):Code->Bool
 | .region id ops draw=>(ops.toList.all fun o=>jz4 o.op)&&(!draw||(qt0 ms id).isSome)
 | .seq x y=>zj9 ms x&&zj9 ms y
 | .cond _ x y=>zj9 ms x&&zj9 ms y
 | .block _ c=>zj9 ms c
 | .skip=>true
 | .exit _=>true
 | .ret=>true
 |_=>false
end
section
variable {T:Tab} {P:Program} {C:Ctx T} {w0:World} {S0:Ow} {n:Nat} {ds:List Deferred} {R:Type} {r:R} {ro:Option Nat} {m:Nat}
def jt1 {X:Act->World->Prop} {Q:Exit->Act->World->Prop} (h: ¬LetsOut Q): ¬LetsOut (Exit.then X Q):=fun ⟨a,w,h'⟩=>h ⟨a,w,h'⟩
def jl0 {id:Nat} {Q:Exit->Act->World->Prop} (h: ¬LetsOut Q): ¬LetsOut (Exit.inBlock id Q):=fun ⟨a,w,h'⟩=>h ⟨a,w,h'⟩
def ze8 (hE:za0 T P C.E) (hm:P.follows .mixedOrders=true): ∀(c:Code) (q:Pos) (K:Ks T R) (st:St T) (Q:Exit->Act->World->Prop) (F':PF) (w:World),zj9 C.ms c=true-> ¬LetsOut Q->evC P C n [] (fun _ _=>none) c q K st=some r->KsOk Q n ds w0 S0 r K->zc0 T w0 S0 st F' w->
  ∀a,Fr n ds F' a->c.wpIn (RD ro) m P Q a w
 | .skip,q,K,st,Q,F',w,hd,hQ,h,hK,hs=>fun a ha=>wpIn_skip (hK.normal st h F' w hs a ha)
 | .region id ops draw,q,K,st,Q,F',w,hd,hQ,h,hK,hs=>by
  obtain ⟨S,φ,hs⟩:=hs;unfold evC at h;intro a ha;cases draw with
  |false=>
   have hw:WR P ops Q 0 n ds F' w:=jr4 hE (fun st hst=>hK.normal st hst) hK.panic h hs;rw [zj9,X3] at hd;exact wpIn_region_list (yx8 hQ _ _ _ hd.1 (by simpa using hw a ha))
  |true=>
   simp only at h;split at h
   ·rw [zj9,X3] at hd;exact wpIn_region_any hm (yt6 hQ hd.1 _ _ _ _ (qk4 hE (fun st hst=>hK.normal st hst) hK.panic h hs a ha))
   ·rename_i hn;rw [zj9,hn] at hd;simp at hd
 | .seq x y,q,K,st,Q,F',w,hd,hQ,h,hK,hs=>by
  unfold evC at h;rw [zj9,X3] at hd;have:=ze8 hE hm x _ _ st _ F' w hd.1 (jt1 hQ) h (hK.behind (X:=y.wpIn (RD ro) m P Q) fun st1 h1 F1 w1 hs1 a ha=>
   ze8 hE hm y _ _ st1 Q F1 w1 hd.2 hQ h1 hK hs1 a ha) hs
  exact fun a ha=>wpIn_seq (this a ha)
 | .cond c x y,q,K,st,Q,F',w,hd,hQ,h,hK,hs=>by
  unfold evC at h;rw [zj9,X3] at hd;split at h
  ·rename_i b hc;obtain ⟨S,φ,hs'⟩:=hs;obtain ⟨v,h1,h2⟩:=z8 hs'.fr hc;have:=zd7 h2;subst this;intro a ha;refine wpIn_cond_split (ha.eval h1) (fun hb=>?_) fun hb=>?_
   ·rcases zc7 h with ⟨_,h⟩|⟨hb',_⟩
    ·exact ze8 hE hm x _ K st Q F' w hd.1 hQ h hK ⟨S,φ,hs'⟩ a ha
    ·exact absurd (hb.symm.trans hb') (by simp)
   ·rcases zc7 h with ⟨hb',_⟩|⟨_,h⟩
    ·exact absurd (hb.symm.trans hb') (by simp)
    ·exact ze8 hE hm y _ K st Q F' w hd.2 hQ h hK ⟨S,φ,hs'⟩ a ha
  ·cases h
 | .block id c,q,K,st,Q,F',w,hd,hQ,h,hK,hs=>by
  unfold evC at h;rw [zj9] at hd;have:=ze8 hE hm c _ _ st _ F' w hd (jl0 hQ) h (hK.block id) hs;exact fun a ha=>wpIn_block (this a ha)
 | .exit id,q,K,st,Q,F',w,hd,hQ,h,hK,hs=>fun a ha=>wpIn_exit (hK.exit id st h F' w hs a ha)
 | .ret,q,K,st,Q,F',w,hd,hQ,h,hK,hs=>fun a ha=>wpIn_ret (hK.ret st h F' w hs a ha)
 | .loop c,q,K,st,Q,F',w,hd,hQ,h,hK,hs=>by cases hd
 | .rangeFunc ..,_,_,_,_,_,_,hd,_,h,_,_=>by cases hd
 | .scope _,_,_,_,_,_,_,hd,_,h,_,_=>by cases hd
 | .label _,_,_,_,_,_,_,hd,_,h,_,_=>by cases hd
 | .goto _,_,_,_,_,_,_,hd,_,h,_,_=>by cases hd
 | .refuse _,_,_,_,_,_,_,hd,_,h,_,_=>by cases hd
end
def odd:Obj->Bool| .loop _=>true| .deferred _=>true|_=>false
structure Turn (l:Nat) (w w':World):Prop where
 os:w'.os=w.os
 tape:w'.tape=w.tape
 output:w'.output=w.output
 size:w'.heap.size=w.heap.size
 old: ∃o,w.heap[l]?=some o/\odd o=true
 block: ∀k,k≠l->w'.heap[k]?=w.heap[k]?
def Turn.putObj {w:World} {l:Nat} {o:Obj} (o':Obj) (h:w.heap[l]?=some o) (ho:odd o=true):Turn l w (w.putObj l o'):=
 ⟨rfl,rfl,rfl,World.putObj_size,⟨o,h,ho⟩,fun _ hk=>World.putObj_heap_other hk⟩
section
variable {T:Tab} {w w':World} {l:Nat} {S:List Nat} {φ:Nat->RA}
def Turn.cell (h:Turn l w w') {a:Addr} {v:Value} (hc:w.cell? a=some v):w'.cell? a=some v:=by
 have hne:a.block≠l:=by
  intro e;obtain ⟨o,h1,h2⟩:=h.old;unfold World.cell? at hc;rw [e,h1] at hc;cases o<;>first|(cases h2;done)|simp at hc
 exact (World.cell?_of_block (h.block _ hne)).trans hc
def Turn.chg (h:Turn l w w'):Chg [l] w w':=⟨h.os,h.tape,h.output,Nat.le_of_eq h.size.symm,fun k _ hk=>h.block k fun e=>hk (by simp [e])⟩
def CR.turn (h:Turn l w w') {t:Ty} {x:den T.U t} {v:Value} (hr:CR T w S t x v):CR T w' S t x v:=by
 induction hr with
 |int k x=>exact .int k x
 |bool b=>exact .bool b
 |str s=>exact .str s
 |nl e xs ad cap _ hn ih=>exact .nl e xs ad cap ih hn
 |list e xs ad cap u hcap hnil had hcell hrel ih=>
  refine .list e xs ad cap u hcap hnil ?_ (fun k j c hk=>h.cell (hcell k j c hk)) ih;intro hx;obtain ⟨h1,h2,h3⟩:=had hx;exact ⟨h1,by rw [h.size];exact h2,h3⟩
def CellsR.turn (h:Turn l w w') {cs:List (Cell T.U)} {vs:List Value} (hr:CellsR T w S cs vs):CellsR T w' S cs vs:=⟨hr.1,fun j c v h1 h2=>CR.turn h (hr.2 j c v h1 h2)⟩
mutual
def VR.turn (h:Turn l w w'): ∀ {a:AV T.U} {v:Value},VR T w S φ a v->VR T w' S φ a v
 | .cell c,v,hv=>CR.turn h hv
 | .ptr i o,v,hv=>hv
 | .eptr i sz k c,v,hv=>hv
 | .lptr e xs k o,v,hv=>by obtain ⟨ad,cap,h1,h2,h3⟩:=hv;exact ⟨ad,cap,CR.turn h h1,h2,h3⟩
 | .own i,v,hv=>hv
 | .sl i sz o n,v,hv=>hv
 | .agg cs,v,hv=>by obtain ⟨vs,h1,h2⟩:=hv;exact ⟨vs,h1,VRL.turn h h2⟩
 | .tup cs,v,hv=>by obtain ⟨vs,h1,h2⟩:=hv;exact ⟨vs,h1,VRL.turn h h2⟩
 | .fn f a b,v,hv=>by obtain ⟨va,vb,h1,h2,h3⟩:=hv;exact ⟨va,vb,h1,VRL.turn h h2,VRL.turn h h3⟩
 | .ifc t a,v,hv=>by obtain ⟨u,h1,h2⟩:=hv;exact ⟨u,h1,VR.turn h h2⟩
 | .raw u,v,hv=>hv
 | .arr t n xs,v,hv=>by obtain ⟨vs,h1,h2,h3⟩:=hv;exact ⟨vs,h1,h2,CellsR.turn h h3⟩
 | .aptr i o sz n k c,v,hv=>hv
 | .asl i o sz n lo m,v,hv=>hv
 | .mp i,v,hv=>hv
 | .hmp i,v,hv=>hv
def VRL.turn (h:Turn l w w'): ∀ {aS:List (AV T.U)} {vs:List Value},VRL T w S φ aS vs->VRL T w' S φ aS vs
 | [],[],_=>trivial
 | [],_::_,hv=>hv.elim
 |_::_,[],hv=>hv.elim
 |_::_,_::_,hv=>⟨VR.turn h hv.1,VRL.turn h hv.2⟩
end
def BR.turn' (h:Turn l w w') {cs:List (AV T.U)} {vs:List Value} (hb:BR T w S φ cs vs):BR T w' S φ cs vs:=⟨VRL.turn h hb.1,hb.2⟩
def MR.turn (h:Turn l w w') {k:IntKind}: ∀ {es:List (Int×AV T.U)} {ls:List MapEntry},MR T w S φ k es ls->MR T w' S φ k es ls
 | [],[],_=>trivial
 | [],_::_,hm=>hm.elim
 |_::_,[],hm=>hm.elim
 |(_,_)::_,_::_,hm=>⟨hm.1,VR.turn h hm.2.1,MR.turn h hm.2.2⟩
def TR.turn (h:Turn l w w') {k:IntKind} {t:Ty}: ∀ {es:List (Int×den T.U t)} {ls:List MapEntry},TR T w S k t es ls->TR T w' S k t es ls
 | [],[],_=>trivial
 | [],_::_,hm=>hm.elim
 |_::_,[],hm=>hm.elim
 |(_,_)::_,_::_,hm=>⟨hm.1,CR.turn h hm.2.1,TR.turn h hm.2.2⟩
def DC.turn (h:Turn l w w') {e:TypeId} {c:Cell T.U} {v:Value} (hb:l∉zq4 T e c v) (hd:DC T w S e c v):DC T w' S e c v:=by
 obtain ⟨t,x⟩:=c;cases t with
 |list t=>
  refine ⟨fun he=>CR.turn h (hd.1 he),fun he=>?_⟩;obtain ⟨B,ad,cap,vals,rfl,h1,h2,h3⟩:=hd.2 he;refine ⟨B,ad,cap,vals,rfl,h1.chg h.chg ?_,by rw [h.size];exact h2,CellsR.turn h h3⟩;have hz:Nat.beq e 0=false:=by cases hb:Nat.beq e 0;rfl;exact absurd (X1 hb) he
  cases had:ad with
  |none=>exact .inr rfl
  |some a=>
   subst had;refine .inl fun hm=>hb ?_;rw [<-List.mem_singleton.1 hm];simp [zq4,hz,zb2,bk]
 |_=>exact CR.turn h hd
def EntR.turn (h:Turn l w w') (hl:l∉S) {i:Nat} {e:Ent T.U} (hlv:e.live=true-> ∀a,At (φ i) a->a.block∈S) (he:EntR T w S φ i e):EntR T w' S φ i e:=by
 cases e with
 |drow e d fe xs op=>
  obtain ⟨B,vals,h1,hn,h2,h3,h4⟩:=he;refine ⟨B,vals,?_,hn,by rw [h.size];exact h2,h3,⟨fun j c v q1 q2 q3=>⟨DC.turn h (fun hm=>?_) (h4.cl j c v q1 q2 q3).1,(h4.cl j c v q1 q2 q3).2⟩,h4.ap,fun a cs q1=>⟨(h4.opn a cs q1).1,(h4.opn a cs q1).2.1,fun f x hx=>by obtain ⟨v,q2,q3⟩:=(h4.opn a cs q1).2.2 f x hx;exact ⟨v,q2,VR.turn h q3⟩⟩⟩⟩
  ·cases hφ:(φ i).ad with
   |none=>rw [hφ] at h1;exact h1.chg h.chg (.inr rfl)
   |some a=>rw [hφ] at h1;exact h1.chg h.chg (.inl (by simp;intro e;exact hl (e▸h3 a hφ)))
  ·exact hl (hlv rfl ⟨l,0,none⟩ (.inr ((h4.cl j c v q1 q2 q3).2 l hm).1))
 |blk e cs=>
  obtain ⟨g,c,h1,h2,h3,h4⟩:=he;exact ⟨g,c,h1,h2.chg h.chg (by simp;intro e;subst e;exact hl h3),h3,BR.turn' h h4⟩
 |row e t xs=>
  obtain ⟨B,vals,h1,hn,h2,h3,h4⟩:=he;refine ⟨B,vals,?_,hn,by rw [h.size];exact h2,CellsR.turn h h3,h4⟩;cases hφ:(φ i).ad with
  |none=>rw [hφ] at h1;exact h1.chg h.chg (.inr rfl)
  |some a=>rw [hφ] at h1;exact h1.chg h.chg (.inl (by simp;intro e;exact hl (e▸h4 a hφ)))
 |map k es=>
  obtain ⟨g,ls,c,h1,h2,h3,h4,h5⟩:=he;exact ⟨g,ls,c,h1,h2.chg h.chg (by simp;intro e;subst e;exact hl h3),h3,MR.turn h h4,h5⟩
 |tmap k t m=>
  obtain ⟨g,ls,c,h1,h2,h3,h4,h5⟩:=he;exact ⟨g,ls,c,h1,h2.chg h.chg (by simp;intro e;subst e;exact hl h3),h3,TR.turn h h4,h5⟩
 |pmap k be d m op=>
  obtain ⟨g,ls,c,bs,h1,h2,h3,h4,h5⟩:=he;refine ⟨g,ls,c,bs,h1,h2.chg h.chg (by simp;intro e;subst e;exact hl h3),h3,⟨h4.len,h4.lenb,h4.nd,fun p x u e b q1 q2 q3=>?_,h4.ap,h4.opn⟩,h5⟩;obtain ⟨u1,u2,u3,u4⟩:=h4.at_ p x u e b q1 q2 q3;refine ⟨u1,u2,u3,fun hn=>⟨(u4 hn).1,(u4 hn).2.1,?_⟩⟩;obtain ⟨c',v1,v2⟩:=(u4 hn).2.2;exact ⟨c',v1.chg h.chg (by simp;intro e;subst e;exact hl (hlv rfl ⟨_,0,none⟩ (.inr (u4 hn).1))),BR.turn' h v2⟩
 |hid=>exact he
 |gone=>trivial
variable {w0:World} {S0:Ow} {F:AF T} {H:List (Ent T.U)} {F':PF}
def Sim.turn (hs:Sim T w0 S0 ⟨F,H⟩ F' w S φ) (h:Turn l w w') (hl:l∉S) (h0:w0.heap.size<=l):Sim T w0 S0 ⟨F,H⟩ F' w' S φ:=by
 refine ⟨fun i a ha=>?_,hs.ids,hs.chg.step h.chg (by simpa using .inr h0),fun b hb=>⟨(hs.own b hb).1,by rw [h.size];exact (hs.own b hb).2⟩,hs.ex,hs.lives,hs.pins,fun i e he=>EntR.turn h hl (fun hv a ha=>(hs.lives i e he hv a ha).1) (hs.ents i e he),hs.eids,hs.apart⟩;obtain ⟨v,h1,h2⟩:=hs.fr i a ha;exact ⟨v,h1,VR.turn h h2⟩
def agn (w0:World) (S0:Ow) (S:List Nat) (φ:Nat->RA) (k:Nat):Ow:=⟨S.filter fun b=>zr8 b S0.chg||Nat.ble w0.heap.size b,S,(List.range k).map φ⟩
def zz5 {k b:Nat}:b∈(agn w0 S0 S φ k).chg↔b∈S/\(b∈S0.chg\/w0.heap.size<=b):=by
 show b∈S.filter _↔_;rw [W3,J3,za9,Nat.ble_eq]
def qu1 {k j:Nat} {x:RA} (h:(agn w0 S0 S φ k).pin[j]?=some x):φ j=x/\j<k:=by
 have h:((List.range k).map φ)[j]?=some x:=h;rw [W4] at h;cases hj:(List.range k)[j]? with
 |none=>rw [hj] at h;cases h
 |some i=>
  rw [hj] at h;obtain ⟨h1,h2⟩:=X2.1 hj;simp at h1 h2 h;subst h2;exact ⟨h,h1⟩
def Sim.anew (hs:Sim T w0 S0 ⟨F,H⟩ F' w S φ):Sim T w (agn w0 S0 S φ H.length) ⟨F,H⟩ F' w S φ:=by
 refine ⟨hs.fr,hs.ids,Chg.refl _ _,fun b hb=>⟨.inl hb,(hs.own b hb).2⟩,fun b hb _ _=>hb,fun i e he hl a ha=>⟨(hs.lives i e he hl a ha).1,.inl (zz5.2 (hs.lives i e he hl a ha))⟩,fun k r hk=>⟨.of (qu1 hk).1,(qu1 hk).2⟩,hs.ents,hs.eids,hs.apart⟩
def jz8 (F:AF T):Prop:= ∀i a,F.get T i=some a->zh1 a=true
def Sim.after (hs:Sim T w0 S0 ⟨F,H⟩ F' w S φ) (hp:jz8 F) {F2:AF T} {H2:List (Ent T.U)} {F2':PF} {w2:World} {S2:List Nat} {φ2:Nat->RA} (h2:Sim T w (agn w0 S0 S φ H.length) ⟨F2,H2⟩ F2' w2 S2 φ2):
  Sim T w0 S0 ⟨F2,H2⟩ F2' w2 S2 φ2/\Sim T w0 S0 ⟨F,H2⟩ F' w2 S2 φ2/\Chg (agn w0 S0 S φ H.length).chg w w2/\(∀b∈S2,b∈S\/w.heap.size<=b)/\(∀k,k<H.length->RSame (φ2 k) (φ k))/\H.length<=H2.length:=by
 have hpin: ∀k,k<H.length->RSame (φ2 k) (φ k)/\k<H2.length:=fun k hk=>h2.pins k (φ k) (by
  show ((List.range H.length).map φ)[k]?=some (φ k);rw [W4,List.getElem?_range hk];rfl)
 have hlen:H.length<=H2.length:=by
  rcases M7 H.length with h0|h0
  ·omega
  ·have:=(hpin (H.length-1) (by omega)).2;omega
 have hS: ∀b∈S2,b∈S\/w.heap.size<=b:=fun b hb=>(h2.own b hb).1;have hc0: ∀b∈(agn w0 S0 S φ H.length).chg,b∈S0.chg\/w0.heap.size<=b:=fun b hb=>(zz5.1 hb).2;have hsz:=hs.chg.size;have one:Sim T w0 S0 ⟨F2,H2⟩ F2' w2 S2 φ2:=by
  refine ⟨h2.fr,h2.ids,hs.chg.step h2.chg hc0,fun b hb=>⟨?_,(h2.own b hb).2⟩,fun b hb hn hlt=>?_,fun i e he hl a ha=>?_,fun k r hk=>?_,h2.ents,h2.eids,h2.apart⟩
  ·rcases hS b hb with h|h
   ·exact (hs.own b h).1
   ·exact .inr (by omega)
  ·have hm:=hs.ex b hb hn hlt;exact h2.ex b hm (fun hc=>by rcases hc0 b hc with h|h;exact hn h;omega) (hs.own b hm).2
  ·refine ⟨(h2.lives i e he hl a ha).1,?_⟩;rcases (h2.lives i e he hl a ha).2 with h|h
   ·exact hc0 _ h
   ·exact .inr (by omega)
  ·obtain ⟨h1,h3⟩:=hs.pins k r hk;obtain ⟨h4,h5⟩:=hpin k h3;exact ⟨h4.trans h1,h5⟩
 refine ⟨one,?_,h2.chg,hS,fun k hk=>(hpin k hk).1,hlen⟩;refine ⟨fun i a ha=>?_,fun i a ha=>?_,one.chg,one.own,one.ex,one.lives,one.pins,one.ents,one.eids,one.apart⟩
 ·obtain ⟨v,h1,h3⟩:=hs.fr i a ha;exact ⟨v,h1,(h3.chg T h2.chg (fun b hb=>(zz5.1 hb).1) hS).phiS fun j hj=>(hpin j ((hs.ids i a ha).1 j hj)).1⟩
 ·exact zf6 (hp i a ha) fun j hj=>V3 ((hs.ids i a ha).1 j hj) hlen
end
end Go.X
