import Derived.Test.YtliopfopmhhdeaaGreatXV
set_option linter.defProp false
namespace Go.X
open Go.RowKit Go.V
structure It1 (T:Tab) where
 ps:List Sh
 pre:zc9 T ps->Bool
 yes:zc9 T ps->Bool
 item:zc9 T ps->List (Cell T.U)
def ke8 (T:Tab) (P:Program) (g:FuncId) (it:It1 T):Prop:=
 ∀x,it.pre x=true-> ∀(w:World) (S:List Nat) (φ:Nat->RA) (vb:List Value),Sim T w ⟨zd0 φ (zc1 it.ps),S,(List.range (zc1 it.ps)).map φ⟩ ⟨[],zk9 T id it.ps x 0⟩ [] w S φ->VRL T w S φ (ze3 T id it.ps x 0) vb->
  ∃us:List Value,(it.yes x=true->CellsR T w S (it.item x) us)/\ ∀(l:Nat) (J:World->Prop),
   (it.yes x=true-> ∀W,Chg [] w W->jm1 P l us.toArray W fun e W'=>e=.returned (.bool false)/\J W')->
    Calls P g (#[.func (.yield l) #[] #[]]++vb.toArray) w fun e W'=>(∃v,e=.returned v)/\(it.yes x=true->J W')/\(it.yes x=false->Chg [] w W')
def Sim.shaped {T:Tab} {w0 w:World} {S0:Ow} {S:List Nat} {φ:Nat->RA} {F:AF T} {H:List (Ent T.U)} {F':PF} (h:Sim T w0 S0 ⟨F,H⟩ F' w S φ) {ps:List Sh} {aS:List (AV T.U)} {x:zc9 T ps} {l:Src} (hx:yb3 T H ps aS []=some (x,l)) (hn:zc5 (zl3 l)=true) {vs:List Value} (hvs:VRL T w S φ aS vs):
  ∃φ':Nat->RA,Sim T w ⟨zd0 φ' (zc1 ps),S,(List.range (zc1 ps)).map φ'⟩ ⟨[],zk9 T id ps x 0⟩ [] w S φ'/\VRL T w S φ' (ze3 T id ps x 0) vs:=by
 obtain ⟨new,g1,g2,g3⟩:=ze9 ps aS [] l x hx;have hl:l=new.map some:=by rw [g1.eq];rfl
 have hids:zl3 l=new:=by rw [hl,yu4]
 rw [hids] at hn;have hno:zo0 l=true:=by
  rw [hl];clear g1 g2 g3 hl hids;induction new with
  |nil=>rfl
  |cons i r ih=>
   rw [zc5,X3,U9] at hn;rw [U1,zo0,ih hn.2,Bool.and_true,U9];cases hm:qi6 i (r.map some) with
   |false=>rfl
   |true=>
    have:=yd5.1 hm;obtain ⟨j,hj,e⟩:=U2.1 this;simp only [X0] at e;subst e;rw [zb2.2 hj] at hn;exact absurd hn.1 (by simp)
 obtain ⟨q1,q2⟩:=g3 _ (yg6 hno);obtain ⟨c0,x0,p0⟩:=S0;have hs:=(h.unpin.src (l:=l) hno (fun k hk=>by simp at hk) (fun i e hi he j hj=>by
  rw [hl] at hi;obtain ⟨i',hi',e'⟩:=U2.1 hi;simp only [X0] at e';subst e';obtain ⟨e0,h1,_,h3⟩:=g1.ents i' hi';rw [he] at h1;simp only [X0] at h1;subst h1;exact h3 j hj))
 rw [show zh7 T H (fun i=>yq0 i l) l=zd2 T H (fun i=>yq0 i l) new by rw [hl,zw2]] at hs;have hs:=(hs.imp q2).start;rw [zc8] at hs;exact ⟨φO l φ,hs,q1.vrl (VRL.ren T (fun i hi=>φO_idx (g1.ids i hi)) hvs)⟩
section
variable {T:Tab} {R:Type} (P:Program) (C:Ctx T) (n:Nat)
noncomputable def qd4 (ps:List Nat) (aS bd:Code) (F:AF T) (v:List (AV T.U)) (H:List (Ent T.U)) (K:List (Ent T.U)->Option R):Option R:=
 match Nat.beq v.length ps.length with
 |true=>evC P C n [] (fun _ _=>none) aS [] ⟨fun st=>evC P C n [] (fun _ _=>none) bd [] ⟨fun _=>none,fun _ _=>none,fun st2=>K st2.H,fun _ _=>none⟩ st,fun _ _=>none,fun _=>none,fun _ _=>none⟩ ⟨kt1 ps v F,H⟩
 |false=>none
end
section
variable {T:Tab} {P:Program} {C:Ctx T} {w0:World} {S0:Ow} {n:Nat} {ds:List Deferred} {R:Type} {r:R} {w:World} {S:List Nat} {φ:Nat->RA} {F:AF T} {H:List (Ent T.U)} {F':PF}
def jv7 (hE:za0 T P C.E) (hm:P.follows .mixedOrders=true) {Q:Exit->Act->World->Prop} {f:Tmp} {ps:Array Tmp} {aS bd:Code} {caps:List (AV T.U)} {g:FuncId} {it:It1 T} {x:zc9 T it.ps} {ls:Src} {F:AF T} {Kret Kno:List (Ent T.U)->Option R}
  (hF:F.get T f=some (.fn (.func g) [] caps)) (hen:zl9 P g=true) (hit:ke8 T P g it) (hx:yb3 T H it.ps caps []=some (x,ls)) (hxn:zc5 (zl3 ls)=true) (hpre:it.pre x=true) (hp:qc6 F) (hd1:zk7 C.ms aS=true) (hd2:zk7 C.ms bd=true) (hps:(ps.toList.all fun p=>Nat.blt p n)=true)
  (hr:z8 (it.yes x) (qd4 P C n ps.toList aS bd F ((it.item x).map .cell) H Kret) (Kno H)=some r) (hs:Sim T w0 S0 ⟨F,H⟩ F' w S φ) {a:Act} (ha:Fr n ds F' a)
  (hno: ∀w1 D,Kno H=some r->Sim T w0 S0 ⟨F,H⟩ F' w1 S φ->w1.heap[D]?=some (.deferred (some []))->D∉S->w0.heap.size<=D->Q .normal {a with defers:= {target:=.collected D,args:= #[]}::a.defers} w1)
  (hret: ∀H1 w1 S1 φ1 D,Kret H1=some r->Sim T w0 S0 ⟨F,H1⟩ F' w1 S1 φ1->w1.heap[D]?=some (.deferred (some []))->D∉S1->w0.heap.size<=D->Q .ret {a with defers:= {target:=.collected D,args:= #[]}::a.defers} w1):
  (Code.rangeFunc (.tmp f) ps aS bd).wpIn Fence.wide 0 P Q a w:=by
 obtain ⟨vf,hvf,hrf⟩:=hs.fr f _ hF;obtain ⟨va,vb,rfl,hva,hvb⟩:=hrf;have hva0:va= #[]:=by
  cases hl:va.toList with
  |nil=>exact T5.1 (by simpa using hl)
  |cons x r=>rw [hl] at hva;exact hva.elim
 subst hva0;have hev:a.eval (.tmp f)=.func (.func g) #[] vb:=ha.eval (x:=.tmp f) hvf;refine wpIn_rangeFunc ?_;intro fn _;obtain ⟨rec,hrec⟩: ∃rec:LoopState->Option Code->Loop,rec=fun st pe=> {state:=st,pending:=pe,fn,tmps:=a.tmps,params:=ps,assign:=aS,body:=bd,defers:=w.heap.size}:=⟨_,rfl⟩;obtain ⟨W1,hW1⟩: ∃W1,(w.alloc (.deferred (some []))).alloc (.loop (rec .ready none))=W1:=⟨_,rfl⟩;have hL1:W1.heap[w.heap.size+1]?=some (.loop (rec .ready none)):=by
  rw [<-hW1];have:=World.alloc_heap_new (w.alloc (.deferred (some []))) (.loop (rec .ready none));rwa [World.size_alloc] at this
 have hK1:W1.heap[w.heap.size]?=some (.deferred (some [])):=by
  rw [<-hW1];exact (Below.heap_alloc _ _ _ (by simp)).trans (World.alloc_heap_new w _)
 have hc1:Chg [] w W1:=by rw [<-hW1];exact (Chg.alloc _ _).pure (Chg.alloc _ _)
 have hs1:=hs.pure hc1;have hw0:w0.heap.size<=w.heap.size:=hs.chg.size;have hSlt: ∀b∈S,b<w.heap.size:=fun b hb=>(hs.own b hb).2;refine ⟨w.heap.size+1,[{target:=.collected w.heap.size,args:= #[]}],W1,{target:=.fn (.func g) vb,args:= #[.func (.yield (w.heap.size+1)) #[] #[]]},W1,g,
  #[.func (.yield (w.heap.size+1)) #[] #[]]++vb,W1,?_,?_,fun _ _=>trivial,?_,fun h=>(by cases h),?_⟩
 ·rw [<-hW1,hrec];exact run_enterLoop_outer _ _ _ _ _
 ·simp only [resolve,hev];simp [go_sem]
 ·simp [invoke,go_sem,ya0 hen]
 generalize hl:w.heap.size+1=l at *;generalize hD:w.heap.size=D at *;refine callsIn_wide.2 ?_;have hvb1:VRL T W1 S φ caps vb.toList:=by
  obtain ⟨v,h1,h2⟩:=hs1.fr f _ hF;rw [hvf] at h1;simp only [X0] at h1;subst h1;obtain ⟨_,vb',e,_,h3⟩:=h2;cases e;exact h3
 obtain ⟨φc,hsc,hvc⟩:=hs1.shaped hx hxn hvb1;obtain ⟨us,hus,hcall⟩:=hit x hpre _ _ _ _ hsc hvc;have hus:it.yes x=true->VRL T W1 S φ ((it.item x).map .cell) us/\ ∀a∈(it.item x).map (AV.cell (U:=T.U)),okA H a:=fun hb=>by
  obtain ⟨e1,e2⟩:=hus hb;refine ⟨?_,fun a ha=>?_⟩
  ·have key: ∀(cs:List (Cell T.U)) (vs:List Value),cs.length=vs.length->(∀(j:Nat) (c:Cell T.U) (v:Value),cs[j]?=some c->vs[j]?=some v->CR T W1 S c.t c.x v)->VRL T W1 S φ (cs.map .cell) vs:=by
    intro cs;induction cs with
    |nil=>intro vs h _;cases vs with
     |nil=>trivial
     |cons _ _=>simp at h
    |cons c r ih=>
     intro vs h hr;cases vs with
     |nil=>simp at h
     |cons v s=>exact ⟨hr 0 c v rfl rfl,ih s (by simpa using h) fun j c v h1 h2=>hr (j+1) c v (by simpa using h1) (by simpa using h2)⟩
   exact key _ _ e1 e2
  ·obtain ⟨c,_,rfl⟩:=U2.1 ha;exact ⟨fun i hi=>(by cases hi),trivial⟩
 let J:World->Prop:=fun W=> ∃H1 S1 φ1,Sim T w0 S0 ⟨F,H1⟩ F' W S1 φ1/\l∉S1/\D∉S1/\W.heap[l]?=some (.loop (rec .done (some .ret)))/\W.heap[D]?=some (.deferred (some []))/\Kret H1=some r
 have hlS:l∉S:=fun h=>by have:=hSlt l h;omega
 have hDS:D∉S:=fun h=>by have:=hSlt D h;omega
 have hl0:w0.heap.size<=l:=by omega
 have keep: ∀ {W},Chg [] W1 W->W.heap[l]?=some (.loop (rec .ready none))/\W.heap[D]?=some (.deferred (some [])):=fun {W} hc=>
  ⟨(hc.block l (Y3.1 hL1).1 (by simp)).trans hL1,(hc.block D (Y3.1 hK1).1 (by simp)).trans hK1⟩
 refine (hcall l J ?_).mono ?_
 ·
  intro hb W hc;obtain ⟨hvr,hok⟩:=hus hb;obtain ⟨hL,hK⟩:=keep hc;have hs2:=hs1.pure hc;have hr1:qd4 P C n ps.toList aS bd F ((it.item x).map .cell) H Kret=some r:=by
   rcases zd8 hr with ⟨_,hr1⟩|⟨hb',_⟩
   ·exact hr1
   ·rw [hb] at hb';cases hb'
  unfold qd4 at hr1;split at hr1<;>try (cases hr1;done)
  rename_i hlen;have hlen:=X1 hlen;have hvr:=hvr.chg T hc (by simp) fun b hb=>.inl hb;have hus1:us.length=ps.size:=by rw [<-hvr.len T,hlen];simp
  have hlt:l<W.heap.size:=(Y3.1 hL).1;have hDlt:D<W.heap.size:=(Y3.1 hK).1;refine ⟨fn,_,aS,bd,by have hy:=run_yield (P:=P) (args:=us.toArray) hL (by rw [hrec];simpa using hus1);rw [hrec] at hy;exact hy,roundIn_of_wpIn trivial ?_⟩;have hfr:Fr n [] (km6 ps.toList us F') {tmps:=(ps.zip us.toArray).foldl (fun t (p:Tmp×Value)=>t.setIfInBounds p.1 p.2) a.tmps,defers:= []}:=by
   have h0:Fr n [] F' {tmps:=a.tmps,defers:= []}:=⟨ha.size,rfl,ha.val⟩;have h1:=jy6 (us:=us) hps h0;have e:(ps.zip us.toArray).foldl (fun t (p:Tmp×Value)=>t.setIfInBounds p.1 p.2) a.tmps=(ps.toList.zip us).foldl (fun t (p:Nat×Value)=>t.setIfInBounds p.1 p.2) a.tmps:=by
    rw [<-Array.foldl_toList];simp
   rw [e];exact h1
  have hstart:=jl0 (ps:=ps.toList) hs2.anew hvr hok;refine zf8 (ro:=some l) (m:=0) hE hm aS [] _ _ _ _ W hd1 (by rintro ⟨_,_,h⟩;exact h) hr1 ⟨?_,fun i st h=>(by cases h),fun st h=>(by cases h),fun a st h=>(by cases h)⟩ ⟨S,φ,hstart⟩ _ hfr
  rintro st1 h1 F1 w1 ⟨S2,φ2,hsm⟩ a1 ha1
  obtain ⟨g1,g2,g3,g4,g5,g6⟩:=hs2.after hp hsm;have hchg: ∀b,b∉S->b<W.heap.size->w1.heap[b]?=W.heap[b]?/\b∉S2:=fun b hb hbl=>⟨g3.block b hbl fun h=>hb (ya7.1 h).1,fun h=>by rcases g4 b h with h|h;exact hb h;omega⟩;obtain ⟨hL2,hl2⟩:=hchg l hlS hlt;obtain ⟨hK2,hD2⟩:=hchg D hDS hDlt;rw [hL] at hL2;rw [hK] at hK2;have hrb:(rec .ready none).state=.ready:=by rw [hrec]
  refine ⟨_,run_beginRound hL2 hrb,?_⟩;have ht:=Turn.putObj (.loop {rec .ready none with state:=.busy}) hL2 rfl;generalize hw2:w1.putObj l (.loop {rec .ready none with state:=.busy})=w2 at ht;have hL3:w2.heap[l]?=some (.loop {rec .ready none with state:=.busy}):=by rw [<-hw2];exact World.putObj_heap_same (Y3.1 hL2).1
  have hK3:w2.heap[D]?=some (.deferred (some [])):=by rw [<-hw2];exact (World.putObj_heap_other (by omega)).trans hK2
  have k1:=g1.turn ht hl2 hl0;have k2:=g2.turn ht hl2 hl0;refine zf8 (ro:=some l) (m:=0) hE hm bd [] _ _ _ _ w2 hd2 (by rintro ⟨_,_,h⟩;exact h) h1 ⟨fun st h=>(by cases h),fun i st h=>(by cases h),?_,fun a st h=>(by cases h)⟩ ⟨S2,φ2,k1.anew⟩ _ ha1
  rintro st2 h2 F2 w3 ⟨S3,φ3,hsm3⟩ a2 ha2
  obtain ⟨q1,q2,q3,q4,q5,q6⟩:=k2.after hp hsm3;have hlt3:l<w2.heap.size:=(Y3.1 hL3).1;have hDlt3:D<w2.heap.size:=(Y3.1 hK3).1;have hchg3: ∀b,b∉S2->b<w2.heap.size->w3.heap[b]?=w2.heap[b]?/\b∉S3:=fun b hb hbl=>⟨q3.block b hbl fun h=>hb (ya7.1 h).1,fun h=>by rcases q4 b h with h|h;exact hb h;omega⟩;obtain ⟨hL4,hl4⟩:=hchg3 l hl2 hlt3;obtain ⟨hK4,hD4⟩:=hchg3 D hD2 hDlt3;rw [hL3] at hL4;rw [hK3] at hK4;refine ⟨_,_,run_endRound (some .ret) hL4,rfl,st2.H,S3,φ3,q2.turn (Turn.putObj _ hL4 rfl) hl4 hl0,hl4,hD4,?_,(World.putObj_heap_other (by omega)).trans hK4,h2⟩;rw [World.putObj_heap_same (Y3.1 hL4).1,hrec];rfl
 ·
  rintro e W2 ⟨⟨u,rfl⟩,h1,h2⟩
  cases hb:it.yes x with
  |true=>
   obtain ⟨H1,S1,φ1,hs2,hl1,hD1,hL,hK,hr1⟩:=h1 hb;refine ⟨some .ret,_,?_,wpIn_ret (hret H1 _ S1 φ1 D hr1 (hs2.turn (Turn.putObj (.loop {rec .done (some .ret) with state:=.exhausted}) hL rfl) hl1 hl0) ((World.putObj_heap_other (by omega)).trans hK) hD1 (by omega))⟩;have:=run_endLoop (P:=P) hL (by rw [hrec];simp);rw [this];congr 1;rw [hrec]
  |false=>
   have hc:=h2 hb;obtain ⟨hL,hK⟩:=keep hc;have hs2:=hs1.pure hc;have hr1:Kno H=some r:=by
    rcases zd8 hr with ⟨hb',_⟩|⟨_,hr1⟩
    ·rw [hb] at hb';cases hb'
    ·exact hr1
   refine ⟨none,_,?_,hno _ D hr1 (hs2.turn (Turn.putObj (.loop {rec .ready none with state:=.exhausted}) hL rfl) hlS hl0) ((World.putObj_heap_other (by omega)).trans hK) hDS (by omega)⟩;have:=run_endLoop (P:=P) hL (by rw [hrec];simp);rw [this];congr 1;rw [hrec]
end
structure RuP (T:Tab) where
 depth:Nat
 left:Nat
 g:FuncId
 it:ItS T⊕It1 T
 live:List Nat
 bn:List (Nat×Nat×TypeId×Ty):= []
 tm:Option Nat:=none
def RuP.ok {T:Tab} (P:Program) (D:RuP T):Prop:=match D.it with| .inl it=>gd1 T P D.g it| .inr it=>ke8 T P D.g it
section
variable (T:Tab) (P:Program)
noncomputable def ruN (C:Ctx T) (fn:Func) (nl:Nl) (post:List PE) (rs:List Sh) (rest:Code) (F:AF T) (H:List (Ent T.U)):Option (zp4 T post×zc9 T rs):=evC P C fn.ntmps [] (fun _ _=>none) rest [] (jd4 T P fn nl post rs) ⟨F,H⟩
noncomputable def ruI (C:Ctx T) (fn:Func) (nl:Nl) (post:List PE) (rs:List Sh) (tm:Option Nat) (it:ItS T⊕It1 T) (caps:List (AV T.U)) (ps:List Nat) (aS bd rest:Code) (F:AF T) (H:List (Ent T.U)):Option (zp4 T post×zc9 T rs):=
 match it with
 | .inl it=>match it.cnt caps H with
  |some N=>jd5 P C fn.ntmps tm it caps ps aS bd F (ruN T P C fn nl post rs rest F) N 0 H
  |none=>none
 | .inr it=>match yb3 T H it.ps caps [] with
  |some (x,l)=>match zc5 (zl3 l) with
   |true=>if it.pre x=true then z8 (it.yes x) (qd4 P C fn.ntmps ps aS bd F ((it.item x).map .cell) H fun H=>yq1 T P fn nl post rs ⟨F,H⟩) (ruN T P C fn nl post rs rest F H) else none
   |false=>none
  |none=>none
noncomputable def ge4 (C:Ctx T) (fn:Func) (nl:Nl) (post:List PE) (rs:List Sh) (D:RuP T) (rest c:Code) (st:St T):Option (zp4 T post×zc9 T rs):=
 match c with
 | .block _ (.rangeFunc (.tmp f) ps aS bd)=>(match (zp1 T st.F D.live).get T f with
  |some (.fn (.func g) [] caps)=>(match Nat.beq g D.g&&(zl9 P g&&(qc5 T (zp1 T st.F D.live)&&(zk7 C.ms aS&&(zk7 C.ms bd&&(zk7 C.ms rest&&(ps.toList.all fun p=>Nat.blt p fn.ntmps)))))) with
   |true=>ruI T P C fn nl post rs D.tm D.it caps ps.toList aS bd rest (zp1 T st.F D.live) (zd6 T D.bn st.H)
   |false=>none)
  |_=>none)
 |_=>none
noncomputable def ruK (C:Ctx T) (fn:Func) (nl:Nl) (post:List PE) (rs:List Sh) (D:RuP T) (c:Code) (st:St T):Option (zp4 T post×zc9 T rs):=
 match c with
 | .seq l rest=>evS P C fn.ntmps ⟨fun _=>none,fun _ _=>none,fun _=>none,fun _ _=>none⟩ (ge4 T P C fn nl post rs D rest) D.left l st
 |_=>none
def ruL:Nat->Code->Option (Array Tmp×Code×Code)
 |0,.block _ (.rangeFunc _ ps aS bd)=>some (ps,aS,bd)
 |k+1,.seq _ y=>ruL k y
 |_,_=>none
def ke1 (left:Nat):Nat->Code->Option ((Array Tmp×Code×Code)×Code)
 |0,.seq l rest=>match ruL left l with|some x=>some (x,rest)|none=>none
 |k+1,.seq _ y=>ke1 left k y
 |_,_=>none
noncomputable def ko9 (C:Ctx T) (fn:Func) (c:Code) (nl:Nl) (post:List PE) (rs:List Sh) (D:RuP T) (caps:List (AV T.U)) (m k:Nat) (st:St T):Option (zp4 T post×zc9 T rs):=
 match ke1 D.left D.depth c,D.it with
 |some ((ps,aS,bd),rest),.inl it=>jd5 P C fn.ntmps D.tm it caps ps.toList aS bd st.F (ruN T P C fn nl post rs rest st.F) m k st.H
 |_,_=>none
noncomputable def kv0 (C:Ctx T) (fn:Func) (c:Code) (nl:Nl) (ps:List Sh) (post:List PE) (rs:List Sh) (D:RuP T) (x:zc9 T ps):Option (zp4 T post×zc9 T rs):=
 evS P C fn.ntmps ⟨fun _=>none,fun _ _=>none,fun _=>none,fun _ _=>none⟩ (ruK T P C fn nl post rs D) D.depth c ⟨yh9 T (ze3 T id ps x 0) 0,zk9 T id ps x 0⟩
end
section
variable {T:Tab} {P:Program} {w:World} {S:List Nat} {φ:Nat->RA} {w0:World} {S0:Ow} {F:AF T} {H:List (Ent T.U)} {F':PF}
def qr8 (T:Tab) (post:List PE) (rs:List Sh) (y:zp4 T post×zc9 T rs) (w:World) (S:List Nat) (φ:Nat->RA) (cnt:Nat) (e:Ending) (w':World):Prop:=
 match e with| .returned v=> ∃us,qq0 T post rs y.1 y.2 w S φ cnt w' us/\v=yb4 us|_=>False
def jx1 {C:Ctx T} {f:FuncId} {fn:Func} {c:Code} {ps rs:List Sh} {nl:Nl} {post:List PE} {D:RuP T} {g:zc9 T ps->Option (zp4 T post×zc9 T rs)} (hm:P.follows .mixedOrders=true) (hE:za0 T P C.E)
  (hf:P.funcs[f]?=some fn) (hb:fn.body=some c) (hs:Nat.ble ps.length fn.ntmps=true) (hpin:Nat.ble (zc1 ps) C.pin=true) (hpost:Nat.beq post.length (zc1 ps)=true) (hit:D.ok P)
  (hg: ∀x y,g x=some y->kv0 T P C fn c nl ps post rs D x=some y):GOk T P f ⟨ps,post,rs,g⟩:=by
 intro x y hy w S φ hsim vs hvs hoks;have hN:=hg x y hy;have hpost:=X1 hpost;have hall:(ze3 T id ps x 0).length=ps.length:=by
  have: ∀(l:List Sh) (x:zc9 T l) (k:Nat),(ze3 T id l x k).length=l.length:=by
   intro l;induction l with
   |nil=>intro x k;rfl
   |cons s r ih=>intro x k;exact congrArg (· +1) (ih x.2 _)
  exact this ps x 0
 have hlen:vs.length=ps.length:=by rw [<-hvs.len T];exact hall
 have hsz:vs.length<=fn.ntmps:=by rw [hlen];exact Y1 hs
 have hfr:Fr fn.ntmps [] (je3 vs 0) {tmps:=vs.toArray++Array.replicate (fn.ntmps-vs.toArray.size) undef,defers:= []}:=by
  refine ⟨by simp;omega,rfl,fun i v hv=>?_⟩;obtain ⟨_,h2⟩:=yc9 vs 0 i v hv;simp only [J4] at h2;have hi:=(X2.1 h2).1;refine ⟨?_,by omega⟩;rw [Y7,Array.getElem?_append_left (by simpa using hi)];simp [h2]
 have hstart:=hsim.slots hvs hoks;have hpin':((List.range (zc1 ps)).map φ).length<=C.pin:=by simpa using Y1 hpin
 suffices key:Calls P f vs.toArray w (qr8 T post rs y w S φ (zc1 ps)) by
  refine key.mono fun e w' h=>?_;cases e with
  |returned v=>
   obtain ⟨us,⟨F3,S3,φ3,k1,k2,k3⟩,h3⟩:=h;exact ⟨F3,S3,φ3,us,k1,k2,h3,k3⟩
  |panicked ch=>exact h
  |outgrown=>exact h
 refine callsIn_wide.1 (callsIn_of_wp_marks (F:=Fence.wide) (n:=0) hf hb trivial (wpIn_wide.2 (yy6 (r:=y) hm hpin' hE D.depth c _ _ _ w hN (K2:=ruK T P C fn nl post rs D) ⟨fun st h=>(by cases h),fun i st h=>(by cases h),fun st h=>(by cases h),fun a st h=>(by cases h)⟩ ?_ ⟨S,φ,hstart⟩ _ hfr)));intro c1 st h2 F1 w1 hs1 a ha;unfold ruK at h2;split at h2<;>try (cases h2;done)
 rename_i l rest;refine wp_seq (yy6 (r:=y) hm hpin' hE D.left l _ _ _ w1 h2 (K2:=ge4 T P C fn nl post rs D rest) ⟨fun st h=>(by cases h),fun i st h=>(by cases h),fun st h=>(by cases h),fun a st h=>(by cases h)⟩ ?_ hs1 a ha);clear h2 hs1 ha a F1 w1 st;intro c2 st h2 F1 w1 hs1 a ha;obtain ⟨S1,φ1,hsm⟩:=zc6 (F:=st.F) D.bn hs1;unfold ge4 at h2;split at h2<;>try (cases h2;done)
 rename_i id f2 pa aS bd;split at h2<;>try (cases h2;done)
 rename_i g2 caps hget;split at h2<;>try (cases h2;done)
 rename_i hb2;simp only [X3] at hb2;obtain ⟨b1,b2,b3,b4,b5,b7,b6⟩:=hb2;have:=X1 b1;subst this;have hsm0:=hsm.sub (F0:=zp1 T st.F D.live) fun i a h=>yl4 h;have hpl:=jb5 b3;have leave: ∀ {st2:St T},yq1 T P fn nl post rs st2=some y-> ∀ {F2 w2 S2 φ2} {Dm:Nat},Sim T w ⟨zd0 φ (zc1 ps),S,(List.range (zc1 ps)).map φ⟩ st2 F2 w2 S2 φ2->w2.heap[Dm]?=some (.deferred (some []))->Dm∉S2->w.heap.size<=Dm-> ∀ {a2:Act} {ds2:List Deferred},Fr fn.ntmps ds2 F2 a2->
   LeavesInM Fence.wide 0 P fn a2.tmps (qr8 T post rs y w S φ (zc1 ps)) [{target:=.collected Dm,args:= #[]}] .returning w2:=by
  intro st2 hst F2 w2 S2 φ2 Dm hsm2 hD hDS hD0 a2 ds2 ha2;refine ⟨by simp,.inl ⟨Dm,_,rfl,run_takeDeferred hD,?_⟩⟩;obtain ⟨v,h1,us,h2,h3⟩:=jk5 hpost hst ⟨S2,φ2,hsm2.turn (Turn.putObj (.deferred none) hD rfl) hDS hD0⟩ ha2;exact ⟨v,h1,us,h2,h3⟩
 have behind: ∀ {H1:List (Ent T.U)} {w2:World} {S2:List Nat} {φ2:Nat->RA} {Dm:Nat},ruN T P C fn nl post rs rest (zp1 T st.F D.live) H1=some y->Sim T w ⟨zd0 φ (zc1 ps),S,(List.range (zc1 ps)).map φ⟩ ⟨zp1 T st.F D.live,H1⟩ F1 w2 S2 φ2->w2.heap[Dm]?=some (.deferred (some []))->Dm∉S2->w.heap.size<=Dm->
   rest.wpIn Fence.wide 0 P (bodyPostM Fence.wide 0 P fn (qr8 T post rs y w S φ (zc1 ps))) {a with defers:= {target:=.collected Dm,args:= #[]}::a.defers} w2:=by
  intro H1 w2 S2 φ2 Dm hn hs2 hD hDS hD0;have hDl:=(Y3.1 hD).1;have leaf: ∀st3,yq1 T P fn nl post rs st3=some y->SK fn.ntmps ({target:=.collected Dm,args:= #[]}::a.defers) w2 (agn w ⟨zd0 φ (zc1 ps),S,(List.range (zc1 ps)).map φ⟩ S2 φ2 H1.length) (fun a2 w3=>LeavesInM Fence.wide 0 P fn a2.tmps (qr8 T post rs y w S φ (zc1 ps)) a2.defers .returning w3) st3:=by
   rintro st3 h3 F3 w3 ⟨S3,φ3,hsm3⟩ a3 ha3
   obtain ⟨g1,g2,g3,g4,g5,g6⟩:=hs2.after hpl hsm3;have hD3:w3.heap[Dm]?=some (.deferred (some [])):=(g3.block Dm hDl fun h=>hDS (ya7.1 h).1).trans hD;have hDS3:Dm∉S3:=fun h=>by rcases g4 Dm h with h|h;exact hDS h;omega
   rw [ha3.defers,ha.defers];exact leave h3 g1 hD3 hDS3 hD0 ha3
  have hfr2:Fr fn.ntmps ({target:=.collected Dm,args:= #[]}::a.defers) F1 {a with defers:= {target:=.collected Dm,args:= #[]}::a.defers}:=⟨ha.size,rfl,ha.val⟩;exact zf8 (ro:=none) (m:=0) hE hm rest [] (jd4 T P fn nl post rs) _ (bodyPostM Fence.wide 0 P fn (qr8 T post rs y w S φ (zc1 ps))) F1 w2 b7 (by rintro ⟨_,_,h⟩;exact h) hn ⟨leaf,fun i st h=>(by cases h),leaf,fun a st h=>(by cases h)⟩ ⟨S2,φ2,hs2.anew⟩ _ hfr2
 refine (wpIn_wide (n:=0)).1 (wpIn_block ?_);unfold ruI at h2;unfold RuP.ok at hit;split at h2
 ·rename_i it hdi;rw [hdi] at hit;split at h2<;>try (cases h2;done)
  rename_i N hc;refine jv6 hE hm hget b2 hit hc hpl b4 b5 b6 hpin' h2 hsm0 ha ?_;intro H1 w2 S2 φ2 Dm hend hs2 hD hDS hD0;exact (wpIn_wide (n:=0)).1 (behind hend hs2 hD hDS hD0)
 ·rename_i it hdi;rw [hdi] at hit;split at h2<;>try (cases h2;done)
  rename_i x1 l1 hx1;split at h2<;>try (cases h2;done)
  rename_i hxn;obtain ⟨hpre,h2⟩:=v6 h2;refine jv7 hE hm (Kno:=ruN T P C fn nl post rs rest (zp1 T st.F D.live)) hget b2 hit hx1 hxn hpre hpl b4 b5 b6 h2 hsm0 ha ?_ ?_
  ·intro w2 Dm hend hs2 hD hDS hD0;exact (wpIn_wide (n:=0)).1 (behind hend hs2 hD hDS hD0)
  ·intro H1 w2 S2 φ2 Dm hend hs2 hD hDS hD0;show LeavesInM Fence.wide 0 P fn a.tmps _ ({target:=.collected Dm,args:= #[]}::a.defers) .returning w2;rw [ha.defers];exact leave hend hs2 hD hDS hD0 ha
end
end Go.X
