import Derived.Test.YtliopfopmhhdeaaGreatXW
set_option linter.defProp false
namespace Go.X
open Go.RowKit Go.V
def jm1 (P:Program) (l:Nat) (args:Array Value) (W:World) (R:Ending->World->Prop):Prop:=
 ∃fn b a c,(Instr.yield l args).run P W=.ok (.round l fn b a c) W/\RoundIn Fence.wide 0 P l fn b a c W R
structure ItS (T:Tab) where
 cnt:List (AV T.U)->List (Ent T.U)->Option Nat
 item:List (AV T.U)->List (Ent T.U)->Nat->Option (List (AV T.U))
 chk:List (AV T.U)->List (Ent T.U)->Nat->Option Bool:=fun _ _ _=>none
def kj3:Option Bool->Prop|none=>True|some c=>c=true
def kb1 {R:Type} (o:Option Bool) (x:Option R):Option R:=match o with|none=>x|some c=>z8 c x none
def yy3 {R:Type} {o:Option Bool} {x:Option R} {r:R} (h:kb1 o x=some r):kj3 o/\x=some r:=by
 cases o with
 |none=>exact ⟨trivial,h⟩
 |some c=>cases c with
  |true=>exact ⟨rfl,h⟩
  |false=>cases h
def gd1 (T:Tab) (P:Program) (g:FuncId) (h:ItS T):Prop:=
 ∀(b:List (AV T.U)) (H:List (Ent T.U)) (N:Nat),h.cnt b H=some N->
  ∀(w0:World) (S0:Ow) (F:AF T) (F':PF) (w:World) (S:List Nat) (φ:Nat->RA) (i:List Value),Sim T w0 S0 ⟨F,H⟩ F' w S φ->VRL T w S φ b i->
  ∃(j:Nat->World->List Value->Prop) (m:World->Prop),
   (∀(k:Nat) (H1:List (Ent T.U)) (v:List (AV T.U)) (w0:World) (S0:Ow) (F:AF T) (F':PF) (d:World) (S1:List Nat) (c:Nat->RA),kj3 (h.chk b H1 N)->h.item b H1 k=some v->Sim T w0 S0 ⟨F,H1⟩ F' d S1 c->VRL T d S1 c b i->
    ∃us,j k d us/\VRL T d S1 c v us/\ ∀a∈v,okA H1 a)/\
   (∀(H1:List (Ent T.U)) (w0:World) (S0:Ow) (F:AF T) (F':PF) (d:World) (S1:List Nat) (c:Nat->RA),kj3 (h.chk b H1 N)->Sim T w0 S0 ⟨F,H1⟩ F' d S1 c->VRL T d S1 c b i->m d)/\
   ∀(l:Nat) (J:Nat->World->Prop),(∀k W,k<N->J k W-> ∃us,j k W us/\jm1 P l us.toArray W fun e f=>e=.returned (.bool true)/\J (k+1) f)->(∀W,J N W->m W)->(∀k W f,J k W->Chg [] W f->J k f)->J 0 w->
    Calls P g (#[.func (.yield l) #[] #[]]++i.toArray) w fun e f=>(∃v,e=.returned v)/\J N f
mutual
def jl5 {U:Nat->Type} {ρ:Nat->Nat}: ∀ {a:AV U},(∀i∈a.ids,ρ i=i)->a.ren ρ=a
 | .cell _,_=>by rw [AV.ren]
 | .ptr i _,h=>by rw [AV.ren,h i (by simp [AV.ids])]
 | .eptr i _ _ _,h=>by rw [AV.ren,h i (by simp [AV.ids])]
 | .lptr _ _ _ _,_=>by rw [AV.ren]
 | .own i,h=>by rw [AV.ren,h i (by simp [AV.ids])]
 | .sl i _ _ _,h=>by rw [AV.ren,h i (by simp [AV.ids])]
 | .agg cs,h=>by rw [AV.ren,yc4 (by rwa [AV.ids] at h)]
 | .tup cs,h=>by rw [AV.ren,yc4 (by rwa [AV.ids] at h)]
 | .fn _ a b,h=>by
  rw [AV.ids] at h;rw [AV.ren,yc4 fun i c=>h i (X4.2 (.inl c)),yc4 fun i c=>h i (X4.2 (.inr c))]
 | .ifc _ a,h=>by rw [AV.ren,jl5 (by rwa [AV.ids] at h)]
 | .raw _,_=>by rw [AV.ren]
 | .arr _ _ _,_=>by rw [AV.ren]
 | .aptr i _ _ _ _ _,h=>by rw [AV.ren,h i (by simp [AV.ids])]
 | .asl i _ _ _ _ _,h=>by rw [AV.ren,h i (by simp [AV.ids])]
 | .mp i,h=>by rw [AV.ren,h i (by simp [AV.ids])]
 | .hmp i,h=>by rw [AV.ren,h i (by simp [AV.ids])]
def yc4 {U:Nat->Type} {ρ:Nat->Nat}: ∀ {aS:List (AV U)},(∀i∈q7 aS,ρ i=i)->zi2 ρ aS=aS
 | [],_=>by rw [zi2]
 |a::r,h=>by
  rw [q7] at h;rw [zi2,jl5 fun i hi=>h i (X4.2 (.inl hi)),yc4 fun i hi=>h i (X4.2 (.inr hi))]
end
def ju1 {T:Tab} {ρ:Nat->Nat}: ∀ {F:AF T},(∀i∈jm9 T F,ρ i=i)->ve5 T ρ F=F
 | [],_=>rfl
 |(j,a)::r,h=>by
  rw [jm9] at h;rw [ve5,jl5 fun i b=>h i (X4.2 (.inl b)),ju1 fun i b=>h i (X4.2 (.inr b))]
def kh8 {T:Tab} (m:Nat) (F:AF T) (H:List (Ent T.U)):Option (List (Ent T.U)):=
 let ids:=qb0 T H (H.length+1) (List.range m)
 match vo9 m ids&&(zc5 ids&&(vr0 ids (jm9 T F)&&(vr0 ids (vb9 T H ids)&&(jm9 T F).all fun i=>Nat.blt i m))) with
 |true=>some (zd2 T H (fun i=>qh9 i ids) ids)
 |false=>none
def vm9 {T w0 S0 F H H1 F' w S φ m} (j:S0.pin.length<=m) (h:Sim T w0 S0 ⟨F,H⟩ F' w S φ) (b:kh8 m F H=some H1):
  ∃φ',Sim T w0 S0 ⟨F,H1⟩ F' w S φ':=by
 unfold kh8 at b;simp only at b;split at b
 ·rename_i e;simp only [X3] at e;obtain ⟨f,g,l,o,p⟩:=e;simp only [X0] at b;subst b;have:=h.renum (F1:=F) _ (fun i a q=>q) g (fun k c=>yr0 f (V4 c j)) (yc6 l) (yc6 o);rw [ju1] at this
  ·exact ⟨_,this⟩
  ·intro i d;have d:i<m:=Y1 (Y8.1 p i d);have c:=yr0 f d;obtain ⟨t,s⟩:=zw4 (X6 c);exact zx7 g s c
 ·cases b
section
variable {T:Tab} {R:Type}
def kt1:List Nat->List (AV T.U)->AF T->AF T
 |p::ps,a::aS,F=>kt1 ps aS ((p,a)::F)
 |_,_,F=>F
def km6:List Nat->List Value->PF->PF
 |p::ps,v::vs,F=>km6 ps vs ((p,v)::F)
 |_,_,F=>F
variable (P:Program) (C:Ctx T) (n:Nat)
noncomputable def qx9 (ps:List Nat) (aS bd:Code) (F:AF T) (v:List (AV T.U)) (H:List (Ent T.U)) (K:List (Ent T.U)->Option R):Option R:=
 match Nat.beq v.length ps.length with
 |true=>evC P C n [] (fun _ _=>none) aS [] ⟨fun st=>evC P C n [] (fun _ _=>none) bd [] ⟨fun st2=>K st2.H,fun _ _=>none,fun _=>none,fun _ _=>none⟩ st,fun _ _=>none,fun _=>none,fun _ _=>none⟩ ⟨kt1 ps v F,H⟩
 |false=>none
def tmK (tm:Option Nat) (F:AF T) (K:List (Ent T.U)->Option R) (H:List (Ent T.U)):Option R:=match tm with|none=>K H|some m=>(match kh8 (C.pin+m) F H with|some H1=>K H1|none=>none)
noncomputable def jd5 (tm:Option Nat) (it:ItS T) (caps:List (AV T.U)) (ps:List Nat) (aS bd:Code) (F:AF T) (Kend:List (Ent T.U)->Option R) (m:Nat):Nat->List (Ent T.U)->Option R:=
 Nat.rec (fun k H=>kb1 (it.chk caps H k) (Kend H)) (fun m ih k H=>kb1 (it.chk caps H (k+(m+1))) (match it.item caps H k with|some v=>qx9 P C n ps aS bd F v H (tmK C tm F (ih (k+1)))|none=>none)) m
end
section
variable {T:Tab} {P:Program} {C:Ctx T} {w0:World} {S0:Ow} {n:Nat} {ds:List Deferred} {R:Type} {r:R} {w:World} {S:List Nat} {φ:Nat->RA} {F:AF T} {H:List (Ent T.U)} {F':PF}
def jy6: ∀ {ps us F' a},(ps.all fun p=>Nat.blt p n)=true->Fr n ds F' a->
  Fr n ds (km6 ps us F') {a with tmps:=(ps.zip us).foldl (fun t (p:Nat×Value)=>t.setIfInBounds p.1 p.2) a.tmps}
 | [],_,F',a,_,h=>h
 |_::_,[],F',a,_,h=>h
 |p::ps,u::us,F',a,b,h=>by
  rw [J1,X3] at b;have c:=h.upd (dst:=some p) (by simpa [zi5] using b.1) u;exact jy6 (ps:=ps) (us:=us) b.2 c
def jl0: ∀ {ps v us F F'},Sim T w0 S0 ⟨F,H⟩ F' w S φ->VRL T w S φ v us->(∀a∈v,okA H a)->Sim T w0 S0 ⟨kt1 ps v F,H⟩ (km6 ps us F') w S φ
 | [],v,us,F,F',h,c,_=>by cases v<;>cases us<;>exact h
 |_::_,[],[],F,F',h,_,_=>h
 |_::_,[],_::_,_,_,_,c,_=>c.elim
 |_::_,_::_,[],_,_,_,c,_=>c.elim
 |p::ps,a::v,u::us,F,F',h,c,d=>jl0 (ps:=ps) (h.slot (dst:=some p) c.1 (d a (U3 ..))) c.2 fun b e=>d b (Z4 _ e)
def jv6 (hE:za0 T P C.E) (hm:P.follows .mixedOrders=true) {Q:Exit->Act->World->Prop} {f:Tmp} {ps:Array Tmp} {aS bd:Code} {caps:List (AV T.U)} {g:FuncId} {it:ItS T} {N:Nat} {F:AF T} {Kend:List (Ent T.U)->Option R}
  (hF:F.get T f=some (.fn (.func g) [] caps)) (hen:zl9 P g=true) (hit:gd1 T P g it) (hc:it.cnt caps H=some N) (hp:qc6 F) (hd1:zk7 C.ms aS=true) (hd2:zk7 C.ms bd=true) (hps:(ps.toList.all fun p=>Nat.blt p n)=true) {tm:Option Nat} (hpn:S0.pin.length<=C.pin)
  (hr:jd5 P C n tm it caps ps.toList aS bd F Kend N 0 H=some r) (hs:Sim T w0 S0 ⟨F,H⟩ F' w S φ) {a:Act} (ha:Fr n ds F' a)
  (hend: ∀H1 w1 S1 φ1 D,Kend H1=some r->Sim T w0 S0 ⟨F,H1⟩ F' w1 S1 φ1->w1.heap[D]?=some (.deferred (some []))->D∉S1->w0.heap.size<=D->Q .normal {a with defers:= {target:=.collected D,args:= #[]}::a.defers} w1):
  (Code.rangeFunc (.tmp f) ps aS bd).wpIn Fence.wide 0 P Q a w:=by
 obtain ⟨vf,hvf,hrf⟩:=hs.fr f _ hF;obtain ⟨va,vb,rfl,hva,hvb⟩:=hrf;have hva0:va= #[]:=by
  cases hl:va.toList with
  |nil=>exact T5.1 (by simpa using hl)
  |cons x r=>rw [hl] at hva;exact hva.elim
 subst hva0;have hev:a.eval (.tmp f)=.func (.func g) #[] vb:=ha.eval (x:=.tmp f) hvf;refine wpIn_rangeFunc ?_;intro fn _;obtain ⟨rec,hrec⟩: ∃rec:LoopState->Option Code->Loop,rec=fun st pe=> {state:=st,pending:=pe,fn,tmps:=a.tmps,params:=ps,assign:=aS,body:=bd,defers:=w.heap.size}:=⟨_,rfl⟩;obtain ⟨W1,hW1⟩: ∃W1,(w.alloc (.deferred (some []))).alloc (.loop (rec .ready none))=W1:=⟨_,rfl⟩;have hL1:W1.heap[w.heap.size+1]?=some (.loop (rec .ready none)):=by
  rw [<-hW1];have:=World.alloc_heap_new (w.alloc (.deferred (some []))) (.loop (rec .ready none));rwa [World.size_alloc] at this
 have hK1:W1.heap[w.heap.size]?=some (.deferred (some [])):=by
  rw [<-hW1];exact (Below.heap_alloc _ _ _ (by simp)).trans (World.alloc_heap_new w _)
 have hc1:Chg [] w W1:=by rw [<-hW1];exact (Chg.alloc _ _).pure (Chg.alloc _ _)
 have hs1:=hs.pure hc1;have hw0:w0.heap.size<=w.heap.size:=hs.chg.size;have hSlt: ∀b∈S,b<w.heap.size:=fun b hb=>(hs.own b hb).2;refine ⟨w.heap.size+1,[{target:=.collected w.heap.size,args:= #[]}],W1,{target:=.fn (.func g) vb,args:= #[.func (.yield (w.heap.size+1)) #[] #[]]},W1,g,
  #[.func (.yield (w.heap.size+1)) #[] #[]]++vb,W1,?_,?_,fun _ _=>trivial,?_,fun h=>(by cases h),?_⟩
 ·rw [<-hW1,hrec];exact run_enterLoop_outer _ _ _ _ _
 ·simp only [resolve,hev];simp [go_sem]
 ·simp [invoke,go_sem,ya0 hen]
 generalize hl:w.heap.size+1=l at *;generalize hD:w.heap.size=D at *;refine callsIn_wide.2 ?_;have hvb1:VRL T W1 S φ caps vb.toList:=by
  obtain ⟨v,h1,h2⟩:=hs1.fr f _ hF;rw [hvf] at h1;simp only [X0] at h1;subst h1;obtain ⟨_,vb',e,_,h3⟩:=h2;cases e;exact h3
 obtain ⟨Rd,Re,hrd,hre,hcall⟩:=hit caps H N hc _ _ _ _ _ _ _ _ hs1 hvb1
 let J:Nat->World->Prop:=fun k W=>k<=N/\ ∃H1 S1 φ1,Sim T w0 S0 ⟨F,H1⟩ F' W S1 φ1/\l∉S1/\D∉S1/\W.heap[l]?=some (.loop (rec .ready none))/\W.heap[D]?=some (.deferred (some []))/\jd5 P C n tm it caps ps.toList aS bd F Kend (N-k) k H1=some r
 have hlS:l∉S:=fun h=>by have:=hSlt l h;omega
 have hDS:D∉S:=fun h=>by have:=hSlt D h;omega
 have hl0:w0.heap.size<=l:=by omega
 refine ((hcall l J ?_ ?_ ?_ ⟨U4 _,H,S,φ,hs1,hlS,hDS,hL1,hK1,hr⟩).mono ?_)
 ·
  rintro k W hk ⟨_,H1,S1,φ1,hs2,hl1,hD1,hL,hK,hr1⟩
  obtain ⟨m,hm1⟩: ∃m,N-k=m+1:=⟨N-k-1,by omega⟩;rw [hm1] at hr1;have hr1:kb1 (it.chk caps H1 (k+(m+1))) (match it.item caps H1 k with|some v=>qx9 P C n ps.toList aS bd F v H1 (tmK C tm F (jd5 P C n tm it caps ps.toList aS bd F Kend m (k+1)))|none=>none)=some r:=hr1;rw [show k+(m+1)=N by omega] at hr1;obtain ⟨hck,hr1⟩:=yy3 hr1;split at hr1<;>try (cases hr1;done)
  rename_i v hv;unfold qx9 at hr1;split at hr1<;>try (cases hr1;done)
  rename_i hlen;have hlen:=X1 hlen;have hvb2:VRL T W S1 φ1 caps vb.toList:=by
   obtain ⟨v,h1,h2⟩:=hs2.fr f _ hF;rw [hvf] at h1;simp only [X0] at h1;subst h1;obtain ⟨_,vb',e,_,h3⟩:=h2;cases e;exact h3
  obtain ⟨us,hus,hvr,hok⟩:=hrd k H1 v _ _ _ _ _ _ _ hck hv hs2 hvb2;have hus1:us.length=ps.size:=by rw [<-hvr.len T,hlen];simp
  have hlt:l<W.heap.size:=(Y3.1 hL).1;have hDlt:D<W.heap.size:=(Y3.1 hK).1;refine ⟨us,hus,fn,_,aS,bd,by have hy:=run_yield (P:=P) (args:=us.toArray) hL (by rw [hrec];simpa using hus1);rw [hrec] at hy;exact hy,roundIn_of_wpIn trivial ?_⟩;have hfr:Fr n [] (km6 ps.toList us F') {tmps:=(ps.zip us.toArray).foldl (fun t (p:Tmp×Value)=>t.setIfInBounds p.1 p.2) a.tmps,defers:= []}:=by
   have h0:Fr n [] F' {tmps:=a.tmps,defers:= []}:=⟨ha.size,rfl,ha.val⟩;have h1:=jy6 (us:=us) hps h0;have e:(ps.zip us.toArray).foldl (fun t (p:Tmp×Value)=>t.setIfInBounds p.1 p.2) a.tmps=(ps.toList.zip us).foldl (fun t (p:Nat×Value)=>t.setIfInBounds p.1 p.2) a.tmps:=by
    rw [<-Array.foldl_toList];simp
   rw [e];exact h1
  have hstart:=jl0 (ps:=ps.toList) hs2.anew hvr hok;refine zf8 (ro:=some l) (m:=0) hE hm aS [] _ _ _ _ W hd1 (by rintro ⟨_,_,h⟩;exact h) hr1 ⟨?_,fun i st h=>(by cases h),fun st h=>(by cases h),fun a st h=>(by cases h)⟩ ⟨S1,φ1,hstart⟩ _ hfr
  rintro st1 h1 F1 w1 ⟨S2,φ2,hsm⟩ a1 ha1
  obtain ⟨g1,g2,g3,g4,g5,g6⟩:=hs2.after hp hsm;have hchg: ∀b,b∉S1->b<W.heap.size->w1.heap[b]?=W.heap[b]?/\b∉S2:=fun b hb hbl=>⟨g3.block b hbl fun h=>hb (ya7.1 h).1,fun h=>by rcases g4 b h with h|h;exact hb h;omega⟩;obtain ⟨hL2,hl2⟩:=hchg l hl1 hlt;obtain ⟨hK2,hD2⟩:=hchg D hD1 hDlt;rw [hL] at hL2;rw [hK] at hK2;have hrb:(rec .ready none).state=.ready:=by rw [hrec]
  refine ⟨_,run_beginRound hL2 hrb,?_⟩;have ht:=Turn.putObj (.loop {rec .ready none with state:=.busy}) hL2 rfl;generalize hw2:w1.putObj l (.loop {rec .ready none with state:=.busy})=w2 at ht;have hL3:w2.heap[l]?=some (.loop {rec .ready none with state:=.busy}):=by rw [<-hw2];exact World.putObj_heap_same (Y3.1 hL2).1
  have hK3:w2.heap[D]?=some (.deferred (some [])):=by rw [<-hw2];exact (World.putObj_heap_other (by omega)).trans hK2
  have k1:=g1.turn ht hl2 hl0;have k2:=g2.turn ht hl2 hl0;refine zf8 (ro:=some l) (m:=0) hE hm bd [] _ _ _ _ w2 hd2 (by rintro ⟨_,_,h⟩;exact h) h1 ⟨?_,fun i st h=>(by cases h),fun st h=>(by cases h),fun a st h=>(by cases h)⟩ ⟨S2,φ2,k1.anew⟩ _ ha1
  rintro st2 h2 F2 w3 ⟨S3,φ3,hsm3⟩ a2 ha2
  obtain ⟨q1,q2,q3,q4,q5,q6⟩:=k2.after hp hsm3;have hlt3:l<w2.heap.size:=(Y3.1 hL3).1;have hDlt3:D<w2.heap.size:=(Y3.1 hK3).1;have hchg3: ∀b,b∉S2->b<w2.heap.size->w3.heap[b]?=w2.heap[b]?/\b∉S3:=fun b hb hbl=>⟨q3.block b hbl fun h=>hb (ya7.1 h).1,fun h=>by rcases q4 b h with h|h;exact hb h;omega⟩;obtain ⟨hL4,hl4⟩:=hchg3 l hl2 hlt3;obtain ⟨hK4,hD4⟩:=hchg3 D hD2 hDlt3;rw [hL3] at hL4;rw [hK3] at hK4;obtain ⟨H5,φ5,q2,h2⟩: ∃H5 φ5,Sim T w0 S0 ⟨F,H5⟩ F' w3 S3 φ5/\jd5 P C n tm it caps ps.toList aS bd F Kend m (k+1) H5=some r:=by
   unfold tmK at h2;cases tm with
   |none=>exact ⟨_,_,q2,h2⟩
   |some m0=>
    simp only at h2;split at h2<;>try (cases h2;done)
    rename_i H5 ht5;obtain ⟨φ5,q5⟩:=vm9 (W9 hpn (Nat.le_add_right _ _)) q2 ht5;exact ⟨H5,φ5,q5,h2⟩
  refine ⟨_,_,run_endRound none hL4,rfl,by omega,H5,S3,φ5,q2.turn (Turn.putObj _ hL4 rfl) hl4 hl0,hl4,hD4,?_,(World.putObj_heap_other (by omega)).trans hK4,?_⟩
  ·rw [World.putObj_heap_same (Y3.1 hL4).1,hrec];rfl
  ·rw [show N-(k+1)=m by omega];exact h2
 ·
  rintro W ⟨_,H1,S1,φ1,hs2,_,_,_,_,hr1⟩
  rw [N4] at hr1;have hr1:kb1 (it.chk caps H1 N) (Kend H1)=some r:=hr1;refine hre H1 _ _ _ _ _ _ _ (yy3 hr1).1 hs2 ?_;obtain ⟨v,h1,h2⟩:=hs2.fr f _ hF;rw [hvf] at h1;simp only [X0] at h1;subst h1;obtain ⟨_,vb',e,_,h3⟩:=h2;cases e;exact h3
 ·
  rintro k W W' ⟨h1,H1,S1,φ1,hs2,hl1,hD1,hL,hK,hr1⟩ hc
  exact ⟨h1,H1,S1,φ1,hs2.pure hc,hl1,hD1,(hc.block l (Y3.1 hL).1 (by simp)).trans hL,(hc.block D (Y3.1 hK).1 (by simp)).trans hK,hr1⟩
 ·
  rintro e W2 ⟨⟨v,rfl⟩,_,H1,S1,φ1,hs2,hl1,hD1,hL,hK,hr1⟩
  refine ⟨none,_,?_,hend H1 _ S1 φ1 D ?_ (hs2.turn (Turn.putObj (.loop {rec .ready none with state:=.exhausted}) hL rfl) hl1 hl0) ((World.putObj_heap_other (by omega)).trans hK) hD1 (by omega)⟩
  ·have:=run_endLoop (P:=P) hL (by rw [hrec];simp);rw [this];congr 1;rw [hrec]
  ·rw [N4] at hr1;have hr1:kb1 (it.chk caps H1 N) (Kend H1)=some r:=hr1;exact (yy3 hr1).2
end
structure RfP (T:Tab) where
 depth:Nat
 g:FuncId
 it:ItS T
 live:List Nat
section
variable (T:Tab) (P:Program)
def qc5:AF T->Bool
 | []=>true
 |(_,a)::r=>zh1 a&&qc5 r
end
section
variable {T:Tab} {P:Program} {w:World} {S:List Nat} {φ:Nat->RA} {w0:World} {S0:Ow} {F:AF T} {H:List (Ent T.U)} {F':PF}
def jb5: ∀ {F},qc5 T F=true->qc6 F
 | [],_,i,a,h=>by simp [AF.get] at h
 |(j,b)::r,c,i,a,h=>by
  rw [qc5,X3] at c;simp only [AF.get] at h;split at h
  ·simp only [X0] at h;subst h;exact c.1
  ·exact jb5 c.2 i a h
def Sim.sub (h:Sim T w0 S0 ⟨F,H⟩ F' w S φ) {F0} (c: ∀i a,F0.get T i=some a->F.get T i=some a):Sim T w0 S0 ⟨F0,H⟩ F' w S φ:=
 ⟨fun i a b=>h.fr i a (c i a b),fun i a b=>h.ids i a (c i a b),h.chg,h.own,h.ex,h.lives,h.pins,h.ents,h.eids,h.apart⟩
end
end Go.X
