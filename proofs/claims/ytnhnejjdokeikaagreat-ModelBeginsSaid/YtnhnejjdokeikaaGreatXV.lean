import Derived.Test.YtnhnejjdokeikaaGreatXW
set_option linter.defProp false
namespace Go.X
open Go.RowKit Go.V
def qa2 (P:Program) (l:Nat) (args:Array Value) (W:World) (R:Ending->World->Prop):Prop:=
 ∃fn b a c,(Instr.yield l args).run P W=.ok (.round l fn b a c) W/\RoundIn Fence.wide 0 P l fn b a c W R
structure ItS (T:Tab) where
 cnt:List (AV T.U)->List (Ent T.U)->Option Nat
 item:List (AV T.U)->List (Ent T.U)->Nat->Option (List (AV T.U))
 chk:List (AV T.U)->List (Ent T.U)->Nat->Option Bool:=fun _ _ _=>none
def ud8:Option Bool->Prop|none=>True|some c=>c=true
def kh7 {R:Type} (o:Option Bool) (x:Option R):Option R:=match o with|none=>x|some c=>j8 c x none
def yu6 {R:Type} {o:Option Bool} {x:Option R} {r:R} (h:kh7 o x=some r):ud8 o/\x=some r:=by
 cases o with
 |none=>exact ⟨trivial,h⟩
 |some c=>cases c with
  |true=>exact ⟨rfl,h⟩
  |false=>cases h
def gh7 (T:Tab) (P:Program) (g:FuncId) (h:ItS T):Prop:=
 ∀(b:List (AV T.U)) (H:List (Ent T.U)) (N:Nat),h.cnt b H=some N->
  ∀(w0:World) (S0:Ow) (F:AF T) (F':PF) (w:World) (S:List Nat) (φ:Nat->RA) (i:List Value),Sim T w0 S0 ⟨F,H⟩ F' w S φ->VRL T w S φ b i->
  ∃(j:Nat->World->List Value->Prop) (m:World->Prop),
   (∀(k:Nat) (H1:List (Ent T.U)) (v:List (AV T.U)) (w0:World) (S0:Ow) (F:AF T) (F':PF) (d:World) (S1:List Nat) (c:Nat->RA),ud8 (h.chk b H1 N)->h.item b H1 k=some v->Sim T w0 S0 ⟨F,H1⟩ F' d S1 c->VRL T d S1 c b i->
    ∃us,j k d us/\VRL T d S1 c v us/\ ∀a∈v,okA H1 a)/\
   (∀(H1:List (Ent T.U)) (w0:World) (S0:Ow) (F:AF T) (F':PF) (d:World) (S1:List Nat) (c:Nat->RA),ud8 (h.chk b H1 N)->Sim T w0 S0 ⟨F,H1⟩ F' d S1 c->VRL T d S1 c b i->m d)/\
   ∀(l:Nat) (J:Nat->World->Prop),(∀k W,k<N->J k W-> ∃us,j k W us/\qa2 P l us.toArray W fun e f=>e=.returned (.bool true)/\J (k+1) f)->(∀W,J N W->m W)->(∀k W f,J k W->Chg [] W f->J k f)->J 0 w->
    Calls P g (#[.func (.yield l) #[] #[]]++i.toArray) w fun e f=>(∃v,e=.returned v)/\J N f
mutual
def jk7 {U:Nat->Type} {ρ:Nat->Nat}: ∀ {a:AV U},(∀i∈a.ids,ρ i=i)->a.ren ρ=a
 | .cell _,_=>by rw [AV.ren]
 | .ptr i _,h=>by rw [AV.ren,h i (by simp [AV.ids])]
 | .eptr i _ _ _,h=>by rw [AV.ren,h i (by simp [AV.ids])]
 | .lptr _ _ _ _,_=>by rw [AV.ren]
 | .own i,h=>by rw [AV.ren,h i (by simp [AV.ids])]
 | .sl i _ _ _,h=>by rw [AV.ren,h i (by simp [AV.ids])]
 | .agg cs,h=>by rw [AV.ren,zz5 (by rwa [AV.ids] at h)]
 | .tup cs,h=>by rw [AV.ren,zz5 (by rwa [AV.ids] at h)]
 | .fn _ a b,h=>by
  rw [AV.ids] at h;rw [AV.ren,zz5 fun i c=>h i (X4.2 (.inl c)),zz5 fun i c=>h i (X4.2 (.inr c))]
 | .ifc _ a,h=>by rw [AV.ren,jk7 (by rwa [AV.ids] at h)]
 | .raw _,_=>by rw [AV.ren]
 | .arr _ _ _,_=>by rw [AV.ren]
 | .aptr i _ _ _ _ _,h=>by rw [AV.ren,h i (by simp [AV.ids])]
 | .asl i _ _ _ _ _,h=>by rw [AV.ren,h i (by simp [AV.ids])]
 | .mp i,h=>by rw [AV.ren,h i (by simp [AV.ids])]
 | .hmp i,h=>by rw [AV.ren,h i (by simp [AV.ids])]
def zz5 {U:Nat->Type} {ρ:Nat->Nat}: ∀ {aS:List (AV U)},(∀i∈v8 aS,ρ i=i)->zi5 ρ aS=aS
 | [],_=>by rw [zi5]
 |a::r,h=>by
  rw [v8] at h;rw [zi5,jk7 fun i b=>h i (X4.2 (.inl b)),zz5 fun i b=>h i (X4.2 (.inr b))]
end
def jv7 {T:Tab} {ρ:Nat->Nat}: ∀ {F:AF T},(∀i∈jm1 T F,ρ i=i)->vi7 T ρ F=F
 | [],_=>rfl
 |(j,a)::r,h=>by
  rw [jm1] at h;rw [vi7,jk7 fun i b=>h i (X4.2 (.inl b)),jv7 fun i b=>h i (X4.2 (.inr b))]
def kz3 {T:Tab} (m:Nat) (F:AF T) (H:List (Ent T.U)):Option (List (Ent T.U)):=
 let ids:=qa7 T H (H.length+1) (List.range m)
 match vu3 m ids&&(ze6 ids&&(vy3 ids (jm1 T F)&&(vy3 ids (vf0 T H ids)&&(jm1 T F).all fun i=>Nat.blt i m))) with
 |true=>some (zd9 T H (fun i=>qk2 i ids) ids)
 |false=>none
def vs7 {T w0 S0 F H H1 F' w S φ m} (j:S0.pin.length<=m) (h:Sim T w0 S0 ⟨F,H⟩ F' w S φ) (b:kz3 m F H=some H1):
  ∃φ',Sim T w0 S0 ⟨F,H1⟩ F' w S φ':=by
 unfold kz3 at b;simp only at b;split at b
 ·rename_i e;simp only [X3] at e;obtain ⟨f,g,l,o,p⟩:=e;simp only [X0] at b;subst b;have:=h.renum (F1:=F) _ (fun i a q=>q) g (fun k c=>yn8 f (V5 c j)) (zz8 l) (zz8 o);rw [jv7] at this
  ·exact ⟨_,this⟩
  ·intro i d;have d:i<m:=Y1 (Y8.1 p i d);have c:=yn8 f d;obtain ⟨t,s⟩:=zs9 (X6 c);exact zu2 g s c
 ·cases b
section
variable {T:Tab} {R:Type}
def ue6:List Nat->List (AV T.U)->AF T->AF T
 |p::ps,a::aS,F=>ue6 ps aS ((p,a)::F)
 |_,_,F=>F
def gl3:List Nat->List Value->PF->PF
 |p::ps,v::vs,F=>gl3 ps vs ((p,v)::F)
 |_,_,F=>F
variable (P:Program) (C:Ctx T) (n:Nat)
noncomputable def vc4 (ps:List Nat) (aS b:Code) (F:AF T) (v:List (AV T.U)) (H:List (Ent T.U)) (K:List (Ent T.U)->Option R):Option R:=
 match Nat.beq v.length ps.length with
 |true=>evC P C n [] (fun _ _=>none) aS [] ⟨fun st=>evC P C n [] (fun _ _=>none) b [] ⟨fun a=>K a.H,fun _ _=>none,fun _=>none,fun _ _=>none⟩ st,fun _ _=>none,fun _=>none,fun _ _=>none⟩ ⟨ue6 ps v F,H⟩
 |false=>none
def tmK (tm:Option Nat) (F:AF T) (K:List (Ent T.U)->Option R) (H:List (Ent T.U)):Option R:=match tm with|none=>K H|some m=>(match kz3 (C.pin+m) F H with|some H1=>K H1|none=>none)
noncomputable def jc5 (tm:Option Nat) (c:ItS T) (a:List (AV T.U)) (ps:List Nat) (aS d:Code) (F:AF T) (b:List (Ent T.U)->Option R) (m:Nat):Nat->List (Ent T.U)->Option R:=
 Nat.rec (fun k H=>kh7 (c.chk a H k) (b H)) (fun m e k H=>kh7 (c.chk a H (k+(m+1))) (match c.item a H k with|some v=>vc4 P C n ps aS d F v H (tmK C tm F (e (k+1)))|none=>none)) m
end
section
variable {T:Tab} {P:Program} {C:Ctx T} {w0:World} {S0:Ow} {n:Nat} {ds:List Deferred} {R:Type} {r:R} {w:World} {S:List Nat} {φ:Nat->RA} {F:AF T} {H:List (Ent T.U)} {F':PF}
def vh3: ∀ {ps us F' a},(ps.all fun p=>Nat.blt p n)=true->Fr n ds F' a->
  Fr n ds (gl3 ps us F') {a with tmps:=(ps.zip us).foldl (fun t (p:Nat×Value)=>t.setIfInBounds p.1 p.2) a.tmps}
 | [],_,F',a,_,h=>h
 |_::_,[],F',a,_,h=>h
 |p::ps,u::us,F',a,b,h=>by
  rw [U4,X3] at b;have c:=h.upd (dst:=some p) (by simpa [zi4] using b.1) u;exact vh3 (ps:=ps) (us:=us) b.2 c
def ql8: ∀ {ps v us F F'},Sim T w0 S0 ⟨F,H⟩ F' w S φ->VRL T w S φ v us->(∀a∈v,okA H a)->Sim T w0 S0 ⟨ue6 ps v F,H⟩ (gl3 ps us F') w S φ
 | [],v,us,F,F',h,c,_=>by cases v<;>cases us<;>exact h
 |_::_,[],[],F,F',h,_,_=>h
 |_::_,[],_::_,_,_,_,c,_=>c.elim
 |_::_,_::_,[],_,_,_,c,_=>c.elim
 |p::ps,a::v,u::us,F,F',h,c,d=>ql8 (ps:=ps) (h.slot (dst:=some p) c.1 (d a (U2 ..))) c.2 fun b e=>d b (Z4 _ e)
def jx8 (hE:zc5 T P C.E) (hm:P.follows .mixedOrders=true) {Q f ps aS L d g M N F j}
  (hF:F.get T f=some (.fn (.func g) [] d)) (hen:zl1 P g=true) (hit:gh7 T P g M) (hc:M.cnt d H=some N) (hp:qy8 F) (hd1:zn1 C.ms aS=true) (hd2:zn1 C.ms L=true) (hps:(ps.toList.all fun p=>Nat.blt p n)=true) {tm} (hpn:S0.pin.length<=C.pin)
  (hr:jc5 P C n tm M d ps.toList aS L F j N 0 H=some r) (hs:Sim T w0 S0 ⟨F,H⟩ F' w S φ) {a} (ha:Fr n ds F' a)
  (hend: ∀H1 w1 S1 o D,j H1=some r->Sim T w0 S0 ⟨F,H1⟩ F' w1 S1 o->w1.heap[D]?=some (.deferred (some []))->D∉S1->w0.heap.size<=D->Q .normal {a with defers:= {target:=.collected D,args:= #[]}::a.defers} w1):
  (Code.rangeFunc (.tmp f) ps aS L).wpIn Fence.wide 0 P Q a w:=by
 obtain ⟨vf,O,hrf⟩:=hs.fr f _ hF;obtain ⟨va,vb,rfl,hva,hvb⟩:=hrf;have hva0:va= #[]:=by
  cases hl:va.toList with
  |nil=>exact Array.toList_inj.1 (by simpa using hl)
  |cons x r=>rw [hl] at hva;exact hva.elim
 subst hva0;have hev:a.eval (.tmp f)=.func (.func g) #[] vb:=ha.eval (x:=.tmp f) O;refine wpIn_rangeFunc ?_;intro fn _;obtain ⟨q,s⟩: ∃q:LoopState->Option Code->Loop,q=fun st pe=> {state:=st,pending:=pe,fn,tmps:=a.tmps,params:=ps,assign:=aS,body:=L,defers:=w.heap.size}:=⟨_,rfl⟩;obtain ⟨V,X⟩: ∃V,(w.alloc (.deferred (some []))).alloc (.loop (q .ready none))=V:=⟨_,rfl⟩;have hL1:V.heap[w.heap.size+1]?=some (.loop (q .ready none)):=by
  rw [<-X];have:=World.alloc_heap_new (w.alloc (.deferred (some []))) (.loop (q .ready none));rwa [World.size_alloc] at this
 have hK1:V.heap[w.heap.size]?=some (.deferred (some [])):=by
  rw [<-X];exact (Below.heap_alloc _ _ _ (by simp)).trans (World.alloc_heap_new w _)
 have hc1:Chg [] w V:=by rw [<-X];exact (Chg.alloc _ _).pure (Chg.alloc _ _)
 have hs1:=hs.pure hc1;have hw0:w0.heap.size<=w.heap.size:=hs.chg.size;have hSlt: ∀b∈S,b<w.heap.size:=fun b hb=>(hs.own b hb).2;refine ⟨w.heap.size+1,[{target:=.collected w.heap.size,args:= #[]}],V,{target:=.fn (.func g) vb,args:= #[.func (.yield (w.heap.size+1)) #[] #[]]},V,g,
  #[.func (.yield (w.heap.size+1)) #[] #[]]++vb,V,?_,?_,fun _ _=>trivial,?_,fun h=>(by cases h),?_⟩
 ·rw [<-X,s];exact run_enterLoop_outer _ _ _ _ _
 ·simp only [resolve,hev];simp [go_sem]
 ·simp [invoke,go_sem,zw6 hen]
 generalize hl:w.heap.size+1=l at *;generalize hD:w.heap.size=D at *;refine callsIn_wide.2 ?_;have hvb1:VRL T V S φ d vb.toList:=by
  obtain ⟨v,y,z⟩:=hs1.fr f _ hF;rw [O] at y;simp only [X0] at y;subst y;obtain ⟨_,vb',e,_,h3⟩:=z;cases e;exact h3
 obtain ⟨Rd,Re,hrd,hre,hcall⟩:=hit d H N hc _ _ _ _ _ _ _ _ hs1 hvb1
 let J:Nat->World->Prop:=fun k W=>k<=N/\ ∃H1 S1 o,Sim T w0 S0 ⟨F,H1⟩ F' W S1 o/\l∉S1/\D∉S1/\W.heap[l]?=some (.loop (q .ready none))/\W.heap[D]?=some (.deferred (some []))/\jc5 P C n tm M d ps.toList aS L F j (N-k) k H1=some r
 have hlS:l∉S:=fun h=>by have:=hSlt l h;omega
 have hDS:D∉S:=fun h=>by have:=hSlt D h;omega
 have Y:w0.heap.size<=l:=by omega
 refine ((hcall l J ?_ ?_ ?_ ⟨V1 _,H,S,φ,hs1,hlS,hDS,hL1,hK1,hr⟩).mono ?_)
 ·
  rintro k W hk ⟨_,H1,S1,o,u,A,B,Z,hK,c⟩
  obtain ⟨m,hm1⟩: ∃m,N-k=m+1:=⟨N-k-1,by omega⟩;rw [hm1] at c;have c:kh7 (M.chk d H1 (k+(m+1))) (match M.item d H1 k with|some v=>vc4 P C n ps.toList aS L F v H1 (tmK C tm F (jc5 P C n tm M d ps.toList aS L F j m (k+1)))|none=>none)=some r:=c;rw [show k+(m+1)=N by omega] at c;obtain ⟨hck,c⟩:=yu6 c;split at c<;>try (cases c;done)
  rename_i v hv;unfold vc4 at c;split at c<;>try (cases c;done)
  rename_i G;have G:=X1 G;have hvb2:VRL T W S1 o d vb.toList:=by
   obtain ⟨v,y,z⟩:=u.fr f _ hF;rw [O] at y;simp only [X0] at y;subst y;obtain ⟨_,vb',e,_,h3⟩:=z;cases e;exact h3
  obtain ⟨us,hus,hvr,hok⟩:=hrd k H1 v _ _ _ _ _ _ _ hck hv u hvb2;have hus1:us.length=ps.size:=by rw [<-hvr.len T,G];simp
  have hlt:l<W.heap.size:=(Y3.1 Z).1;have hDlt:D<W.heap.size:=(Y3.1 hK).1;refine ⟨us,hus,fn,_,aS,L,by have hy:=run_yield (P:=P) (args:=us.toArray) Z (by rw [s];simpa using hus1);rw [s] at hy;exact hy,roundIn_of_wpIn trivial ?_⟩;have hfr:Fr n [] (gl3 ps.toList us F') {tmps:=(ps.zip us.toArray).foldl (fun t (p:Tmp×Value)=>t.setIfInBounds p.1 p.2) a.tmps,defers:= []}:=by
   have h0:Fr n [] F' {tmps:=a.tmps,defers:= []}:=⟨ha.size,rfl,ha.val⟩;have y:=vh3 (us:=us) hps h0;have e:(ps.zip us.toArray).foldl (fun t (p:Tmp×Value)=>t.setIfInBounds p.1 p.2) a.tmps=(ps.toList.zip us).foldl (fun t (p:Nat×Value)=>t.setIfInBounds p.1 p.2) a.tmps:=by
    rw [<-Array.foldl_toList];simp
   rw [e];exact y
  have hstart:=ql8 (ps:=ps.toList) u.anew hvr hok;refine zk2 (ro:=some l) (m:=0) hE hm aS [] _ _ _ _ W hd1 (by rintro ⟨_,_,h⟩;exact h) c ⟨?_,fun i st h=>(by cases h),fun st h=>(by cases h),fun a st h=>(by cases h)⟩ ⟨S1,o,hstart⟩ _ hfr
  rintro st1 y F1 w1 ⟨S2,φ2,hsm⟩ a1 ha1
  obtain ⟨g1,g2,g3,g4,g5,g6⟩:=u.after hp hsm;have hchg: ∀b,b∉S1->b<W.heap.size->w1.heap[b]?=W.heap[b]?/\b∉S2:=fun b hb hbl=>⟨g3.block b hbl fun h=>hb (ys8.1 h).1,fun h=>by rcases g4 b h with h|h;exact hb h;omega⟩;obtain ⟨hL2,hl2⟩:=hchg l A hlt;obtain ⟨hK2,hD2⟩:=hchg D B hDlt;rw [Z] at hL2;rw [hK] at hK2;have hrb:(q .ready none).state=.ready:=by rw [s]
  refine ⟨_,run_beginRound hL2 hrb,?_⟩;have ht:=Turn.putObj (.loop {q .ready none with state:=.busy}) hL2 rfl;generalize hw2:w1.putObj l (.loop {q .ready none with state:=.busy})=w2 at ht;have hL3:w2.heap[l]?=some (.loop {q .ready none with state:=.busy}):=by rw [<-hw2];exact World.putObj_heap_same (Y3.1 hL2).1
  have hK3:w2.heap[D]?=some (.deferred (some [])):=by rw [<-hw2];exact (World.putObj_heap_other (by omega)).trans hK2
  have k1:=g1.turn ht hl2 Y;have k2:=g2.turn ht hl2 Y;refine zk2 (ro:=some l) (m:=0) hE hm L [] _ _ _ _ w2 hd2 (by rintro ⟨_,_,h⟩;exact h) y ⟨?_,fun i st h=>(by cases h),fun st h=>(by cases h),fun a st h=>(by cases h)⟩ ⟨S2,φ2,k1.anew⟩ _ ha1
  rintro st2 z F2 w3 ⟨S3,φ3,hsm3⟩ a2 ha2
  obtain ⟨q1,q2,q3,q4,q5,q6⟩:=k2.after hp hsm3;have hlt3:l<w2.heap.size:=(Y3.1 hL3).1;have hDlt3:D<w2.heap.size:=(Y3.1 hK3).1;have I: ∀b,b∉S2->b<w2.heap.size->w3.heap[b]?=w2.heap[b]?/\b∉S3:=fun b hb hbl=>⟨q3.block b hbl fun h=>hb (ys8.1 h).1,fun h=>by rcases q4 b h with h|h;exact hb h;omega⟩;obtain ⟨hL4,hl4⟩:=I l hl2 hlt3;obtain ⟨hK4,hD4⟩:=I D hD2 hDlt3;rw [hL3] at hL4;rw [hK3] at hK4;obtain ⟨H5,K,q2,z⟩: ∃H5 K,Sim T w0 S0 ⟨F,H5⟩ F' w3 S3 K/\jc5 P C n tm M d ps.toList aS L F j m (k+1) H5=some r:=by
   unfold tmK at z;cases tm with
   |none=>exact ⟨_,_,q2,z⟩
   |some m0=>
    simp only at z;split at z<;>try (cases z;done)
    rename_i H5 ht5;obtain ⟨K,q5⟩:=vs7 (W9 hpn (Nat.le_add_right _ _)) q2 ht5;exact ⟨H5,K,q5,z⟩
  refine ⟨_,_,run_endRound none hL4,rfl,by omega,H5,S3,K,q2.turn (Turn.putObj _ hL4 rfl) hl4 Y,hl4,hD4,?_,(World.putObj_heap_other (by omega)).trans hK4,?_⟩
  ·rw [World.putObj_heap_same (Y3.1 hL4).1,s];rfl
  ·rw [show N-(k+1)=m by omega];exact z
 ·
  rintro W ⟨_,H1,S1,o,u,_,_,_,_,c⟩
  rw [Nat.sub_self] at c;have c:kh7 (M.chk d H1 N) (j H1)=some r:=c;refine hre H1 _ _ _ _ _ _ _ (yu6 c).1 u ?_;obtain ⟨v,y,z⟩:=u.fr f _ hF;rw [O] at y;simp only [X0] at y;subst y;obtain ⟨_,vb',e,_,h3⟩:=z;cases e;exact h3
 ·
  rintro k W W' ⟨y,H1,S1,o,u,A,B,Z,hK,c⟩ hc
  exact ⟨y,H1,S1,o,u.pure hc,A,B,(hc.block l (Y3.1 Z).1 (by simp)).trans Z,(hc.block D (Y3.1 hK).1 (by simp)).trans hK,c⟩
 ·
  rintro e W2 ⟨⟨v,rfl⟩,_,H1,S1,o,u,A,B,Z,hK,c⟩
  refine ⟨none,_,?_,hend H1 _ S1 o D ?_ (u.turn (Turn.putObj (.loop {q .ready none with state:=.exhausted}) Z rfl) A Y) ((World.putObj_heap_other (by omega)).trans hK) B (by omega)⟩
  ·have:=run_endLoop (P:=P) Z (by rw [s];simp);rw [this];congr 1;rw [s]
  ·rw [Nat.sub_self] at c;have c:kh7 (M.chk d H1 N) (j H1)=some r:=c;exact (yu6 c).2
end
structure RfP (T:Tab) where
 depth:Nat
 g:FuncId
 it:ItS T
 live:List Nat
section
variable (T:Tab) (P:Program)
def qc6:AF T->Bool
 | []=>true
 |(_,a)::r=>zk7 a&&qc6 r
noncomputable def rfK (C:Ctx T) (fn:Func) (nl:Nl) (a:List PE) (rs:List Sh) (e:Sh) (D:RfP T) (c:Code) (st:St T):Option (zn7 T a×(ze2 T rs⊕ze2 T [e])):=
 match c with
 | .block _ (.rangeFunc (.tmp f) ps aS d)=>(match (zo4 T st.F D.live).get T f with
  |some (.fn (.func g) [] b)=>(match Nat.beq g D.g&&(zl1 P g&&(qc6 T (zo4 T st.F D.live)&&(zn1 C.ms aS&&(zn1 C.ms d&&(ps.toList.all fun p=>Nat.blt p fn.ntmps))))) with
   |true=>(match D.it.cnt b st.H with
    |some N=>jc5 P C fn.ntmps none D.it b ps.toList aS d (zo4 T st.F D.live) (fun H=>j7 (zw1 T P fn nl a rs ⟨zo4 T st.F D.live,H⟩) fun y=>some (y.1,.inl y.2)) N 0 st.H
    |none=>none)
   |false=>none)
  |_=>none)
 |_=>none
def kp8:Nat->Code->Option (Array Tmp×Code×Code)
 |0,.block _ (.rangeFunc _ ps aS a)=>some (ps,aS,a)
 |k+1,.seq _ y=>kp8 k y
 |_,_=>none
noncomputable def vj4 (C:Ctx T) (fn:Func) (c:Code) (nl:Nl) (a:List PE) (rs:List Sh) (d:Sh) (D:RfP T) (b:List (AV T.U)) (m k:Nat) (st:St T):Option (zn7 T a×(ze2 T rs⊕ze2 T [d])):=
 match kp8 D.depth c with
 |some (ps,aS,e)=>jc5 P C fn.ntmps none D.it b ps.toList aS e st.F (fun H=>j7 (zw1 T P fn nl a rs ⟨st.F,H⟩) fun y=>some (y.1,.inl y.2)) m k st.H
 |none=>none
noncomputable def ue9 (C:Ctx T) (fn:Func) (c:Code) (nl:Nl) (ps:List Sh) (a:List PE) (rs:List Sh) (b:Sh) (D:RfP T) (x:ze2 T ps):Option (zn7 T a×(ze2 T rs⊕ze2 T [b])):=
 evS P C fn.ntmps ⟨fun _=>none,fun _ _=>none,fun _=>none,qb8 T nl a rs b⟩ (rfK T P C fn nl a rs b D) D.depth c ⟨zv6 T (zc3 T id ps x 0) 0,zh8 T id ps x 0⟩
end
section
variable {T:Tab} {P:Program} {w:World} {S:List Nat} {φ:Nat->RA} {w0:World} {S0:Ow} {F:AF T} {H:List (Ent T.U)} {F':PF}
def yz1: ∀ {F},qc6 T F=true->qy8 F
 | [],_,i,a,h=>by simp [AF.get] at h
 |(j,b)::r,c,i,a,h=>by
  rw [qc6,X3] at c;simp only [AF.get] at h;split at h
  ·simp only [X0] at h;subst h;exact c.1
  ·exact yz1 c.2 i a h
def Sim.sub (h:Sim T w0 S0 ⟨F,H⟩ F' w S φ) {F0} (c: ∀i a,F0.get T i=some a->F.get T i=some a):Sim T w0 S0 ⟨F0,H⟩ F' w S φ:=
 ⟨fun i a b=>h.fr i a (c i a b),fun i a b=>h.ids i a (c i a b),h.chg,h.own,h.ex,h.lives,h.pins,h.ents,h.eids,h.apart⟩
def vh1 {C f fn c ps rs nl b q D g} (hm:P.follows .mixedOrders=true) (hE:zc5 T P C.E)
  (hf:P.funcs[f]?=some fn) (hb:fn.body=some c) (hs:Nat.ble ps.length fn.ntmps=true) (t:Nat.ble (zb0 ps) C.pin=true) (d:Nat.beq b.length (zb0 ps)=true) (W:gh7 T P D.g D.it)
  (hg: ∀x y,g x=some y->ue9 T P C fn c nl ps b rs q D x=some y):POk T P f ⟨ps,b,rs,q,g⟩:=by
 intro x y hy w S φ A vs B G;have hN:=hg x y hy;have d:=X1 d;have I:(zc3 T id ps x 0).length=ps.length:=by
  have: ∀(l:List Sh) (x:ze2 T l) (k:Nat),(zc3 T id l x k).length=l.length:=by
   intro l;induction l with
   |nil=>intro x k;rfl
   |cons s r ih=>intro x k;exact congrArg (· +1) (ih x.2 _)
  exact this ps x 0
 have J:vs.length=ps.length:=by rw [<-B.len T];exact I
 have hsz:vs.length<=fn.ntmps:=by rw [J];exact Y1 hs
 have X:Fr fn.ntmps [] (yx9 vs 0) {tmps:=vs.toArray++Array.replicate (fn.ntmps-vs.toArray.size) undef,defers:= []}:=by
  refine ⟨by simp;omega,rfl,fun i v hv=>?_⟩;obtain ⟨_,e⟩:=zu5 vs 0 i v hv;simp only [J5] at e;have Y:=(X2.1 e).1;refine ⟨?_,by omega⟩;rw [Y7,Array.getElem?_append_left (by simpa using Y)];simp [e]
 have o:=A.slots B G;have j:((List.range (zb0 ps)).map φ).length<=C.pin:=by simpa using Y1 t
 refine callsIn_wide.1 (callsIn_of_wp_marks (F:=Fence.wide) (n:=0) hf hb trivial (wpIn_wide.2 (yu8 (r:=y) hm j hE D.depth c _ _ _ w hN (K2:=rfK T P C fn nl b rs q D) ⟨fun st h=>(by cases h),fun i st h=>(by cases h),fun st h=>(by cases h),fun a st h=>?_⟩ ?_ ⟨S,φ,o⟩ _ X)))
 ·intro F1 w1 S1 K u m p Z L M;have h:qb8 T nl b rs q a st=some y:=h;obtain ⟨K,m,p,_⟩:=zg1 nl.bn m (aS:= [a]) (us:= [u]) ⟨p,trivial⟩ (fun i Y=>Z.1 i (by simpa [v8] using Y));unfold qb8 at h;split at h<;>try (cases h;done)
  rename_i y1 l1 h1;split at h<;>try (cases h;done)
  rename_i z l2 e;split at h<;>try (cases h;done)
  rename_i hn;simp only [X0] at h;subst h;show LeavesInM Fence.wide 0 P fn L.tmps _ L.defers (.panicking _) w1;rw [M.defers];exact ⟨z,rfl,u,rfl,qa3 d h1 e hn m p⟩
 ·intro c2 st e F1 w1 hs1 a M;obtain ⟨S1,K,m⟩:=hs1;unfold rfK at e;split at e<;>try (cases e;done)
  rename_i id f2 pa aS bd;split at e<;>try (cases e;done)
  rename_i g2 caps O;split at e<;>try (cases e;done)
  rename_i Q;simp only [X3] at Q;obtain ⟨b1,b2,b3,b4,b5,b6⟩:=Q;have:=X1 b1;subst this;split at e<;>try (cases e;done)
  rename_i N hc;have U:=m.sub (F0:=zo4 T st.F D.live) fun i a h=>yi2 h;refine wpIn_wide.1 (wpIn_block (jx8 hE hm O b2 W hc (yz1 b3) b4 b5 b6 j e U M ?_));intro H1 w2 S2 φ2 Dm V hs2 hD hDS hD0;obtain ⟨y',hy',he⟩:=za8 V;simp only [X0] at he;subst he;show LeavesInM Fence.wide 0 P fn a.tmps _ ({target:=.collected Dm,args:= #[]}::a.defers) .returning w2;refine ⟨by simp,.inl ⟨Dm,_,rfl,run_takeDeferred hD,?_⟩⟩;rw [M.defers];have hs3:=hs2.turn (Turn.putObj (.deferred none) hD rfl) hDS hD0;obtain ⟨v,h1,us,h3,h4⟩:=yg2 d hy' ⟨S2,φ2,hs3⟩ M;exact ⟨v,h1,_,rfl,us,h3,h4⟩
end
end Go.X
