import Derived.Test.YtnhnejjdokeikaaGreatA4
import Derived.Laws.BytesString
import Derived.Laws.IdiomStrings
set_option linter.defProp false
namespace Go.X
open Go.RowKit Go.V
section
variable {T:Tab} {P:Program} {C:Ctx T} {w w':World} {S S':List Nat} {φ φ':Nat->RA} {w0:World} {S0:Ow} {F:AF T} {H:List (Ent T.U)} {F':PF}
variable {ops:Array Oper} {Q:Exit->Act->World->Prop} {k n:Nat} {ds:List Deferred} {o:Oper}
def ym2 (Q:Exit->Act->World->Prop) (n:Nat) (ds:List Deferred) (w0:World) (S0:Ow) (a:AV T.U) (st:St T):Prop:=
 ∀F1 d S1 b v,Sim T w0 S0 st F1 d S1 b->VR T d S1 b a v->okA st.H a-> ∀c,Fr n ds F1 c->Q (.panic [{v:=v,recovered:=false}]) c d
def VRL.append: ∀ {aS a us vs},VRL T w S φ aS us->VRL T w S φ a vs->VRL T w S φ (aS++a) (us++vs)
 | [],_,[],_,_,h=>h
 | [],_,_::_,_,h,_=>h.elim
 |_::_,_,[],_,h,_=>h.elim
 |_::_,_,_::_,_,h,b=>⟨h.1,VRL.append h.2 b⟩
def yf2: ∀(aS b:List (AV T.U)),v8 (aS++b)=v8 aS++v8 b
 | [],_=>rfl
 |a::r,b=>by rw [M5,v8,yf2 r b,v8,Q2]
def vd6: ∀ {aS},aS.all zk7=true->(∀i∈v8 aS,i<H.length)-> ∀a∈aS,okA H a
 | [],_,_,a,c=>by cases c
 |b::r,h,d,a,c=>by
  simp only [U4,X3] at h;rw [v8] at d;rcases Z0.1 c with rfl|c
  ·exact zd7 h.1 fun i e=>d i (X4.2 (.inl e))
  ·exact vd6 h.2 (fun i e=>d i (X4.2 (.inr e))) a c
def zw6 {f} (h:zl1 P f=true) (args w):(callFunc f args).run P w=.ok (.enter f args) w:=by
 unfold zl1 at h;split at h
 ·rename_i fn a;simp only [X3,V8,beq_eq_false_iff_ne,ne_eq] at h;have b:fn.body≠none:=by intro e;rw [e] at h;cases h.2
  simp [callFunc,a,h.1,b]
 ·cases h
def jd9 {c f g first b aS} (m:o.op=.call c) (s:c.callee=.value f) (q:aev T F f=some (.fn (.func g) first b)) (r:zs2 T F c.args.toList=some aS)
  (t:zl1 P g=true) (e:(first++aS++b).all zk7=true) (h:Sim T w0 S0 ⟨F,H⟩ F' w S φ):
  ∃vs:List Value,VRL T w S φ (first++aS++b) vs/\(∀a∈first++aS++b,okA H a)/\ ∀p,(execOp (evD F') o).run P p=.ok (.enter g vs.toArray) p:=by
 obtain ⟨X,u,z,A,rfl,v,x⟩:=w4 h.fr q;have y:=zz9 h.fr r;have j: ∀i∈v8 (first++aS++b),i<H.length:=by
  intro i d;rw [yf2,yf2] at d;have l:=(zd3 h q).1;rcases X4.1 d with d|d
  ·rcases X4.1 d with d|d
   ·exact l i (by rw [AV.ids];exact X4.2 (.inl d))
   ·exact ji8 h r i d
  ·exact l i (by rw [AV.ids];exact X4.2 (.inr d))
 refine ⟨_,(v.append y).append x,vd6 e j,fun p=>?_⟩;simp [execOp,m,resolve,s,w5 u,Deferred.ofValue,invoke,zw6 t]
def vz8 {R:Type} {r:R} {c:Call} {f:Operand} {g:FuncId} {first d aS:List (AV T.U)} {cs:CallSpec T} (B:dec ops k n F'=some o) (p:o.op=.call c) (D:c.callee=.value f) (E:aev T F f=some (.fn (.func g) first d)) (G:zs2 T F c.args.toList=some aS)
  (I:zl1 P g=true) (J:w9 T P g cs) (e:(first++aS++d).all zk7=true) {q s:AV T.U->List (Ent T.U)->Option R} (t:cs.call (first++aS++d) H q s=some r) (h:Sim T w0 S0 ⟨F,H⟩ F' w S φ)
  (K: ∀b H1,q b H1=some r->zx4 P ops Q (k+1) n ds w0 S0 (⟨zc2 T F o.dst b,H1⟩:St T)) (i: ∀b H1,s b H1=some r->ym2 Q n ds w0 S0 b (⟨F,H1⟩:St T)):WR P ops Q k n ds F' w:=by
 obtain ⟨vs,L,M,N⟩:=jd9 p D E G I e h;refine .enter (f:=g) (args:=vs.toArray) B (N w) (J _ H q s r t w0 S0 F F' w S φ h _ L M) ?_ ?_ ?_
 ·rintro v j ⟨a,H1,u,S1,l,x,y,z⟩
  exact K a H1 u _ _ ⟨S1,l,x.slot y z⟩
 ·rintro V j ⟨a,H1,u,v,rfl,S1,l,x,y,z⟩ A m
  exact i a H1 u _ _ _ _ _ x y z A m
 ·intro j O;exact O.elim
def jo9 (a:IntKind) (z:Int):okA H (cI T a z):=⟨fun i b=>(by cases b),trivial⟩
def vm9 {t a z} (d:lenOf P t H a=some z) (h:Sim T w0 S0 ⟨F,H⟩ F' w S φ) {v} (c:VR T w S φ a v) (ty q):(Builtin.len_ #[t] ty #[v]).run P q=.ok (.int .i64 z) q:=by
 unfold lenOf at d;split at d
 ·rename_i e i;split at d
  ·rename_i m b;simp only [X0] at d;subst d;have j: ∃ad cap,v=.slice ad m cap:=by
    unfold um0 at b;split at b
    ·simp only [X0] at b;subst b;have c:CR T w S _ _ v:=c;cases c;exact ⟨_,_,rfl⟩
    ·split at b
     ·rename_i r s xs l;simp only [X0] at b;subst b;rw [VR] at c;subst c;obtain ⟨B,f,_,p,_⟩:=h.ents _ _ l;rw [p];exact ⟨_,_,rfl⟩
     ·rename_i l;simp only [X0] at b;subst b;rw [VR] at c;subst c;obtain ⟨B,f,_,p,_⟩:=h.ents _ _ l;rw [p];exact ⟨_,_,rfl⟩
     ·cases b
    ·simp only [X0] at b;subst b;obtain ⟨ad,rfl,_⟩:=c;exact ⟨_,_,rfl⟩
    ·simp only [X0] at b;subst b;obtain ⟨g,ad,_,rfl,_⟩:=c;exact ⟨_,_,rfl⟩
    ·simp only [X0] at b;subst b;rw [VR] at c;subst c;exact ⟨_,_,rfl⟩
    ·cases b
   obtain ⟨ad,cap,rfl⟩:=j;simp [Builtin.len_,run_underlying i,goInt]
  ·cases d
 ·rename_i i;split at d
  ·simp only [X0] at d;subst d;have:=zn9 c;subst this;simp [Builtin.len_,run_underlying i,goInt]
  ·cases d
 ·cases d
def kc5 {aS a} (b:ue4 T aS=some a) {vs} (c:VRL T w S φ aS vs) (t ty): ∃v,(∀d,(Builtin.min_ t ty vs.toArray).run P d=.ok v d)/\VR T w S φ a v/\okA H a:=by
 unfold ue4 at b;split at b
 ·simp only [X0] at b;subst b
  match vs,c with
  | [v],c=>have:=za4 c.1;subst this;exact ⟨_,fun d=>by simp [Builtin.min_],VR.int _ _,jo9 _ _⟩
 ·split at b
  ·rename_i e;have:=za9 e;subst this;simp only [X0] at b;subst b
   match vs,c with
   | [u,v],c=>have:=za4 c.1;subst this;have:=za4 c.2.1;subst this;exact ⟨_,fun d=>by simp [Builtin.min_,Builtin.min2,jl8],VR.int _ _,jo9 _ _⟩
  ·cases b
 ·cases b
def kc4 {aS a} (b:ue3 T aS=some a) {vs} (c:VRL T w S φ aS vs) (t ty): ∃v,(∀d,(Builtin.max_ t ty vs.toArray).run P d=.ok v d)/\VR T w S φ a v/\okA H a:=by
 unfold ue3 at b;split at b
 ·simp only [X0] at b;subst b
  match vs,c with
  | [v],c=>have:=za4 c.1;subst this;exact ⟨_,fun d=>by simp [Builtin.max_],VR.int _ _,jo9 _ _⟩
 ·split at b
  ·rename_i e;have:=za9 e;subst this;simp only [X0] at b;subst b
   match vs,c with
   | [u,v],c=>have:=za4 c.1;subst this;have:=za4 c.2.1;subst this;exact ⟨_,fun d=>by simp [Builtin.max_,Builtin.max2,ue0],VR.int _ _,jo9 _ _⟩
  ·cases b
 ·cases b
def zf8 {α} {a:Array α} {x} (h:a.toList= [x]):a= #[x]:=by rw [<-Array.toArray_toList (xs:=a),h]
def qf4 {a b t e} (h:ys9 T P a t e=some b): ∀i∈b.ids,i∈a.ids:=by
 unfold ys9 at h;split at h
 ·split at h
  ·cases h
  ·split at h
   ·split at h
    ·simp only [X0] at h;subst h;intro i d;simpa [AV.ids,v8] using d
    ·simp only [X0] at h;subst h;intro i d;simpa [AV.ids] using d
   ·split at h
    ·rename_i z c;simp only [X0] at h;subst h;unfold qx5 at c;split at c
     ·split at c
      ·simp only [X0] at c;subst c;intro i d;simp [AV.ids,v8,jy7] at d
      ·cases c
     ·cases c
    ·cases h
 ·cases h
def qf5 {a b t xt r} (h:ys9 T P a t r=some b) {v} (y:VR T w S φ a v): ∃u,(∀g,(Instr.typeAssert v xt t r).run P g=.ok u g)/\VR T w S φ b u:=by
 unfold ys9 at h;split at h
 ·rename_i d A x l;obtain ⟨u,rfl,j⟩:=y;split at h
  ·cases h
  ·rename_i c;split at h
   ·rename_i m;have:=X1 m;subst this;split at h
    ·simp only [X0] at h;subst h;refine ⟨.tuple #[u,.bool true],fun g=>?_,⟨_,rfl,j,VR.bool _,trivial⟩⟩;cases d<;>first|(exact (c _ rfl).elim)|simp [Instr.typeAssert,run_underlying l]
    ·simp only [X0] at h;subst h;refine ⟨u,fun g=>?_,j⟩;cases d<;>first|(exact (c _ rfl).elim)|simp [Instr.typeAssert,run_underlying l]
   ·rename_i m;have p:A≠t:=by intro e;subst e;simp at m
    split at h
    ·rename_i z f;simp only [X0] at h;subst h;unfold qx5 at f;split at f
     ·rename_i i B;split at f
      ·rename_i s q;simp only [X0] at f;subst f;refine ⟨.tuple #[s,.bool false],fun g=>?_,⟨_,rfl,jy8 T s,VR.bool _,trivial⟩⟩;cases d<;>first|(exact (c _ rfl).elim)|simp [Instr.typeAssert,run_underlying l,p,zeroValue,typeInfo,B,q]
      ·cases f
     ·cases f
    ·cases h
 ·cases h
def CellsR.cons {c cs vs} (h:CellsR T w S (c::cs) vs): ∃v r,vs=v::r/\jd6 T w S c v/\CellsR T w S cs r:=by
 obtain ⟨a,b⟩:=h;cases vs with
 |nil=>cases a
 |cons v r=>exact ⟨v,r,rfl,b 0 c v rfl rfl,by simpa using a,fun j c' d e f=>b (j+1) c' d (by simpa using e) (by simpa using f)⟩
def jq7: ∀(xs) {a},CellsR T w S (xs.flatMap (zc4 T (.int .u8))) a->a=List.map (fun x:Int=>Value.int .u8 x) xs
 | [],a,h=>by
  obtain ⟨b,_⟩:=h;cases a with
  |nil=>rfl
  |cons _ _=>cases b
 |x::r,a,h=>by
  have h:CellsR T w S (⟨.int .u8,x⟩::r.flatMap (zc4 T (.int .u8))) a:=h;obtain ⟨v,vs,rfl,b,c⟩:=h.cons;rw [jq7 r c];have:=za4 (T:=T) (φ:=fun _=>⟨none,0,0,[]⟩) (v:=v) b;rw [this];rfl
def jv8 {rd ids r} (h:Sim T w0 S0 ⟨F,H⟩ F' w S φ) (v:Chg S w r) (j:Same φ rd w r) (l: ∀i∈ids,i∈rd):yq2 T r S φ H ids:=by
 intro i G J K f;have a:=h.ents i _ K;cases J with
 |row I X ys=>
  obtain ⟨B,p,s,u,x,y,L⟩:=a;refine ⟨B,p,?_,u,W9 x v.size,y.chg T v (fun _ h=>h) (fun b z=>.inl z),L⟩;rcases s.cases with ⟨M,N,O,R⟩|⟨c,q,U,d,A,D,E,V⟩
  ·rw [M,N,O,R];exact Own.nil _ _ _ _
  ·have W:=j i (l i G) _ q d.lt;have e:Blk r (bk (φ i).ad) c I:=W.trans d;rw [q];exact Own.ofBlk e U A D E _ V
 |blk I cs=>
  obtain ⟨g,c,s,u,x,y⟩:=a;exact ⟨g,c,s,(j i (l i G) _ s u.lt).trans u,x,y.chg T v (fun _ h=>h) (fun b z=>.inl z)⟩
 |map k es=>cases f
 |tmap k t m=>cases f
 |drow _ _ _ _ _=>cases f
 |pmap _ _ _ _ _=>cases f
 |hid=>cases f
 |gone=>cases f
def vl6 {Z:Prop} {R:Type} {r:R} {rd:List Nat} {s d e:TypeId} {x:Operand} (A:o.op=.convert s d x) {a:AV T.U} (hx:aev T F x=some a) (hs:P.underlying s=some (.slice e)) (I:P.underlying d=some .string) (he:P.underlying e=some (.int .u8))
  {K0:AV T.U->Option R} (J:rdF T H (.list (.int .u8)) a (fun xs=>K0 (.cell ⟨.str,yq5 xs⟩))=some r) (L: ∀i∈a.ids,i∈rd) (h:Sim T w0 S0 ⟨F,H⟩ F' w S φ) (K: ∀a v,K0 a=some r->QR P F' o S φ rd w v->VR T w S φ a v->okA H a->Z):Z:=by
 obtain ⟨X,h1,h2⟩:=w4 h.fr hx;obtain ⟨xs,hK,B⟩:=jh0 (t:=.list (.int .u8)) J;refine K _ (.string (yq5 xs)) hK ?_ (CR.str _) (zm6 rfl (by intro _ _ _ _ e;cases e));intro g hc M;have m:yq2 T g S φ H a.ids:=jv8 h hc M L;obtain ⟨N,p,hv⟩:=vi4 (w:=g) (t:=.list (.int .u8)) (K:=some) (by rw [B]) m (h2.chg T hc (fun _ h=>h) fun b hb=>.inl hb) φ;have p:N=xs:=X5 p;rw [p] at hv;have q:CR T g [] (.list (.int .u8)) xs X:=hv;have O: ∃ad cap,X=.slice ad (List.length (α:=Int) xs) cap:=by
  cases q with
  |list _ _ ad cap u _ _ _ _ _=>exact ⟨ad,cap,rfl⟩
 obtain ⟨ad,cap,rfl⟩:=O;obtain ⟨_,D,l,V,W⟩:=jj6 q;have c:=jq7 _ W;have z:execOp (evD F') o=(do return Next.value (<-convert s d (evD F' x))):=by
  cases o;simp only at A;subst A;rfl
 have Y:(convert s d (.slice ad (List.length (α:=Int) xs) cap)).run P g=.ok (.string (yq5 xs)) g:=by
  rw [run_convert_bytes_string g s d e ad _ cap hs he I];cases had:ad with
  |none=>
   have:xs= []:=N9 (D had).1;subst this;rfl
  |some a0=>
   subst had;have f:=run_loadCells_list (P:=P) (w:=g) a0 l (fun j v hj=>by
    have:=(V j v hj).2;by_cases E:xs= []
    ·subst E;rw [c] at hj;cases hj
    ·cases q with
     |list _ _ _ _ u hcap hnil' G _ _=>
      obtain ⟨e1,_,_⟩:=G E;simp only [X0] at e1;rw [e1,Addr.add];split
      ·rename_i h0;simpa [h0] using this
      ·simpa using this)
   have hl:l.length=List.length (α:=Int) xs:=by rw [c];exact V0 ..
   rw [hl,c] at f;exact run_bytesToString g a0 _ cap xs f
 rw [z,w5 h1];show ((convert s d (.slice ad (List.length (α:=Int) xs) cap)) >>= fun y=>pure (Next.value y)).run P g=_;rw [Sem.run_bind,Y];rfl
def vz7 {g e s b cap} (p:w.heap[g]?=some (.cells (bytesRow b cap) e s)) (i:b.size<=cap) (t:g∉S):CR T w S (.list (.int .u8)) (zq7 b) (.slice (some ⟨g,0,none⟩) b.size cap):=by
 have q:List.length (α:=den T.U (.int .u8)) (zq7 b)=b.size:=by
  exact jy1 b
 have l:=(Y3.1 p).1;have a: ∀(k j:Nat) (c:Cell T.U),((zq7 b:List (den T.U (.int .u8)))[k]?.map fun x=>(zc4 T (.int .u8) x)[j]?)=some (some c)-> ∃y:UInt8,b.data[k]?=some y/\j=0/\c=⟨.int .u8,(y.toNat:Int)⟩:=by
  intro k j c h;have h:((b.data.toList.map fun b=>(b.toNat:Int))[k]?.map fun x=>([⟨.int .u8,x⟩]:List (Cell T.U))[j]?)=some (some c):=h;rw [W0,Array.getElem?_toList] at h;cases f:b.data[k]? with
  |none=>rw [f] at h;cases h
  |some y=>
   rw [f] at h;have h:([⟨.int .u8,(y.toNat:Int)⟩]:List (Cell T.U))[j]?=some c:=X5 h;cases j with
   |zero=>exact ⟨y,rfl,rfl,(X5 h).symm⟩
   |succ j=>cases h
 have m:=CR.list (T:=T) (w:=w) (S:=S) (.int .u8) (zq7 b) (some ⟨g,0,none⟩) cap (fun k _=>.int .u8 (((b.data[k]?).getD 0).toNat:Int)) (by rw [q];exact i) (fun h=>by cases h) (fun _=>⟨rfl,l,t⟩)
  (fun k j c h=>by
   obtain ⟨y,d,r,_⟩:=a k j c h;subst r;have f:=(Y3.1 d).1;show w.cell? ⟨g,0+(k*1+0),none⟩=_;have u:0+(k*1+0)=k:=by omega
   rw [u];unfold World.cell?;simp only [p];show (bytesRow b cap)[k]?=_;unfold bytesRow;rw [Array.getElem?_append_left (by rw [Array.size_map];exact f),Array.getElem?_map,d];rfl)
  (fun k j c h=>by
   obtain ⟨y,d,r,rfl⟩:=a k j c h;show CR T w S (.int .u8) (y.toNat:Int) (.int .u8 (((b.data[k]?).getD 0).toNat:Int));rw [d];exact .int _ _)
 rwa [q] at m
def CR.same (p:w.heap.size<=w'.heap.size) (q: ∀(a:Addr) (v:Value),w.cell? a=some v->w'.cell? a=some v) {t x v} (h:CR T w S t x v):CR T w' S t x v:=by
 induction h with
 |int k x=>exact .int k x
 |bool b=>exact .bool b
 |str s=>exact .str s
 |nl e xs ad cap _ r i=>exact .nl e xs ad cap i r
 |list e xs ad cap u f g l d m i=>
  refine .list e xs ad cap u f g (fun y=>?_) (fun k j c z=>q _ _ (d k j c z)) i;obtain ⟨A,B,D⟩:=l y;exact ⟨A,V5 B p,D⟩
def Sim.less (h:Sim T w0 S0 ⟨F,H⟩ F' w S φ) {g} (c: ∀(j:Nat) (e:Ent T.U),H[j]?=some e->e.live=true-> ∀a,At (φ j) a->a.block≠g) (r:g∈S0.chg\/w0.heap.size<=g):Sim T w0 S0 ⟨F,H⟩ F' w (S.filter fun b=> !Nat.beq b g) φ:=by
 have d: ∀b∈S.filter (fun b=> !Nat.beq b g),b∈S:=fun b i=>(Q9.1 i).1;have m: ∀ {b:Nat},b∈S->b≠g->b∈S.filter fun b=> !Nat.beq b g:=fun i s=>Q9.2 ⟨i,by cases hq:Nat.beq _ g with|true=>exact absurd (X1 hq) s|false=>rfl⟩;refine ⟨fun j a l=>?_,h.ids,h.chg,fun b i=>h.own b (d b i),fun b i t u=>m (h.ex b i t u) (fun e=>?_),fun j f p q a l=>⟨m (h.lives j f p q a l).1 (c j f p q a l),(h.lives j f p q a l).2⟩,h.pins,fun j f p=>?_,h.eids,h.apart⟩
 ·obtain ⟨v,x,y⟩:=h.fr j a l;exact ⟨v,x,y.chg T (Chg.refl [] w) (by simp) fun b i=>.inl (d b i)⟩
 ·subst e;rcases r with r|r
  ·exact t r
  ·omega
 ·exact (h.ents j f p).chg T (Chg.refl [] w) (by simp) (fun b i=>.inl (d b i)) fun q a l=>⟨by simp,m (zi7 h p q l) (c j f p q a l)⟩
def qg2 (w:World) (a:Addr) (n:Nat) (b:Addr):(w.freeze a n).cell? b=w.cell? b:=by
 unfold World.freeze;split
 ·rfl
 ·unfold World.cell?;simp only [Array.getElem?_modify];by_cases c:a.block=b.block
  ·rw [if_pos c];cases hq:w.heap[b.block]? with
   |none=>rfl
   |some q=>cases q<;>rfl
  ·rw [if_neg c]
def qs9 (w g k n):Chg [g] w (w.freeze ⟨g,k,none⟩ n):=by
 unfold World.freeze;split
 ·exact Chg.refl [g] w
 ·refine ⟨rfl,rfl,rfl,by simp,fun j b a=>?_⟩;simp only [Q4] at a;show (w.heap.modify g _)[j]?=_;rw [Array.getElem?_modify,if_neg (Ne.symm a)]
def vl5 {s e x} (Z:dec ops k n F'=some o) (u:o.op=.convert s s x) {i} (hx:aev T F x=some (.own i)) (hs:P.underlying s=some (.slice e)) (m:P.underlying e=some (.int .u8)) {et xs} (G:H[i]?=some (.row et (.int .u8) xs)) (L:xs≠ [])
  (h:Sim T w0 S0 ⟨F,H⟩ F' w S φ) (K:zx4 P ops Q (k+1) n ds w0 S0 (⟨zc2 T F o.dst (.cell ⟨.list (.int .u8),xs⟩),H.set i .gone⟩:St T)):WR P ops Q k n ds F' w:=by
 obtain ⟨X,h1,R⟩:=w4 h.fr hx;rw [VR] at R;subst R;have p:=h.ents i _ G;obtain ⟨B,V,q1,q2,q3,q4,q5⟩:=id p;have hg: ∃g,(φ i).ad=some ⟨g,0,none⟩:=by
  rcases q1.cases with ⟨_,W,_⟩|⟨c,d,_⟩
  ·rw [q2] at W;exact absurd (N9 W) L
  ·exact ⟨_,d⟩
 obtain ⟨g,d⟩:=hg;have z: ∀w,(underlying s).run P w=.ok (.slice e) w:=run_underlying hs;have A: ∀w,(underlying e).run P w=.ok (.int .u8) w:=run_underlying m;have D: ∃w',(convert s s (.slice (φ i).ad (φ i).n (φ i).cap)).run P w=.ok (.slice (φ i).ad (φ i).n (φ i).cap) w'/\Chg [g] w w'/\ ∀b,w'.cell? b=w.cell? b:=by
  rw [d];cases hsh:w.shape? g with
  |none=>exact ⟨w,by simp [convert,z,A,markStringish,hsh,Result.andThen],Chg.refl [g] w,fun _=>rfl⟩
  |some q=>exact ⟨w.freeze ⟨g,q.2,none⟩ 1,by simp [convert,z,A,markStringish,hsh,Result.andThen],qs9 w g _ 1,qg2 w _ 1⟩
 obtain ⟨w',hr,Y,r⟩:=D;have h3:=h.upd (w':=w') (i:=i) (e:=.gone) G rfl (Tc:= [g]) Y (fun b I=>⟨_,.inl d,by simp at I;exact I.symm⟩) trivial (fun j hj=>by cases hj) (by intro _ _ _ h;cases h);have t: ∀(j:Nat) (e:Ent T.U),(H.set i .gone)[j]?=some e->e.live=true->j≠i/\H[j]?=some e:=by
  intro j e m J;by_cases l:j=i
  ·subst l;have M:=(X2.1 m).1;rw [Q0 (by simpa using M)] at m;simp only [X0] at m;subst m;cases J
  ·rw [Z5 (Ne.symm l)] at m;exact ⟨l,m⟩
 have h4:=h3.less (g:=g) (fun j f N J a E m=>by
  obtain ⟨l,N⟩:=t j f N J;exact h.apart j i f _ N G J rfl l a _ E (.inl d) m) (h.lives i _ G rfl _ (.inl d)).2
 have O:CR T w (S.filter fun b=> !Nat.beq b g) (.list (.int .u8)) xs (.slice (φ i).ad (φ i).n (φ i).cap):=qe7 p (fun b I=>(Q9.1 I).1) (fun a E hm=>by
  rw [d] at E;simp only [X0] at E;subst E;have:=(Q9.1 hm).2;simp [J2] at this)
 refine WR.val (v:=.slice (φ i).ad (φ i).n (φ i).cap) Z ?_ (K _ _ ⟨_,φ,h4.slot (a:=.cell ⟨.list (.int .u8),xs⟩) (O.same Y.size fun a v hv=>(r a).trans hv) (zm6 rfl (by intro _ _ _ _ e;cases e))⟩);cases o;simp only at u;subst u;show ((convert s s (evD F' x)) >>= fun y=>pure (Next.value y)).run P w=_;rw [w5 h1,Sem.run_bind,hr];rfl
def qr8 {s d e x} (m:dec ops k n F'=some o) (c:o.op=.convert s d x) {b} (p:aev T F x=some (.cell ⟨.str,b⟩)) (q:P.underlying s=some .string) (g:P.underlying d=some (.slice e)) (r:P.underlying e=some (.int .u8))
  (h:Sim T w0 S0 ⟨F,H⟩ F' w S φ) (K:zx4 P ops Q (k+1) n ds w0 S0 (⟨zc2 T F o.dst (.cell ⟨.list (.int .u8),zq7 b⟩),H⟩:St T)):WR P ops Q k n ds F' w:=by
 obtain ⟨X,t,i⟩:=w4 h.fr p;have i:CR T w S .str b X:=i;cases i;have l:=run_bytes_of_string (P:=P) w s d e b q g r;generalize f:grownCap w b.size 0 e=cap at l;have j:b.size<=cap:=by rw [<-f];exact grownCap_ge w b.size 0 e
 have u:Chg [] w (w.drew.alloc (.cells (bytesRow b cap) e ((bytesRow b cap).size,(bytesRow b cap).size+1))):=(Chg.drew w).pure (Chg.alloc _ _);refine WR.val (v:=.slice (some ⟨w.heap.size,0,none⟩) b.size cap) m ?_ (K _ _ ⟨S,φ,(h.pure u).slot (a:=.cell ⟨.list (.int .u8),zq7 b⟩) (vz7 (heap_alloc_new w.drew _) j fun z=>Nat.lt_irrefl _ (h.own _ z).2) (zm6 rfl (by intro _ _ _ _ e;cases e))⟩);cases o;simp only at c;subst c;show ((convert s d (evD F' x)) >>= fun y=>pure (Next.value y)).run P w=_;rw [w5 t,Sem.run_bind,l];rfl
def qr3 {t c ps} (hd:dec ops k n F'=some o) (G:o.op=.buildSlice t c ps) {l} (Y:zx2 T F ps.toList=some l) {e sz cs} (m:qx7 T P t c l=some (e,sz,cs))
  (h:Sim T w0 S0 ⟨F,H⟩ F' w S φ) (K:zx4 P ops Q (k+1) n ds w0 S0 (⟨zc2 T F o.dst (.sl H.length sz 0 c),H++ [.blk e cs]⟩:St T)):WR P ops Q k n ds F' w:=by
 unfold qx7 at m;split at m
 ·rename_i Z q by_ zc he;split at m
  ·rename_i s;simp only [X3] at s;have hs1:=Y1 s.1;have I:=Y1 s.2;split at m
   ·rename_i y z;split at m
    case h_2=>cases m
    rename_i J;simp only [X0,X7] at m;obtain ⟨rfl,rfl,rfl⟩:=m;obtain ⟨i,A,hu,L,M,u,_,N,O⟩:=zj2 he;subst N;obtain ⟨e1,e2⟩:=yc6 h.fr Y;have R:VRL T w S φ ((List.range (c*q)).map fun j=>yz0 T (A.cells[j%q]!)) ((Array.range (c*i.size)).map (A.cells[· %A.cells.size]!)).toList:=by
     rw [u,O,N1,Array.toList_range];generalize List.range (c*q)=rr;induction rr with
     |nil=>trivial
     |cons a r ih=>exact ⟨yr9 T _,ih⟩
    obtain ⟨c',g1,g2⟩:=yh8 R e1 e2 z;have V:yd4 P t c (ps.toList.map fun p=>(p.1,evD F' p.2))=some (Z,c'):=by
     unfold yd4;rw [hu];simp only [L];rw [u,W3 I];simp only;rw [u] at g1;have d:Instr.fill (fun j=>some (j*q,q)) ((Array.range (c*q)).map (A.cells[· %A.cells.size]!)) (ps.toList.map fun p=>(p.1,evD F' p.2))=some c':=g1;cases hz:Nat.beq (c*q) 0 with
     |true=>
      have:=X1 hz;simp only;rw [this] at d⊢;have W:Array.range 0= #[]:=rfl;rw [W] at d⊢;have em: ∀f:Nat->Value,Array.map f #[]= #[]:=fun f=>by simp
      rw [em] at d⊢;rw [d]
     |false=>simp only [M,d]
    have B: ∀i∈v8 y,i<H.length:=yu9 z (fun i v=>by
     obtain ⟨a,X,D⟩:=zq1 v;obtain ⟨j,_,rfl⟩:=U0.1 X;rw [jj8] at D;cases D) (jg3 h Y)
    refine WR.bslice c' (qj3 hd G V) fun g w' x=>?_;have hS: ∀b∈g::S,b∈S\/w.heap.size<=b:=by
     intro b m;rcases Z0.1 m with rfl|m
     ·exact .inr x.fresh
     ·exact .inl m
    have E:=h.add (r:=⟨some ⟨g,0,none⟩,c,c,[]⟩) x.chg x.fresh x.blk.lt (fun a X=>yj6 X) (e:=.blk Z y)
     ⟨g,c',by rw [w6],x.blk,by simp,BR.of T ((g2.chg T x.chg (by simp) hS).phi fun i v=>zf0 (by have:=B i v;omega)) J⟩ (by intro j hj;have:=B j hj;omega)
    refine K _ _ ⟨_,_,E.slot (a:=.sl H.length q 0 c) ?_ ⟨by intro i v;simp [AV.ids] at v;subst v;simp,trivial⟩⟩;rw [VR,w6];exact ⟨some ⟨g,0,none⟩,rfl,by simp,.inr ⟨g,rfl,by simp⟩,fun h=>(by cases h),fun _=>rfl⟩
   ·cases m
  ·cases m
 ·cases m
def ji5 {v} (a:dec ops k n F'=some o) (b:(execOp (evD F') o).run P w=.ok (.value v) w') (K:WR P ops Q (k+1) n ds (upd F' o.dst v) w'):WR P ops Q k n ds F' w:=WR.val a b K
def wc4 {t a z} (b:ue2 P t H a=some z) (h:Sim T w0 S0 ⟨F,H⟩ F' w S φ) {v} (y:VR T w S φ a v) (ty) {d} (f:Same φ (qc3 [a]) w d):(Builtin.len_ #[t] ty #[v]).run P d=.ok (.int .i64 z) d:=by
 unfold ue2 at b;split at b<;>try (cases b;done)
 rename_i J K A;split at b<;>try (cases b;done)
 rename_i i;split at b<;>try (cases b;done)
 rename_i B ty es D;simp only [X0] at b;subst b;obtain ⟨g,q,rfl⟩:=y;obtain ⟨L,l,E,j,u,M,G,N⟩:=h.ents i _ D;rw [q] at j;simp only [X0,Addr.mk.injEq,and_true] at j;subst j;have m:d.heap[g]?=some (.map l E):=(f i (by simp [qc3]) _ q u.lt).trans u;have c: ∀ {es:List (Int×den T.U ty)} {l:List MapEntry},TR T w S B ty es l->es.length=l.length:=by
  intro es;induction es with
  |nil=>intro l h;cases l with|nil=>rfl|cons _ _=>exact h.elim
  |cons p r I=>intro l h;obtain ⟨x,a⟩:=p;cases l with|nil=>exact h.elim|cons e s=>simp [I h.2.2]
 have:=c G;simp [Builtin.len_,run_underlying A,MapKept.run_getObj_map m,Result.andThen,this,goInt]
def vm1 {m z A t at2 R x c} (V:dec ops k n F'=some o) (j:o.op=.call c) (W:c.callee=.builtin .delete) (ha:c.args.toList= [z,A]) (B:c.argTypes.toList=t::at2) (hm:aev T F z=some m) (hk:aev T F A=some (cI T R x))
  {H1} (b:gb1 T P t H m R x=some H1) (h:Sim T w0 S0 ⟨F,H⟩ F' w S φ) (K:zx4 P ops Q (k+1) n ds w0 S0 (⟨zc2 T F o.dst (.tup []),H1⟩:St T)):WR P ops Q k n ds F' w:=by
 obtain ⟨M,Y,Z⟩:=w4 h.fr hm;obtain ⟨X,h3,h4⟩:=w4 h.fr hk;have e:=za4 h4;subst e;unfold gb1 at b;split at b<;>try (cases b;done)
 rename_i i kd kt et u;have d:c.args= #[z,A]:=by rw [<-Array.toArray_toList (xs:=c.args),ha]
 have p:c.argTypes=(t::at2).toArray:=by rw [<-B]
 split at b<;>try (cases b;done)
 ·rename_i D es f;split at b<;>try (cases b;done)
  rename_i q;rw [X3] at q;have E:=za9 q.1;have G:=za9 q.2;subst E;subst G;simp only [X0] at b;subst b;obtain ⟨g,y,rfl⟩:=Z;obtain ⟨g',l,cl,r,I,J,L,N⟩:=h.ents i _ f;rw [y] at r;simp only [X0,Addr.mk.injEq,and_true] at r;subst r;obtain ⟨w',s,O⟩:=gc8 (x:=x) (ty':=o.type) (at2:=at2) u h f y I J L N;refine ji5 (v:=.tuple #[]) V (w':=w') ?_ (K _ _ ⟨S,φ,O.slot (a:=.tup []) ⟨#[],rfl,trivial⟩ ⟨fun i b=>(by cases b),trivial⟩⟩);rw [<-p] at s;cases o;simp only at j s;subst j;simp [execOp,resolve,W,invoke,builtin,d,w5 Y,w5 h3,s]
 ·rename_i D ty es f;split at b<;>try (cases b;done)
  rename_i q;rw [X3] at q;have E:=za9 q.1;have G:=za9 q.2;subst E;subst G;simp only [X0] at b;subst b;obtain ⟨g,y,rfl⟩:=Z;obtain ⟨g',l,cl,r,I,J,L,N⟩:=h.ents i _ f;rw [y] at r;simp only [X0,Addr.mk.injEq,and_true] at r;subst r;obtain ⟨w',s,O⟩:=kg9 (x:=x) (ty':=o.type) (at2:=at2) u h f y I J L N;refine ji5 (v:=.tuple #[]) V (w':=w') ?_ (K _ _ ⟨S,φ,O.slot (a:=.tup []) ⟨#[],rfl,trivial⟩ ⟨fun i b=>(by cases b),trivial⟩⟩);rw [<-p] at s;cases o;simp only at j s;subst j;simp [execOp,resolve,W,invoke,builtin,d,w5 Y,w5 h3,s]
def ka2 {R:Type} {r:R} {x:Operand} {t:TypeId} {c:Call} (hd:dec ops k n F'=some o) (I:o.op=.call c) (hc:c.callee=.builtin .clear) (ha:c.args.toList= [x]) (hat:c.argTypes.toList= [t]) {s:AV T.U} (hx:aev T F x=some s)
  {K0:AV T.U->List (Ent T.U)->Option R} (d:yj9 T P t H s K0=some r) (h:Sim T w0 S0 ⟨F,H⟩ F' w S φ) (K: ∀b H1,K0 b H1=some r->zx4 P ops Q (k+1) n ds w0 S0 (⟨zc2 T F o.dst b,H1⟩:St T)):WR P ops Q k n ds F' w:=by
 obtain ⟨X,h1,N⟩:=w4 h.fr hx;unfold yj9 at d;split at d<;>try (cases d;done)
 ·rename_i i;split at d<;>try (cases d;done)
  rename_i kd ty es kt et u hu;obtain ⟨g,hg,rfl⟩:=N;obtain ⟨g',l,cl,Z,a2,a3,a4,a5⟩:=h.ents i _ u;rw [hg] at Z;simp only [X0,Addr.mk.injEq,and_true] at Z;subst Z;have G:w.heap[g]?=some (.map l cl):=a2;have p:c.args= #[x]:=zf8 ha;have y:c.argTypes= #[t]:=zf8 hat;refine ji5 (v:=.tuple #[]) hd (w':= {w with heap:=w.heap.setIfInBounds g (.map #[] cl)}) ?_ (K _ _ d _ _ ⟨S,φ,(yg8 (l':= #[]) (c':=cl) (es':= []) h u hg a2 a3 (by simp only [TR]) (MapKept.stamped_empty cl)).slot (a:=.tup []) ⟨#[],rfl,trivial⟩ ⟨fun i u=>(by cases u),trivial⟩⟩);cases o;simp only at I;subst I;simp [execOp,resolve,hc,invoke,builtin,p,y,w5 h1,Builtin.clear_,run_underlying hu,MapKept.run_getObj_map G,MapKept.run_setObj_map _ G,Result.andThen]
 rename_i i sz f m;split at d<;>try (cases d;done)
 rename_i e ty xs u;split at d<;>try (cases d;done)
 rename_i et s1 by_ zc he;split at d<;>try (cases d;done)
 rename_i z hsz hz;simp only [X3] at hsz;have:=X1 hsz.1;subst this;have:=X1 hsz.2;subst this;split at d<;>try (cases d;done)
 rename_i O hx0;obtain ⟨hle,hK⟩:=za3 d;obtain ⟨ii,V,hu,hin,hzv,hsi,_,J,L⟩:=zj2 he;subst J;obtain ⟨ad,rfl,hcap,hn,hnil,_⟩:=N;have p:c.args= #[x]:=zf8 ha;have y:c.argTypes= #[t]:=zf8 hat;have W: ∀w',(Builtin.clear_ #[t] o.type #[Value.slice ad m ((φ i).cap-f)]).run P w=.ok (.tuple #[]) w'->(execOp (evD F') o).run P w=.ok (.value (.tuple #[])) w':=by
  intro w' hr;have:execOp (evD F') o=(do return Next.value (<-Builtin.clear_ #[t] o.type #[Value.slice ad m ((φ i).cap-f)])):=by
   cases o;simp only at I;subst I;simp only [execOp,resolve,hc,invoke,builtin,p,y,Array.map_singleton,w5 h1]<;>rfl
  rw [this];simp only [Sem.run_bind,hr,Result.andThen_ok];rfl
 have hi':H[i]?=some (.row e ty xs):=u;by_cases hm:m=0
 ·subst hm;have hsame:H.set i (.row e ty (xs.take f++(List.replicate 0 O++xs.drop (f+0))))=H:=by
   rw [List.replicate_zero,J8,J9,Q7];obtain ⟨hlt,hg⟩:=X2.1 hi';rw [<-hg,M1]
  rw [hsame] at hK;have A:(Builtin.clear_ #[t] o.type #[Value.slice ad 0 ((φ i).cap-f)]).run P w=.ok (.tuple #[]) w:=by
   unfold Builtin.clear_;cases ad<;>simp [run_underlying hu,Sem.run_bind,Sem.run_pure,Result.andThen_ok]
  exact kr1 hd (W w A) h (a:=.tup []) ⟨#[],rfl,trivial⟩ ⟨fun i u=>(by cases u),trivial⟩ (K _ _ hK)
 ·rcases hn with hn|⟨g,M,hg2⟩
  ·exact absurd hn hm
  ·subst hg2;obtain ⟨g',Y,B,vals,Z,a2,a3,a4,a5,a6,a7,a8,a9,a10,a11,a12⟩:=jc6 h u (by omega);rw [M] at Z;simp only [X0,Addr.mk.injEq,and_true] at Z;subst Z;have D:(Builtin.zeroCells V.cells m).toList.length=m*szT T ty:=by simp [Builtin.zeroCells,L]
   have hmul:(f+m)*szT T ty<=xs.length*szT T ty:=Q8 _ hle;have hmul2:xs.length*szT T ty<=(φ i).cap*szT T ty:=Q8 _ a11;rw [V7] at hmul;have hz1:CellsR T w S (zc4 T ty O) V.cells.toList:=by rw [zn4 T hx0];exact yo6 hz
   have J:CellsR T w S ((List.replicate m O).flatMap (zc4 T ty)) (Builtin.zeroCells V.cells m).toList:=by
    refine ⟨by rw [zc6 (za0 T ty),Z9,D],fun j c v h1 N=>?_⟩;have hj:=(X2.1 h1).1;rw [zc6 (za0 T ty),Z9] at hj;rw [yb6 (za0 T ty O) _ _ hj] at h1;refine hz1.2 _ c v h1 ?_;have E:0<szT T ty:=by
     rcases N3 (szT T ty) with h0|h0
     ·rw [h0] at hj;omega
     ·exact h0
    rw [<-L] at E;unfold Builtin.zeroCells at N;simp only [N1,Array.toList_range,W0] at N;rw [L,List.getElem?_range hj] at N;simp only [Z8,X0] at N;subst N;rw [<-L,Array.getElem?_toList,Z6 (Nat.mod_lt _ E)];congr 1;rw [getElem!_pos V.cells _ (Nat.mod_lt _ E)]
   have hone: ∀v∈(Builtin.zeroCells V.cells m).toList,v.oneCell'=true:=J.one;obtain ⟨w',r1,r2,r3⟩:=zm2 P e g (Builtin.zeroCells V.cells m).toList (0+f*szT T ty) 0 Y w a4 (by rw [D,a5];omega) hone;have A:(Builtin.clear_ #[t] o.type #[Value.slice (some ⟨g,0+f*szT T ty,none⟩) m ((φ i).cap-f)]).run P w=.ok (.tuple #[]) w':=by
    unfold Builtin.clear_;cases m with
    |zero=>exact absurd rfl hm
    |succ m=>
     have hzr:(zeroValue et).run P w=.ok V w:=by simp [zeroValue,typeInfo,hin,hzv,Sem.run_bind,Sem.run_pure,Result.andThen_ok]
     have r1':=r1;rw [W7] at r1';simp [run_underlying hu,Sem.run_bind,Sem.run_pure,Result.andThen_ok,hzr,r1']
   refine ji5 hd (W w' A) ?_;refine K _ _ hK _ _ ⟨S,φ,(h.upd (e:=.row e ty (xs.take f++(List.replicate m O++xs.drop (f+m)))) u rfl r3 (fun b G=>?_) ⟨B,(yz2 Y (0+f*szT T ty+0) (Builtin.zeroCells V.cells m).toList).toList.take (xs.length*szT T ty),?_,?_,W9 a10 r3.size,?_,?_⟩ ?_ ?_).slot (a:=.tup []) ⟨#[],rfl,trivial⟩ ⟨fun i u=>(by cases u),trivial⟩⟩
   ·simp at G;subst G;exact ⟨_,.inl M,rfl⟩
   ·rw [M,a2];exact Own.ofBlk r2 a9 a11 (by have:=a12;unfold maxLen at this;omega) (by rw [yv8];exact a5) _ rfl
   ·rw [a2];simp;omega
   ·have hxs:xs=xs.take f++((xs.drop f).take m++xs.drop (f+m)):=by
     rw [<-List.drop_drop,Q7,Q7]
    have hnew:(xs.take f++(List.replicate m O++xs.drop (f+m))).flatMap (zc4 T ty)=zk8 (xs.flatMap (zc4 T ty)) (f*szT T ty) ((List.replicate m O).flatMap (zc4 T ty)):=by
     conv=>rhs;rw [hxs]
     have hp:=yg4 ((List.replicate m O).flatMap (zc4 T ty)) ((xs.take f).flatMap (zc4 T ty)) (((xs.drop f).take m).flatMap (zc4 T ty)) ((xs.drop (f+m)).flatMap (zc4 T ty)) 0
      (by rw [zc6 (za0 T ty),zc6 (za0 T ty),Z9,Y6,Q6,J7 (by omega),W7];exact W6 _)
     rw [zc6 (za0 T ty),Y6,J7 (by omega),J9] at hp;rw [M6,M6,M6,M6,<-List.append_assoc ((xs.take f).flatMap (zc4 T ty)) (((xs.drop f).take m).flatMap (zc4 T ty)),hp,Q2];congr 2;have hl2:((xs.drop f).take m).length=m:=by rw [Y6,Q6];omega
     have: ∀(l cs:List (Cell T.U)),l.length=cs.length->zk8 cs 0 l=l:=by
      have gen: ∀(l pre cs:List (Cell T.U)),l.length=cs.length->zk8 (pre++cs) pre.length l=pre++l:=by
       intro l;induction l with
       |nil=>intro pre cs h;cases cs with|nil=>rfl|cons _ _=>simp at h
       |cons a r ih=>
        intro pre cs h;cases cs with
        |nil=>simp at h
        |cons b q=>
         rw [zk8,List.set_append_right _ _ (W6 _),Nat.sub_self,N6];have:=ih (pre++ [a]) q (by simpa using h);simpa using this
      intro l cs h;simpa using gen l [] cs h
     rw [this _ _ (by rw [zc6 (za0 T ty),zc6 (za0 T ty),Z9,hl2])]
    rw [hnew,yi8,yv7,J9,W7,a6];exact (CellsR.put J a7).chg T r3 (by intro b G;simp at G;subst G;exact a8) (fun b G=>.inl G)
   ·intro a ha;rw [M] at ha;simp only [X0] at ha;subst ha;exact a8
   ·intro q hq;cases hq
   ·intro e1 t1 zs he;simp only [Ent.row.injEq] at he;obtain ⟨rfl,rfl,hh⟩:=he;have:=eq_of_heq hh;subst this;exact ⟨e,xs,rfl,by simp;omega⟩
end
end Go.X
namespace Go.X
open Go.RowKit Go.V
section
variable {T:Tab} {P:Program} {C:Ctx T} {w w':World} {S S':List Nat} {φ φ':Nat->RA} {w0:World} {S0:Ow} {F:AF T} {H:List (Ent T.U)} {F':PF}
variable {ops:Array Oper} {Q:Exit->Act->World->Prop} {k n:Nat} {ds:List Deferred} {o:Oper}
def zn8 {F}: ∀ {l aS},zs2 T F l=some aS->l.length=aS.length
 | [],aS,h=>by simp only [zs2,X0] at h;subst h;rfl
 |x::r,aS,h=>by
  unfold zs2 at h;split at h
  ·rename_i a l c b;simp only [X0] at h;subst h;simp [zn8 b]
  ·cases h
def gg5 {Z:Prop} {R:Type} {r:R} (G:dec ops k n F'=some o) {K0:AV T.U->Option R} (d:zo6 P o ⟨F,H⟩ K0=some r) (h:Sim T w0 S0 ⟨F,H⟩ F' w S φ)
  (K: ∀a v,K0 a=some r->QR P F' o S φ (qv7 o F) w v->VR T w S φ a v->okA H a->Z):Z:=by
 unfold zo6 at d;simp only at d;split at d
 ·rename_i a g;split at d
  ·rename_i I;obtain ⟨v,j,l⟩:=vo6 (P:=P) g h.fr o rfl;exact K _ v d (fun q _ _=>j q) l (kd5 h g I)
  ·cases d
 ·split at d
  ·rename_i e;split at d
   ·rename_i m f s;exact we5 G e m f s d h K
   ·cases d
  ·rename_i e;split at d
   ·rename_i f s;exact uf8 G e f s d h K
   ·cases d
  ·rename_i e;split at d
   ·rename_i p f;split at d
    ·rename_i a hl;exact kj5 G e f hl h (fun i x=>by unfold qv7;rw [e];simp only [f];exact x) fun v=>K _ v d
    ·cases d
   ·cases d
  ·rename_i e;split at d
   ·rename_i hs1 hd1 g;split at d
    ·rename_i he;exact vl6 e g hs1 hd1 he d (fun i x=>by simp only [qv7,e,g];exact x) h K
    ·cases d
   ·cases d
  ·rename_i t0 x0 y0 e;split at d
   ·rename_i s0 j0 hu f s;unfold qe8 at d;split at d
    ·rename_i b V;obtain ⟨X,j,l⟩:=w4 h.fr f;obtain ⟨Y,y,h4⟩:=w4 h.fr s;have J:=zn9 l;have e2:=za4 h4;subst J;subst e2;refine K _ (.int .u8 b.toNat) d (fun q _ _=>?_) (VR.int _ _) (jo9 _ _);simp only [execOp,e,w5 j,w5 y,Instr.index,asIntOf,Sem.run_bind,Sem.run_pure,Result.andThen_ok,run_underlying hu];rw [V];rfl
    ·cases d
   ·cases d
  ·rename_i e;split at d
   ·rename_i f s;exact gc0 G e f s d h K
   ·cases d
  ·rename_i e;split at d
   ·rename_i f hlo hhi;split at d
    ·cases d
    ·rename_i L;refine gg7 G e f hlo hhi ?_ d h K
     grind
   ·cases d
  ·rename_i x0 xt0 at0 ok0 e;split at d
   ·rename_i a f;split at d
    ·rename_i b V;split at d
     ·rename_i L;obtain ⟨v,j,l⟩:=w4 h.fr f;obtain ⟨u,y,h4⟩:=qf5 (xt:=xt0) V l;refine K _ u d (fun q _ _=>?_) h4 (zd7 L fun i x=>(zd3 h f).1 i (qf4 V i x));simp [execOp,e,w5 j,y]
     ·cases d
    ·cases d
   ·cases d
  ·rename_i c e;split at d
   ·cases d
   ·rename_i aS M;have W:=zz9 h.fr M;split at d
    ·rename_i m;split at d
     ·rename_i a t N;split at d
      ·rename_i z hz;have J:=zf8 N;have hv: ∃v,(c.args.map (evD F'))= #[v]/\VR T w S φ a v:=by
        have A:VRL T w S φ [a] (c.args.toList.map (evD F')):=W
        match I:c.args.toList.map (evD F'),A with
        | [v],A=>exact ⟨v,zf8 (by simpa using I),A.1⟩
       obtain ⟨v,B,D⟩:=hv;exact K _ _ d (fun q _ _=>by simp [execOp,e,resolve,m,invoke,B,J,builtin,vm9 hz h D]) (VR.int _ _) (jo9 _ _)
      ·split at d
       ·rename_i z hz;have J:=zf8 N;have hv: ∃v,(c.args.map (evD F'))= #[v]/\VR T w S φ a v:=by
         have A:VRL T w S φ [a] (c.args.toList.map (evD F')):=W
         match I:c.args.toList.map (evD F'),A with
         | [v],A=>exact ⟨v,zf8 (by simpa using I),A.1⟩
        obtain ⟨v,B,D⟩:=hv;refine K _ _ d (fun q _ hsm=>?_) (VR.int _ _) (jo9 _ _);have O:Same φ (qc3 [a]) w q:=fun i x=>hsm i (by unfold qv7;rw [e];simp only [m,M];exact x);simp [execOp,e,resolve,m,invoke,B,J,builtin,wc4 hz h D _ O]
       ·cases d
     ·cases d
    ·rename_i m;split at d
     ·rename_i a g;obtain ⟨v,j,l,y⟩:=kc5 (P:=P) (H:=H) g W c.argTypes o.type;have E: ∀w,(Builtin.min_ c.argTypes o.type (c.args.map (evD F'))).run P w=.ok v w:=fun w=>by simpa [<-Array.toList_map] using j w
      exact K _ v d (fun q _ _=>by simp [execOp,e,resolve,m,invoke,builtin,E]) l y
     ·cases d
    ·rename_i m;split at d
     ·rename_i a g;obtain ⟨v,j,l,y⟩:=kc4 (P:=P) (H:=H) g W c.argTypes o.type;have E: ∀w,(Builtin.max_ c.argTypes o.type (c.args.map (evD F'))).run P w=.ok v w:=fun w=>by simpa [<-Array.toList_map] using j w
      exact K _ v d (fun q _ _=>by simp [execOp,e,resolve,m,invoke,builtin,E]) l y
     ·cases d
    ·cases d
  ·cases d
def qs5 {t b sz} (a:zh4 P t=some (b,sz)) (h:kr7 P t=true): ∃e d,P.underlying t=some (.array b e)/\P.underlying e=some d/\yf4 d=false:=by
 obtain ⟨e,f,c,_,_,_⟩:=zj1 a;unfold kr7 at h;rw [c] at h;simp only at h;split at h
 ·rename_i d g;exact ⟨e,d,c,g,by simpa using h⟩
 ·cases h
def kp6 {Z:Prop} {R:Type} {r:R} (q:dec ops k n F'=some o) {I:AV T.U->Option R} (c:zu3 P o ⟨F,H⟩ I=some r) (h:Sim T w0 S0 ⟨F,H⟩ F' w S φ)
  (K: ∀a v,I a=some r->QR P F' o S φ (qv7 o F) w v->VR T w S φ a v->okA H a->Z):Z:=by
 unfold zu3 at c;split at c
 ·unfold yj0 at c;simp only at c;split at c
  ·rename_i b;split at c
   ·rename_i f g z;exact kc0 q b f g z c h K
   ·cases c
  ·rename_i b;split at c
   ·rename_i f g z A;obtain ⟨e,d,M,N,O⟩:=qs5 f A;exact kc1 b f M N O g z c h K
   ·cases c
  ·rename_i b;split at c
   ·rename_i f g B D;exact kg6 q b f g B D c h K
   ·cases c
  ·rename_i b;split at c
   ·rename_i f g;exact ga0 b f g c h K
   ·cases c
  ·rename_i t x b;split at c
   ·rename_i n0 sz p f g;have j: ∀i∈p.ids,i∈qv7 o F:=fun i s=>by unfold qv7;rw [b];simp only [g];exact s
    refine gc4 q b f (fun l=>?_) g c h j K fun V=>?_
    ·unfold qw6;split at l
     ·rename_i W u;rw [u];exact congrArg some (X1 l)
     ·cases l
    ·obtain ⟨a,X,y⟩:=za8 V;exact kj5 q b g X h j fun v=>K _ v y
   ·cases c
  ·rename_i b;split at c
   ·rename_i a g;split at c
    ·rename_i E;obtain ⟨v,Y,J⟩:=w4 h.fr g;exact K _ v c (vr5 b E Y J) J (zd3 h g)
    ·cases c
   ·cases c
  ·rename_i b;split at c
   ·rename_i m kx x L hk;have j: ∀i∈m.ids,i∈qv7 o F:=fun i s=>by unfold qv7;rw [b];simp only [L];exact s
    refine gc5 q b L hk c h j fun a v y hq hv s=>?_;split at y
    ·rename_i G;exact K _ v y hq hv (zd7 G s)
    ·cases y
   ·cases c
  ·cases c
 ·exact gg5 q c h K
def vs4 {R:Type} {r:R} (Y:zc5 T P C.E) {c:Call} (z:dec ops k n F'=some o) (l:o.op=.call c) {K:AV T.U->List (Ent T.U)->Option R} {M:AV T.U->List (Ent T.U)->Option R} (d:yh3 P C c ⟨F,H⟩ K M=some r) (h:Sim T w0 S0 ⟨F,H⟩ F' w S φ)
  (A: ∀b H1,K b H1=some r->zx4 P ops Q (k+1) n ds w0 S0 (⟨zc2 T F o.dst b,H1⟩:St T)) (Z: ∀b H1,M b H1=some r->ym2 Q n ds w0 S0 b (⟨F,H1⟩:St T)):WR P ops Q k n ds F' w:=by
 unfold yh3 at d;split at d
 ·cases d
 ·rename_i aS a;have h5:=zz9 h.fr a;split at d
  ·rename_i f p;split at d
   ·rename_i g first N hf
    split at d
    ·rename_i cs O D;split at d
     ·rename_i u;exact vz8 z l p hf a O (Y g cs D).1 u d h A Z
     ·cases d
    ·cases d
   ·cases d
  ·rename_i p;split at d
   ·rename_i s x t t' j;split at d
    ·rename_i e G O;have:=X1 G;subst this
     match v:c.args.toList,a with
     | [q,B],a=>
      unfold zs2 at a;split at a
      ·rename_i V W y i;simp only [X0,List.cons.injEq] at a;obtain ⟨rfl,rfl⟩:=a;unfold zs2 at i;split at i
       ·rename_i a2 l2 I J;simp only [X0,List.cons.injEq] at i;obtain ⟨rfl,rfl⟩:=i;exact vk4 z l p v j y I d h A
       ·cases i
      ·cases a
     | [],a=>exact absurd (zn8 a) (by simp)
     | [q],a=>exact absurd (zn8 a) (by simp)
     |q::B::z0::X,a=>exact absurd (zn8 a) (by simp)
    ·cases d
   ·cases d
  ·rename_i p;split at d
   ·rename_i s t j
    match v:c.args.toList,a with
    | [q],a=>
     unfold zs2 at a;split at a
     ·rename_i V W y i;simp only [X0,List.cons.injEq] at a;obtain ⟨rfl,rfl⟩:=a;exact ka2 z l p v j y d h A
     ·cases a
    | [],a=>exact absurd (zn8 a) (by simp)
    |q::B::X,a=>exact absurd (zn8 a) (by simp)
   ·cases d
  ·rename_i p;split at d
   ·rename_i m kx x t at2 j;split at d
    ·rename_i H1 L
     match v:c.args.toList,a with
     | [q,B],a=>
      unfold zs2 at a;split at a
      ·rename_i V W y i;simp only [X0,List.cons.injEq] at a;obtain ⟨rfl,rfl⟩:=a;unfold zs2 at i;split at i
       ·rename_i a2 l2 I J;simp only [X0,List.cons.injEq] at i;obtain ⟨rfl,rfl⟩:=i;exact vm1 z l p v j y I L h (A _ _ d)
       ·cases i
      ·cases a
     | [],a=>exact absurd (zn8 a) (by simp)
     | [q],a=>exact absurd (zn8 a) (by simp)
     |q::B::z0::X,a=>exact absurd (zn8 a) (by simp)
    ·cases d
   ·cases d
  ·cases d
def zh6 {R:Type} {r:R} (hE:zc5 T P C.E) (j:dec ops k n F'=some o) {K:St T->Option R} {Kp:AV T.U->St T->Option R} (c:stepA P C o ⟨F,H⟩ K Kp=some r) (h:Sim T w0 S0 ⟨F,H⟩ F' w S φ)
  (p: ∀st,K st=some r->zx4 P ops Q (k+1) n ds w0 S0 st) (HP: ∀a st,Kp a st=some r->ym2 Q n ds w0 S0 a st):WR P ops Q k n ds F' w:=by
 have m:zu3 P o ⟨F,H⟩ (fun a=>K ⟨zc2 T F o.dst a,H⟩)=some r->WR P ops Q k n ds F' w:=fun c=>
  kp6 j c h fun a v hK hq B O=>kr1 j (hq w (Chg.refl _ _) fun _ _ _ _ _=>rfl) h B O (p _ hK)
 unfold stepA at c;simp only at c;split at c
 ·rename_i f;split at c
  ·rename_i cs hz;split at c
   ·rename_i cs' D;exact vk3 j f hz D h (p _ c)
   ·cases c
  ·cases c
 ·rename_i f;split at c
  ·rename_i a V;split at c
   ·rename_i cs q;obtain ⟨g1,g2⟩:=vz5 q;exact wa6 j f V (fun _ _ _ _ B=>g2 B) g1 h (p _ c)
   ·cases c
  ·cases c
 ·rename_i f;split at c
  ·rename_i kd kt et G _;exact kc7 j f G h (p _ c)
  ·rename_i kd kt et ty G _;exact vn5 j f G h (p _ c)
  ·cases c
 ·rename_i f;split at c
  ·rename_i g W z B;split at c
   ·rename_i H1 Y I;exact js1 j (.inl f) g W z B I h (p _ c)
   ·cases c
  ·cases c
 ·rename_i f;split at c
  ·rename_i g W z B;split at c
   ·rename_i H1 Y I;exact js1 j (.inr f) g W z B I h (p _ c)
   ·cases c
  ·cases c
 ·rename_i f;split at c
  ·rename_i g z Z;split at c
   ·rename_i H1 D;exact kg7 j f g z Z D h (p _ c)
   ·cases c
  ·cases c
 ·rename_i f;split at c
  ·rename_i z Z he;exact gc6 j f z Z c h fun a H1 V=>p _ V
  ·cases c
 ·rename_i f;split at c
  ·rename_i l ty D he;split at c
   ·rename_i e xs q;exact vl1 j f D q h (p _ c)
   ·cases c
  ·rename_i l D he;split at c
   ·rename_i e sz cs q;exact qr3 j f D q h (p _ c)
   ·cases c
  ·cases c
 ·rename_i f;split at c
  ·exact m c
  ·exact vs4 hE j f c h (fun b H1 q=>p _ q) fun b H1 q=>HP _ _ q
 ·rename_i s d x f;split at c
  ·rename_i e b N J h3;split at c
   ·rename_i h4;exact qr8 j f h3 N J h4 h (p _ c)
   ·cases c
  ·rename_i e i N J h3;split at c
   ·rename_i y xs q _ h4 A;have:=X1 q;subst this
    replace A:(match H[i]? with|some (.row _ ty' xs)=>if h:ty'=.int .u8 then some (h▸xs:List (den T.U (.int .u8))) else none|_=>none)=some (y::xs):=A
    split at A<;>try (cases A;done)
    rename_i et ty' zs I;split at A<;>try (cases A;done)
    rename_i ht;subst ht;have A:zs=y::xs:=X5 A;subst A;exact vl5 j f h3 J h4 I (by simp) h (p _ c)
   ·cases c
  ·exact m c
 ·rename_i x f;split at c
  ·rename_i t a z;obtain ⟨X,N,u,rfl,J⟩:=w4 h.fr z;have L:(execOp (evD F') o).run P w=.halt (.panic (.iface t u)) w:=by
    simp [execOp,f,w5 N,Instr.panic,goPanic]
   exact .throw j L fun act M=>HP _ _ c F' w S φ (.iface t u) h ⟨u,rfl,J⟩ (zd3 h z) act M
  ·cases c
 ·exact m c
end
end Go.X
namespace Go.X
open Go.RowKit Go.V
def zx9 (i:Nat):List Nat->Bool| []=>false|j::r=>match Nat.beq j i with|true=>true|false=>zx9 i r
def vd4 (l:List Nat):List Nat->List Nat| []=>l|i::r=>match zx9 i l with|true=>vd4 l r|false=>vd4 (l++ [i]) r
def qk2 (i:Nat):List Nat->Nat| []=>0|j::r=>match Nat.beq j i with|true=>0|false=>qk2 i r+1
def ze6:List Nat->Bool| []=>true|i::r=> !zx9 i r&&ze6 r
def zb9 {i}: ∀ {l},zx9 i l=true↔i∈l
 | []=>by simp [zx9]
 |j::r=>by
  unfold zx9;split
  ·rename_i h;have:=X1 h;subst this;simp
  ·rename_i h;have a:j≠i:=fun e=>by subst e;simp at h
   rw [zb9];simp [Ne.symm a]
def zs9 {i}: ∀ {l},i∈l->qk2 i l<l.length/\l[qk2 i l]?=some i
 | [],h=>by cases h
 |j::r,h=>by
  unfold qk2;split
  ·rename_i a;have:=X1 a;subst this;simp
  ·rename_i a;have b:j≠i:=fun e=>by subst e;simp at a
   have c:i∈r:=by
    rcases Z0.1 h with rfl|h
    ·exact absurd rfl b
    ·exact h
   obtain ⟨d,f⟩:=zs9 c;exact ⟨by simpa using d,by rw [List.getElem?_cons_succ];exact f⟩
def zu2: ∀ {l},ze6 l=true-> ∀ {a b x:Nat},l[a]?=some x->l[b]?=some x->a=b
 | [],_,a,b,x,c,_=>by simp at c
 |i::r,h,a,b,x,c,d=>by
  unfold ze6 at h;simp only [X3,V8] at h;have e:i∉r:=fun f=>by have:=zb9.2 f;rw [h.1] at this;cases this
  cases a with
  |zero=>
   cases b with
   |zero=>rfl
   |succ b=>
    simp at c d;subst c;exact absurd (X6 d) e
  |succ a=>
   cases b with
   |zero=>
    simp at c d;subst d;exact absurd (X6 c) e
   |succ b=>
    simp at c d;rw [zu2 h.2 c d]
section
variable (T:Tab)
def ym9 (H:List (Ent T.U)):List Nat->List (Ent T.U)
 | []=>H
 |i::r=>ym9 (H.set i .gone) r
def closeL (_:List Nat) (H:List (Ent T.U)):List (Ent T.U):=H
end
section
variable {T:Tab} {P:Program} {w w':World} {S S':List Nat} {φ φ':Nat->RA} {w0:World} {S0:Ow} {F:AF T} {H:List (Ent T.U)} {F':PF}
def yb3 {i j f} (h:(H.set i .gone)[j]?=some f) (c:f.live=true):j≠i/\H[j]?=some f:=by
 by_cases a:j=i
 ·subst a;have b:=(X2.1 h).1;rw [Q0 (by simpa using b)] at h;simp only [X0] at h;subst h;cases c
 ·rw [Z5 (Ne.symm a)] at h;exact ⟨a,h⟩
end
end Go.X
namespace Go.X
open Go.RowKit Go.V
section
variable {T:Tab} {P:Program} {w w':World} {S S':List Nat} {φ φ':Nat->RA} {w0:World} {S0:Ow} {F:AF T} {H:List (Ent T.U)} {F':PF}
def nodup_cons {i r} (h:ze6 (i::r)=true):i∉r/\ze6 r=true:=by
 unfold ze6 at h;simp only [X3,V8] at h;exact ⟨fun a=>(by have:=zb9.2 a;rw [h.1] at this;cases this),h.2⟩
def jx2 (l:List Nat) {H:List (Ent T.U)} (h:zd2 T w0 S0 ⟨F,H⟩ F' w):zd2 T w0 S0 ⟨F,closeL T l H⟩ F' w:=h
def VRL.phiS {aS vs} (h:VRL T w S φ aS vs) (a: ∀i∈v8 aS,RSame (φ' i) (φ i)):VRL T w S φ' aS vs:=by
 have:=VRL.renS T (ρ:=id) (φ':=φ') a h;rwa [zo2] at this
def Sim.closeL (l:List Nat) {H:List (Ent T.U)} {φ:Nat->RA} (h:Sim T w0 S0 ⟨F,H⟩ F' w S φ): ∃φ',Sim T w0 S0 ⟨F,closeL T l H⟩ F' w S φ'/\(∀i,RSame (φ' i) (φ i))/\(Go.X.closeL T l H).length=H.length:=⟨φ,h,fun _=>.of rfl,rfl⟩
def dzS (_:Nat) (st:St T):St T:=st
def jr5 (m:Nat) {st:St T} (h:zd2 T w0 S0 st F' w):zd2 T w0 S0 (dzS m st) F' w:=h
end
end Go.X
namespace Go.X
open Go.RowKit Go.V
section
variable {T:Tab} (P:Program) (C:Ctx T) {R:Type}
def yd1 (_:Program) (_:Ctx T) (_:Oper) (_:St T) (_:St T->Option R):Option (Option R):=none
end
section
variable {T:Tab} {P:Program} {C:Ctx T} {w w':World} {S S':List Nat} {φ φ':Nat->RA} {w0:World} {S0:Ow} {F:AF T} {H:List (Ent T.U)} {F':PF}
variable {ops:Array Oper} {Q:Exit->Act->World->Prop} {k n:Nat} {ds:List Deferred} {o:Oper}
def yz8 {R:Type} {r:R} (hd:dec ops k n F'=some o) {K:St T->Option R} {z:Option R} (hz:yd1 P C o ⟨F,H⟩ K=some z) (hr:z=some r) (h:Sim T w0 S0 ⟨F,H⟩ F' w S φ)
  (HK: ∀st,K st=some r->zx4 P ops Q (k+1) n ds w0 S0 st):WR P ops Q k n ds F' w:=by
 unfold yd1 at hz;cases hz
end
end Go.X
namespace Go.X
open Go.RowKit Go.V
section
variable (T:Tab)
def qt0 {R:Type} (t:Ty) (x:Operand) (st:St T) (K:St T->Option R):Option R:=
 match x with
 | .tmp s=>match st.F.get T s with
  |some a=>rdF T st.H t a fun y=>K ⟨(s,zm8 T t y)::st.F,ym9 T st.H a.ids⟩
  |none=>none
 |_=>none
def gb7 {R:Type}:List (Nat×Ty)->List (AV T.U)->List (Ent T.U)->(List (AV T.U)->List (Ent T.U)->Option R)->Option R
 | [],aS,H,K=>K aS H
 |(j,t)::r,aS,H,K=>match aS[j]? with
  |some a=>rdF T H t a fun y=>gb7 r (aS.set j (zm8 T t y)) (ym9 T H a.ids) K
  |none=>none
def vh2 (ty:Ty) (c:Nat) (a:AV T.U):Option Ty:=
 match a with
 | .agg _=>match Nat.beq c 0 with|true=>some ty|false=>none
 |_=>match (zc4 T ty (zv2 T ty))[c]? with|some x=>some x.t|none=>none
def jz0 (H:List (Ent T.U)) (p a:AV T.U):Option Ty:=
 match p with
 | .eptr i _ _ c=>match H[i]? with|some (.row _ ty _)=>vh2 T ty c a|_=>none
 | .aptr i o _ _ _ c=>match H[i]? with
  |some (.blk _ cs)=>match yy8 T cs o with
   |some (b::_)=>match jd1 b with|some ⟨ty,_,_⟩=>vh2 T ty c a|none=>none
   |_=>none
  |_=>none
 |_=>none
def yr6 {R:Type} (b:Ty):List (Nat×Operand)->St T->(St T->Option R)->Option R
 | [],st,K=>K st
 |(_,x)::r,st,K=>match aev T st.F x with
  |some a=>match cellsOf T (zi0 T a) with
   |some _=>yr6 b r st K
   |none=>qt0 T b x st fun st=>yr6 b r st K
  |none=>none
end
section
variable {T:Tab} (P:Program) (C:Ctx T) {R:Type}
def qu1:Operand->Operand->Bool| .tmp s,.tmp q=> !(Nat.beq s q)|_,_=>true
def zm1 (o:Oper) (st:St T) (K:St T->Option R) (b:AV T.U->St T->Option R):Option R:=
 match o.op with
 | .store _ x y=>match aev T st.F x,aev T st.F y with
  |some p,some a=>match cellsOf T (zi0 T a),jz0 T st.H p a with
   |none,some c=>(match qu1 y x with|true=>qt0 T c y st fun st=>stepA P C o st K b|false=>none)
   |_,_=>stepA P C o st K b
  |_,_=>none
 | .buildSlice t _ ps=>match C.ty t,zs2 T st.F (ps.toList.map Prod.snd) with
  |some c,some _=>yr6 T c ps.toList st fun st=>stepA P C o st K b
  |_,_=>stepA P C o st K b
 | .mapUpdate t m x v=>match C.ty t,aev T st.F v with
  |some c,some a=>(match cellsOf T (zi0 T a) with
   |none=>(match qu1 v m&&qu1 v x with|true=>qt0 T c v st fun st=>stepA P C o st K b|false=>none)
   |some _=>stepA P C o st K b)
  |_,_=>stepA P C o st K b
 |_=>stepA P C o st K b
def zj4 (o:Oper) (st:St T) (K:St T->Option R) (a:AV T.U->St T->Option R):Option R:=
 match yd1 P C o st K with
 |some z=>z
 |none=>zm1 P C o st K a
end
section
variable {T:Tab} {P:Program} {C:Ctx T} {w w':World} {S S':List Nat} {φ φ':Nat->RA} {w0:World} {S0:Ow} {F:AF T} {H:List (Ent T.U)} {F':PF}
variable {ops:Array Oper} {Q:Exit->Act->World->Prop} {k n:Nat} {ds:List Deferred} {o:Oper}
def Sim.seen (h:Sim T w0 S0 ⟨F,H⟩ F' w S φ) {d a v} (g:F'.get d=some v) (j:VR T w S φ a v) (e:okA H a):Sim T w0 S0 ⟨(d,a)::F,H⟩ F' w S φ:=by
 have f: ∀i b,AF.get T ((d,a)::F) i=some b->(i=d/\b=a)\/F.get T i=some b:=by
  intro i b c;simp only [AF.get] at c;split at c
  ·rename_i l;have:=X1 l;subst this;exact .inl ⟨rfl,(X5 c).symm⟩
  ·exact .inr c
 refine ⟨fun i b c=>?_,fun i b c=>?_,h.chg,h.own,h.ex,h.lives,h.pins,h.ents,h.eids,h.apart⟩
 ·rcases f i b c with ⟨rfl,rfl⟩|c
  ·exact ⟨v,g,j⟩
  ·exact h.fr i b c
 ·rcases f i b c with ⟨rfl,rfl⟩|c
  ·exact e
  ·exact h.ids i b c
def Sim.frz1 (h:Sim T w0 S0 ⟨F,H⟩ F' w S φ) {i e} (J:H[i]?=some e) (K:e.live=true):
  Sim T w0 S0 ⟨F,H.set i .gone⟩ F' w (S.filter fun b=> !(φ i).all.contains b) φ:=by
 have p: ∀b∈S.filter (fun b=> !(φ i).all.contains b),b∈S:=fun b g=>(Q9.1 g).1;have s: ∀ {b:Nat},b∈S->(∀a,At (φ i) a->a.block≠b)->b∈S.filter fun b=> !(φ i).all.contains b:=by
  intro b g q;refine Q9.2 ⟨g,?_⟩;cases hq:(φ i).all.contains b with
  |false=>rfl
  |true=>
   obtain ⟨a,m,u⟩:=zy0.1 (List.contains_iff_mem.1 hq);exact absurd u (q a m)
 refine ⟨?_,?_,h.chg,fun b g=>h.own b (p b g),?_,?_,?_,?_,?_,?_⟩
 ·intro j a m;obtain ⟨v,B,D⟩:=h.fr j a m;exact ⟨v,B,D.chg T (Chg.refl [] w) (by simp) fun b g=>.inl (p b g)⟩
 ·intro j a m;obtain ⟨B,D⟩:=h.ids j a m;refine ⟨fun x z=>by simpa using B x z,?_⟩;cases a with
  |eptr y sz k c=>intro e t xs z;exact D e t xs (yb3 z rfl).2
  |_=>trivial
 ·intro b g M O;refine s (h.ex b g M O) fun a m u=>?_;rcases (h.lives i e J K a m).2 with N|N
  ·exact M (u▸N)
  ·omega
 ·intro j f A l a m;obtain ⟨q,d⟩:=yb3 A l;exact ⟨s (h.lives j f d l a m).1 fun b g u=>h.apart i j e f J d K l (Ne.symm q) b a g m u,(h.lives j f d l a m).2⟩
 ·intro k r V;obtain ⟨B,D⟩:=h.pins k r V;exact ⟨B,by simpa using D⟩
 ·intro j f A;by_cases l:f.live=true
  ·obtain ⟨q,d⟩:=yb3 A l;exact (h.ents j f d).chg T (Chg.refl [] w) (by simp) (fun b g=>.inl (p b g)) fun E a m=>⟨by simp,s (zi7 h d E m) fun b g u=>h.apart i j e f J d K E (Ne.symm q) b a g m u⟩
  ·cases f<;>first|exact trivial|exact absurd rfl l
 ·intro j f A x z;cases f with
  |hid=>cases z
  |gone=>cases z
  |_=>have:=h.eids j _ (yb3 A rfl).2 x z;simpa using this
 ·intro j k f W A d G I L;exact h.apart j k f W (yb3 A G).2 (yb3 d I).2 G I L
def Sim.frzL: ∀(ids) {H S},Sim T w0 S0 ⟨F,H⟩ F' w S φ->
  ∃S',(∀b∈S',b∈S)/\(∀i∈ids,∀e,H[i]?=some e->e.live=true-> ∀a,At (φ i) a->a.block∉S')/\Sim T w0 S0 ⟨F,ym9 T H ids⟩ F' w S' φ
 | [],H,S,h=>⟨S,fun _ h=>h,by simp,h⟩
 |i::r,H,S,h=>by
  have step: ∃S1,(∀b∈S1,b∈S)/\(∀e,H[i]?=some e->e.live=true-> ∀a,At (φ i) a->a.block∉S1)/\Sim T w0 S0 ⟨F,H.set i .gone⟩ F' w S1 φ:=by
   cases hi:H[i]? with
   |none=>
    refine ⟨S,fun _ h=>h,by simp,?_⟩;rw [List.set_eq_of_length_le (by simpa using hi)];exact h
   |some e=>
    cases f:e.live with
    |true=>
     refine ⟨_,fun b m=>(Q9.1 m).1,fun u c _ a g l=>?_,h.frz1 hi f⟩;have:=(Q9.1 l).2;simp at this;exact this (zy0.2 ⟨a,g,rfl⟩)
    |false=>
     have:e=.gone:=by cases e<;>first|rfl|cases f
     subst this;refine ⟨S,fun _ h=>h,fun u c p=>?_,?_⟩
     ·simp only [X0] at c;subst c;cases p
     ·have v:H.set i .gone=H:=by
       obtain ⟨x,y⟩:=X2.1 hi;rw [<-y,M1]
      rw [v];exact h
  obtain ⟨S1,z,A,B⟩:=step;obtain ⟨D,s,E,G⟩:=Sim.frzL r B;refine ⟨D,fun b m=>z b (s b m),fun j q e t f a g l=>?_,G⟩;by_cases d:j=i
  ·subst d;exact A e t f a g (s _ l)
  ·rcases Z0.1 q with rfl|q
   ·exact d rfl
   ·exact E j q e (by rw [Z5 (Ne.symm d)];exact t) f a g l
def kc9 {t a x} (h:jm4 T t a=some x):a.ids= []:=by
 cases a with
 |cell c=>rfl
 |raw v=>rfl
 |agg cs=>
  cases t<;>simp only [jm4,reduceCtorEq] at h;split at h
  ·rename_i l b;rw [zp4 b,AV.ids,yn2]
  ·cases h
 |_=>cases t<;>cases h
def gg3 {R:Type} {r:R} {t:Ty} {a:AV T.U} {K:den T.U t->Option R} (h:rdN T H t a K=some r): ∀i∈a.ids,∃e,H[i]?=some e/\e.live=true:=by
 unfold rdN at h;split at h
 ·intro i b;cases b
 ·intro i b;cases b
 ·intro j c;simp only [AV.ids,Q4] at c;subst c;split at h
  ·rename_i b;exact ⟨_,b,rfl⟩
  ·cases h
 ·cases h
def qo1 {R:Type} {r:R} {t:Ty} {a:AV T.U} {K:den T.U t->Option R} (h:jo0 T H t a K=some r): ∀i∈a.ids,∃e,H[i]?=some e/\e.live=true:=by
 unfold jo0 at h;split at h
 ·intro j b;simp only [AV.ids,Q4] at b;subst b;split at h
  ·rename_i c;exact ⟨_,c,rfl⟩
  ·cases h
 ·intro j b;simp only [AV.ids,Q4] at b;subst b;split at h
  ·rename_i c;exact ⟨_,c,rfl⟩
  ·cases h
 ·intro j b;simp only [AV.ids,Q4] at b;subst b;split at h
  ·rename_i c;exact ⟨_,c,rfl⟩
  ·cases h
 ·split at h
  ·rename_i x d;rw [kc9 d];intro i c;cases c
  ·exact gg3 h
def qn9 {R:Type} {r:R}: ∀ {c:List Ty} {aS:List (AV T.U)} {K:List (Cell T.U)->Option R},qn7 T H c aS K=some r-> ∀i∈v8 aS,∃e,H[i]?=some e/\e.live=true
 | [],[],K,h=>by intro i b;cases b
 | [],_::_,_,h=>by cases h
 |_::_,[],_,h=>by cases h
 |t::c,a::aS,K,h=>by
  have h:(match t.one with|true=>jo0 T H t a (fun x=>qn7 T H c aS fun l=>K (⟨t,x⟩::l))|false=>none)=some r:=h;split at h<;>try (cases h;done)
  intro i b;rw [v8] at b;rcases X4.1 b with b|b
  ·exact qo1 h i b
  ·obtain ⟨x,d,f⟩:=jk4 h;exact qn9 d i b
def vi3 {R:Type} {r:R} {t:Ty} {a:AV T.U} {K:den T.U t->Option R} (h:rdF T H t a K=some r): ∀i∈a.ids,∃e,H[i]?=some e/\e.live=true:=by
 unfold rdF at h;split at h
 ·intro i b;rw [AV.ids] at b;exact qn9 h i b
 ·exact qo1 h
def jw9 (t x):(zm8 T t x).ids= []:=by
 cases t with
 |user i=>show v8 ((T.cells i x).map AV.cell)= [];exact yn2 _
 |_=>rfl
def zt7 {R:Type} {r:R} {t:Ty} {x:Operand} {st:St T} {K:St T->Option R} (h:qt0 T t x st K=some r) (d:Sim T w0 S0 st F' w S φ): ∃b S',K b=some r/\Sim T w0 S0 b F' w S' φ/\ ∀t,(st.F.get T t).isSome=true->(b.F.get T t).isSome=true:=by
 obtain ⟨F,H⟩:=st;unfold qt0 at h;split at h<;>try (cases h;done)
 rename_i s;split at h<;>try (cases h;done)
 rename_i a j;obtain ⟨v,l,m⟩:=d.fr s a j;obtain ⟨S',p,u,z⟩:=Sim.frzL a.ids d;obtain ⟨y,A,B⟩:=jk5 (S':=S') h (fun i c D f _=>d.ents i D f) m φ p fun i c ad g=>by
  obtain ⟨e,E,G⟩:=vi3 h i c;exact u i c e E G ad (.inl g)
 refine ⟨_,S',A,z.seen l B (zd7 ?_ ?_),fun q I=>?_⟩
 ·cases t<;>rfl
 ·rw [jw9];intro i c;cases c
 ·simp only [AF.get];split
  ·rfl
  ·exact I
def zv8 {R:Type} {r:R} {d:Ty}: ∀ {ps:List (Nat×Operand)} {st:St T} {K:St T->Option R} {S:List Nat},yr6 T d ps st K=some r->Sim T w0 S0 st F' w S φ-> ∃a S',K a=some r/\Sim T w0 S0 a F' w S' φ/\ ∀t,(st.F.get T t).isSome=true->(a.F.get T t).isSome=true
 | [],st,K,S,h,b=>⟨st,S,h,b,fun _ h=>h⟩
 |(_,x)::ps,st,K,S,h,b=>by
  unfold yr6 at h;split at h<;>try (cases h;done)
  split at h
  ·exact zv8 h b
  ·obtain ⟨a,S',e,f,g⟩:=zt7 h b;obtain ⟨c,i,j,l,m⟩:=zv8 e f;exact ⟨c,i,j,l,fun t p=>m t (g t p)⟩
def qi0 {R:Type} {r:R} (c:zc5 T P C.E) (d:dec ops k n F'=some o) {K:St T->Option R} {j:AV T.U->St T->Option R} (b:zm1 P C o ⟨F,H⟩ K j=some r) (h:Sim T w0 S0 ⟨F,H⟩ F' w S φ)
  (e: ∀st,K st=some r->zx4 P ops Q (k+1) n ds w0 S0 st) (f: ∀a st,j a st=some r->ym2 Q n ds w0 S0 a st):WR P ops Q k n ds F' w:=by
 unfold zm1 at b;split at b
 ·split at b<;>try (cases b;done)
  split at b
  ·split at b<;>try (cases b;done)
   obtain ⟨⟨l,H2⟩,m,g,i,_⟩:=zt7 b h;exact zh6 c d g i e f
  ·exact zh6 c d b h e f
 ·split at b
  ·obtain ⟨⟨l,H2⟩,m,g,i,_⟩:=zv8 b h;exact zh6 c d g i e f
  ·exact zh6 c d b h e f
 ·split at b
  ·split at b
   ·split at b<;>try (cases b;done)
    obtain ⟨⟨l,H2⟩,m,g,i,_⟩:=zt7 b h;exact zh6 c d g i e f
   ·exact zh6 c d b h e f
  ·exact zh6 c d b h e f
 ·exact zh6 c d b h e f
def yz7 {R:Type} {r:R} (f:zc5 T P C.E) (c:dec ops k n F'=some o) {K:St T->Option R} {d:AV T.U->St T->Option R} (b:zj4 P C o ⟨F,H⟩ K d=some r) (h:Sim T w0 S0 ⟨F,H⟩ F' w S φ)
  (e: ∀st,K st=some r->zx4 P ops Q (k+1) n ds w0 S0 st) (g: ∀a st,d a st=some r->ym2 Q n ds w0 S0 a st):WR P ops Q k n ds F' w:=by
 unfold zj4 at b;split at b
 ·rename_i z i;exact yz8 c i b h e
 ·exact qi0 f c b h e g
def ym7 {R:Type} {r:R} {w0:World} {S0:Ow} {F:AF T} {F':PF} {w:World} {φ:Nat->RA}: ∀(l:List (Nat×Ty)) {aS:List (AV T.U)} {us:List Value} {H:List (Ent T.U)} {S:List Nat} {K:List (AV T.U)->List (Ent T.U)->Option R},gb7 T l aS H K=some r->Sim T w0 S0 ⟨F,H⟩ F' w S φ->VRL T w S φ aS us->
  ∃c H' S',K c H'=some r/\Sim T w0 S0 ⟨F,H'⟩ F' w S' φ/\VRL T w S' φ c us
 | [],aS,us,H,S,K,h,f,g=>⟨aS,H,S,h,f,g⟩
 |(j,t)::l,aS,us,H,S,K,h,f,g=>by
  unfold gb7 at h;split at h<;>try (cases h;done)
  rename_i a u;obtain ⟨v,x,z⟩:=g.get T u;obtain ⟨S',s,A,B⟩:=Sim.frzL a.ids f;obtain ⟨y,D,E⟩:=jk5 (S':=S') h (fun i m G p _=>f.ents i G p) z φ s fun i m ad q=>by
   obtain ⟨e,I,J⟩:=vi3 h i m;exact A i m e I J ad (.inl q)
  have d:=(g.chg T (Chg.refl [] w) (by simp) fun b L=>.inl (s b L)).set T j E;rw [show us.set j v=us by
   obtain ⟨M,N⟩:=X2.1 x;rw [<-N,M1]] at d
  exact ym7 l D B d
end
end Go.X
namespace Go.X
open Go.RowKit Go.V
section
variable {T:Tab} {w w':World} {S S':List Nat} {φ φ':Nat->RA} {w0:World} {S0:Ow} {F:AF T} {H:List (Ent T.U)} {F':PF}
def DRel.append {D E r d fe xs ys s G} (t:DRel T w S φ D d fe xs none s) (u:DRel T w S φ E d fe ys none G) (W:s.length=xs.length*T.size d)
  (O: ∀b,(b∈D.xs/\ ∀a,D.ad=some a->a.block≠b)\/(b∈E.xs/\ ∀a,E.ad=some a->a.block≠b)->b∈r.xs/\ ∀a,r.ad=some a->a.block≠b) (x: ∀b∈D.xs,b∉E.xs):DRel T w S φ' r d fe (xs++ys) none (s++G):=by
 have e: ∀j,¬ki9 T (T.size d) (none:Option (Nat×List (AV T.U))) j:=fun j h=>h;have K:(xs.flatMap (T.cells d)).length=xs.length*T.size d:=zc6 (T.len d) xs;have part: ∀(j:Nat) (c:Cell T.U) (v:Value),((xs++ys).flatMap (T.cells d))[j]?=some c->(s++G)[j]?=some v->
   (j<xs.length*T.size d/\(xs.flatMap (T.cells d))[j]?=some c/\s[j]?=some v)\/(∃i,j=xs.length*T.size d+i/\(ys.flatMap (T.cells d))[i]?=some c/\G[i]?=some v/\i%T.size d=j%T.size d):=by
  intro j c v l p;rw [M6] at l;rcases Nat.lt_or_ge j (xs.length*T.size d) with h|h
  ·rw [X8 (by omega)] at l p;exact .inl ⟨h,l,p⟩
  ·rw [Z2 (by omega)] at l p;rw [K] at l;rw [W] at p;exact .inr ⟨j-xs.length*T.size d,by omega,l,p,by
    conv=>rhs;rw [show j=(j-xs.length*T.size d)+xs.length*T.size d by omega]
    rw [Nat.add_mul_mod_self_right]⟩
 refine ⟨fun j c v l p _=>?_,fun j y c c' v z L l p _ M N _=>?_,fun a cs h=>by cases h⟩
 ·rcases part j c v l p with ⟨_,f,g⟩|⟨i,_,f,g,I⟩
  ·exact ⟨(t.cl j c v f g (e j)).1,fun b m=>O b (.inl ((t.cl j c v f g (e j)).2 b m))⟩
  ·rw [<-I];exact ⟨(u.cl i c v f g (e i)).1,fun b m=>O b (.inr ((u.cl i c v f g (e i)).2 b m))⟩
 ·intro b m;rcases part j c v l p with ⟨_,f,g⟩|⟨i,X,f,g,I⟩<;>rcases part y c' z M N with ⟨_,A,B⟩|⟨J,Y,A,B,V⟩
  ·exact t.ap j y c c' v z L f g (e j) A B (e y) b m
  ·rw [<-V];exact fun q=>x b ((t.cl j c v f g (e j)).2 b m).1 ((u.cl J c' z A B (e J)).2 b q).1
  ·rw [<-I] at m;exact fun q=>x b ((t.cl y c' z A B (e y)).2 b q).1 ((u.cl i c v f g (e i)).2 b m).1
  ·rw [<-I] at m;rw [<-V];exact u.ap i J c c' v z (by omega) f g (e i) A B (e J) b m
end
section
variable {T:Tab} (P:Program) {R:Type}
end
section
variable {T:Tab} {P:Program} {C:Ctx T} {w w':World} {S S':List Nat} {φ φ':Nat->RA} {w0:World} {S0:Ow} {F:AF T} {H:List (Ent T.U)} {F':PF}
variable {ops:Array Oper} {Q:Exit->Act->World->Prop} {k n:Nat} {ds:List Deferred} {o:Oper}
def DC.one {e c v} (h:DC T w S e c v):v.oneCell'=true:=by
 obtain ⟨t,x⟩:=c;have a:jd6 T w S ⟨t,x⟩ v->v.oneCell'=true:=fun h=>by
  have:=CellsR.one (T:=T) (cs:= [⟨t,x⟩]) (vs:= [v]) (w:=w) (S:=S) ⟨rfl,fun j c u b d=>by
   cases j with
   |zero=>simp at b d;subst b;subst d;exact h
   |succ j=>simp at b⟩
  exact this v (by simp)
 cases t with
 |list t=>
  by_cases f:e=0
  ·exact a (h.1 f)
  ·obtain ⟨B,ad,cap,g,rfl,_⟩:=h.2 f;rfl
 |_=>exact a h
end
section
variable {T:Tab} (P:Program) (C:Ctx T) {R:Type}
def kz2 (_:Program) (_:Ctx T) (_:Oper) (_:St T) (_:St T->Option R):Option (Option R):=none
end
section
variable {T:Tab} {P:Program} {C:Ctx T} {w:World} {S:List Nat} {φ:Nat->RA} {w0:World} {S0:Ow} {F:AF T} {H:List (Ent T.U)} {F':PF}
variable {ops:Array Oper} {Q:Exit->Act->World->Prop} {k n:Nat} {ds:List Deferred} {o:Oper}
def qi3 {R:Type} {r:R} (hd:dec ops k n F'=some o) {K:St T->Option R} (hz:kz2 P C o ⟨F,H⟩ K=some (some r)) (h:Sim T w0 S0 ⟨F,H⟩ F' w S φ)
  (HK: ∀st,K st=some r->zx4 P ops Q (k+1) n ds w0 S0 st):WR P ops Q k n ds F' w:=by
 unfold kz2 at hz;cases hz
end
end Go.X
namespace Go.X
open Go.RowKit Go.V
def j8 {R:Type} (c:Bool) (x y:Option R):Option R:=if c=true then x else y
def zh9 {R:Type} {c:Bool} {x y:Option R} {r:R} (h:j8 c x y=some r):(c=true/\x=some r)\/(c=false/\y=some r):=by
 unfold j8 at h;cases c
 ·exact .inr ⟨rfl,by simpa using h⟩
 ·exact .inl ⟨rfl,by simpa using h⟩
section
variable {T:Tab} (P:Program) (C:Ctx T) {R:Type}
def kz1 (_:Program) (_:Ctx T) (_:Oper) (_:St T) (_:St T->Option R):Option (Option R):=none
end
section
variable {T:Tab} {P:Program} {C:Ctx T} {w w':World} {S S':List Nat} {φ φ':Nat->RA} {w0:World} {S0:Ow} {F:AF T} {H:List (Ent T.U)} {F':PF}
variable {ops:Array Oper} {Q:Exit->Act->World->Prop} {k n:Nat} {ds:List Deferred} {o:Oper}
def gj8 {d:Nat} {kd:IntKind} {x:Int}: ∀ {m:List (Int×T.U d)} {l:List MapEntry} (i:Nat),m.length=l.length->(∀(p:Nat) (y:Int) (u:T.U d) (e:MapEntry),m[p]?=some (y,u)->l[p]?=some e->e.key=.int kd y)->
  (Instr.findNow (.int kd) (.int kd x) l i=some none/\ye0 m x=false/\(∀a,zm9 m x a=m++ [(x,a)])/\zy5 m x=m/\(∀e∈l,e.key≠.int kd x)/\x∉m.map Prod.fst)\/
  ∃(j:Nat) (e:MapEntry) (u:T.U d),Instr.findNow (.int kd) (.int kd x) l i=some (some (i+j,e.val))/\l[j]?=some e/\m[j]?=some (x,u)/\e.key=.int kd x/\ye0 m x=true/\yg7 T (.user d) m x=u/\(∀a,zm9 m x a=m.set j (x,a))/\zy5 m x=m.eraseIdx j
 | [],[],_,_,_=>.inl ⟨rfl,rfl,fun _=>rfl,rfl,by simp,by simp⟩
 | [],_::_,_,h,_=>by simp at h
 |_::_,[],_,h,_=>by simp at h
 |(y,a)::r,e::l,i,hl,h=>by
  have h1:=h 0 y a e rfl rfl;by_cases hx:x=y
  ·subst hx;refine .inr ⟨0,e,a,?_,rfl,rfl,h1,by simp [ye0],(if_pos rfl:(if x=x then a else yg7 T (.user d) r x)=a),fun b=>by simp [zm9],by simp [zy5]⟩;unfold Instr.findNow;rw [h1];simp [Instr.sameNow]
  ·have hf:Instr.findNow (.int kd) (.int kd x) (e::l) i=Instr.findNow (.int kd) (.int kd x) l (i+1):=by
    rw [Instr.findNow,h1];simp only [Instr.sameNow,if_true];rw [show (x==y)=false from by simpa using hx]
   rcases gj8 (x:=x) (i+1) (by simpa using hl) (fun p z u e h2 h3=>h (p+1) z u e (by simpa using h2) (by simpa using h3)) with ⟨g1,g2,g4,g5,g6,g7⟩|⟨j,e',u,g1,g2,g3,g4,g5,g6,g7,g8⟩
   ·refine .inl ⟨hf.trans g1,by simp [ye0,hx,g2],fun b=>by simp [zm9,hx,g4],by simp [zy5,hx,g5],?_,by simp only [W8,Z0,not_or];exact ⟨hx,g7⟩⟩;intro q hq;rcases Z0.1 hq with rfl|hq
    ·rw [h1];simp;exact fun e=>hx e.symm
    ·exact g6 q hq
   ·exact .inr ⟨j+1,e',u,by rw [hf,g1];simp;omega,by simpa using g2,by simpa using g3,g4,by simp [ye0,hx,g5],(if_neg hx:(if x=y then a else yg7 T (.user d) r x)=yg7 T (.user d) r x).trans g6,fun b=>by simp [zm9,hx,g7],by simp [zy5,hx,g8]⟩
def PRel.find {r c s d m t l i} (h:PRel T w S φ r c s d m t l i) (x):
  (Instr.findNow (.int c) (.int c x) l 0=some none/\ye0 m x=false/\(∀a,zm9 m x a=m++ [(x,a)])/\zy5 m x=m/\(∀e∈l,e.key≠.int c x)/\x∉m.map Prod.fst)\/
  ∃(j:Nat) (e:MapEntry) (u:T.U d) (b:Nat),Instr.findNow (.int c) (.int c x) l 0=some (some (j,e.val))/\l[j]?=some e/\m[j]?=some (x,u)/\i[j]?=some b/\e.key=.int c x/\ye0 m x=true/\yg7 T (.user d) m x=u/\(∀a,zm9 m x a=m.set j (x,a))/\zy5 m x=m.eraseIdx j/\PV T w S φ r s d t x u e.val b:=by
 have f: ∀ {p:Nat},p<m.length-> ∃b,i[p]?=some b:=fun {p} A=>⟨i[p]'(by rw [<-h.lenb];exact A),Y0 _⟩;rcases gj8 (x:=x) 0 h.len (fun p y u e v B=>by obtain ⟨b,D⟩:=f (X2.1 v).1;exact (h.at_ p y u e b v B D).1) with g|⟨j,e,u,E,z,q,G,I,J,K,L⟩
 ·exact .inl g
 ·obtain ⟨b,f⟩:=f (X2.1 q).1;exact .inr ⟨j,e,u,b,by rw [E,W7],z,q,f,G,I,J,K,L,(h.at_ j x u e b q z f).2⟩
def vf2 {α:Type} {m:List (Int×α)} (e:(m.map Prod.fst).Nodup) {p q:Nat} {x:Int} {a b:α} (c:m[p]?=some (x,a)) (d:m[q]?=some (x,b)):p=q:=by
 have f:=(X2.1 c).1;have g:=(X2.1 d).1;refine (List.getElem_inj (h₀:=by simpa using f) (h₁:=by simpa using g) e).1 ?_;have h:=(X2.1 c).2;have i:=(X2.1 d).2;simp [h,i]
def jy9 {x y j} (h:y≠x):jt1 (some (y,j)) x=none:=if_neg h
def zy1 {x j}:jt1 (some (x,j)) x=some j:=if_pos rfl
def js9 {α} {m:List (Int×α)} {j x u a} (h:m[j]?=some (x,u)):(m.set j (x,a)).map Prod.fst=m.map Prod.fst:=by
 refine List.ext_getElem? fun q=>?_;have b:=(X2.1 h).1;rw [W0,W0];by_cases e:j=q
 ·subst e;rw [Q0 b,h];rfl
 ·rw [Z5 e]
def PRel.put {r D be d m l bs x u j b c} (h:PRel T w S φ r D be d m none l.toList bs) (hj:(φ j).ad=some ⟨b,0,none⟩) (X:MapKept.Stamped l c):
  ∃(l':Array MapEntry) (c':Nat) (bs':List Nat),MapKept.Stamped l' c'/\PRel T w S φ r D be d (zm9 m x u) (some (x,j)) l'.toList bs'/\ ∀ {K:World} {g:Nat} {t kt et:TypeId},jf6 P t=some (D,kt,et)->Mp K g l c->
   (Instr.mapUpdate t (.map (some g)) (.int D x) (.pointer (some ⟨b,0,none⟩))).run P K=.ok () {K with heap:=K.heap.setIfInBounds g (.map l' c')}:=by
 rcases h.find x with ⟨g1,g2,M,g4,g5,g6⟩|⟨p,e,u0,b0,g1,g2,M,g4,g5,g6,g7,g8,g9,g10⟩
 ·refine ⟨l.push {key:=.int D x,val:=.pointer (some ⟨b,0,none⟩),born:=c},c+1,bs++ [b],MapKept.stamped_push X g5,?_,fun {K g t kt et} N hm=>?_⟩
  ·rw [M,Array.toList_push];have A: ∀ {q:Nat} {y:Int} {v:T.U d},(m++ [(x,u)])[q]?=some (y,v)->(m[q]?=some (y,v)/\y≠x)\/(q=m.length/\y=x/\v=u):=fun {q y v} f=>by
    by_cases s:q<m.length
    ·rw [X8 s] at f;exact .inl ⟨f,fun e=>g6 (e▸U0.2 ⟨(y,v),X6 f,rfl⟩)⟩
    ·rw [Z2 (by omega)] at f;have:q-m.length=0:=by have:=(X2.1 f).1;simp at this;omega
     rw [this] at f;simp at f;exact .inr ⟨by omega,f.1.symm,f.2.symm⟩
   refine ⟨by simp [h.len],by simp [h.lenb],?_,fun q y v e1 O V B z=>?_,fun q q' y y' v v' O f V B z Y Z=>?_,fun y i hy=>?_⟩
   ·rw [V6,List.nodup_append];refine ⟨h.nd,by simp,fun a ha b L=>?_⟩;simp at L;subst L;exact fun e=>g6 (e▸ha)
   ·rcases A V with ⟨I,q2⟩|⟨rfl,rfl,rfl⟩
    ·have s:=(X2.1 I).1;rw [X8 (by rw [<-h.len];exact s)] at B;rw [X8 (by rw [<-h.lenb];exact s)] at z;obtain ⟨k1,k2,k3,k4⟩:=h.at_ q y v e1 O I B z;exact ⟨k1,k2,fun i E=>(by rw [jy9 (Ne.symm q2)] at E;cases E),fun _=>k4 rfl⟩
    ·rw [h.len] at B;simp at B;rw [h.lenb] at z;simp at z;subst B;subst z;exact ⟨rfl,rfl,fun i E=>(by rw [zy1] at E;cases E;exact hj),fun hn=>(by rw [zy1] at hn;cases hn)⟩
   ·rcases A V with ⟨I,q2⟩|⟨_,rfl,_⟩
    ·rcases A B with ⟨r1,r2⟩|⟨_,rfl,_⟩
     ·have s:=(X2.1 I).1;have hlt':=(X2.1 r1).1;rw [X8 (by rw [<-h.lenb];exact s)] at Z;rw [X8 (by rw [<-h.lenb];exact hlt')];exact h.ap q q' y y' v v' O f I r1 rfl rfl Z
     ·rw [zy1] at Y;cases Y
    ·rw [zy1] at z;cases z
   ·simp only [X0,X7] at hy;rw [<-hy.1];simp
  ·obtain ⟨hu,G⟩:=zf4 (zj9 N);have L:K.heap[g]?=some (.map l c):=hm;simp [Instr.mapUpdate,run_underlying hu,MapKept.run_getObj_map L,MapKept.run_checkKey G (show MapKept.IsKey (.int D) (.int D x) from rfl),MapKept.run_findKey G g1,MapKept.run_setObj_map _ L,Result.andThen]
 ·have J:l[p]?=some e:=by simpa using g2
  have s:p<l.size:=by have:=(X2.1 g2).1;simpa using this
  have hl':(l.modify p fun e=> {e with key:=.int D x,val:=.pointer (some ⟨b,0,none⟩)}).toList=l.toList.modify p fun e=> {e with key:=.int D x,val:=.pointer (some ⟨b,0,none⟩)}:=by simp
  refine ⟨l.modify p fun e=> {e with key:=.int D x,val:=.pointer (some ⟨b,0,none⟩)},c,bs.set p b,MapKept.stamped_modify X p _ (fun _ _=>rfl) fun e1 _ W=>?_,?_,fun {K g t kt et} N hm=>?_⟩
  ·rw [J] at W;have:=X5 W;subst this;exact g5.symm
  ·rw [hl',g8];have hpl:=(X2.1 M).1;have A: ∀ {q:Nat} {y:Int} {v:T.U d},(m.set p (x,u))[q]?=some (y,v)->(q≠p/\m[q]?=some (y,v)/\y≠x)\/(q=p/\y=x):=fun {q y v} f=>by
    by_cases W:p=q
    ·subst W;rw [Q0 hpl] at f;simp at f;exact .inr ⟨rfl,f.1.symm⟩
    ·rw [Z5 W] at f;exact .inl ⟨Ne.symm W,f,fun e=>W (by subst e;exact vf2 h.nd M f)⟩
   refine ⟨by simp [h.len],by simp [h.lenb],by rw [js9 M];exact h.nd,fun q y v e1 O V B z=>?_,fun q q' y y' v v' O f V B z Y Z=>?_,fun y i hy=>?_⟩
   ·rcases A V with ⟨q0,I,q2⟩|⟨rfl,rfl⟩
    ·rw [List.getElem?_modify_ne _ _ (Ne.symm q0)] at B;rw [Z5 (Ne.symm q0)] at z;obtain ⟨k1,k2,k3,k4⟩:=h.at_ q y v e1 O I B z;exact ⟨k1,k2,fun i E=>(by rw [jy9 (Ne.symm q2)] at E;cases E),fun _=>k4 rfl⟩
    ·rw [List.getElem?_modify_eq,g2] at B;rw [Q0 (by rw [<-h.lenb];exact hpl)] at z;simp at B z;subst B;subst z;exact ⟨rfl,rfl,fun i E=>(by rw [zy1] at E;cases E;exact hj),fun hn=>(by rw [zy1] at hn;cases hn)⟩
   ·rcases A V with ⟨q0,I,q2⟩|⟨_,rfl⟩
    ·rcases A B with ⟨r0,r1,r2⟩|⟨_,rfl⟩
     ·rw [Z5 (Ne.symm q0)] at Z;rw [Z5 (Ne.symm r0)];exact h.ap q q' y y' v v' O f I r1 rfl rfl Z
     ·rw [zy1] at Y;cases Y
    ·rw [zy1] at z;cases z
   ·simp only [X0,X7] at hy;rw [js9 M,<-hy.1];exact U0.2 ⟨_,X6 M,rfl⟩
  ·obtain ⟨hu,G⟩:=zf4 (zj9 N);have L:K.heap[g]?=some (.map l c):=hm;have g2'':l[p]=e:=by rw [Z6 s] at J;exact X5 J
   simp [Instr.mapUpdate,run_underlying hu,MapKept.run_getObj_map L,MapKept.run_checkKey G (show MapKept.IsKey (.int D) (.int D x) from rfl),MapKept.run_findKey G g1,MapKept.run_setObj_map _ L,Result.andThen,J,g2'',g5,MapKept.run_keyThatStays (show MapKept.IsKey (.int D) (.int D x) from rfl)]
def PRel.out {r G be d m X l Z x c} (h:PRel T w S φ r G be d m X l.toList Z) (hop: ∀y j,X=some (y,j)->y=x) (O:MapKept.Stamped l c):
  ∃(l':Array MapEntry) (bs':List Nat),MapKept.Stamped l' c/\PRel T w S φ r G be d (zy5 m x) none l'.toList bs'/\ ∀ {A:World} {g:Nat} {t kt et ty':TypeId} {at2:List TypeId},jf6 P t=some (G,kt,et)->Mp A g l c->
   ∃w2,(Builtin.delete_ (t::at2).toArray ty' #[.map (some g),.int G x]).run P A=.ok (.tuple #[]) w2/\(w2=A/\l'=l\/w2= {A with heap:=A.heap.setIfInBounds g (.map l' c)}):=by
 have b: ∀y,y≠x->jt1 X y=none:=fun y V=>by
  cases X with
  |none=>rfl
  |some p=>obtain ⟨z,j⟩:=p;rw [hop z j rfl];exact jy9 (Ne.symm V)
 rcases h.find x with ⟨g1,g2,g3,g4,g5,g6⟩|⟨p,e,u0,b0,g1,g2,g3,g4,g5,g6,g7,g8,g9,g10⟩
 ·have s: ∀ {q:Nat} {y:Int} {v:T.U d},m[q]?=some (y,v)->y≠x:=fun {q y v} I e=>g6 (e▸U0.2 ⟨(y,v),X6 I,rfl⟩);refine ⟨l,Z,O,?_,fun {A g t kt et ty' at2} J hm=>⟨A,?_,.inl ⟨rfl,rfl⟩⟩⟩
  ·rw [g4];refine ⟨h.len,h.lenb,h.nd,fun q y v e1 K u B Y=>?_,fun q L y W v v' K I u B _ _=>h.ap q L y W v v' K I u B (b y (s u)) (b W (s B)),fun y j V=>(by cases V)⟩;obtain ⟨k1,k2,k3,k4⟩:=h.at_ q y v e1 K u B Y;exact ⟨k1,k2,fun i hi=>(by cases hi),fun _=>k4 (b y (s u))⟩
  ·obtain ⟨hu,D⟩:=zf4 (zj9 J);have M:A.heap[g]?=some (.map l c):=hm;have N:A.heap.setIfInBounds g (.map l c)=A.heap:=by
    refine Array.ext_getElem? fun q=>?_;by_cases e:g=q
    ·subst e;have:=(Y3.1 M).1;rw [Array.getElem?_setIfInBounds_self_of_lt this,M]
    ·rw [Array.getElem?_setIfInBounds_ne e]
   simp [Builtin.delete_,run_underlying hu,MapKept.run_getObj_map M,MapKept.run_checkKey D (show MapKept.IsKey (.int G) (.int G x) from rfl),MapKept.run_findKey D g1,MapKept.run_setObj_map _ M,Result.andThen,N]
 ·have hlt:p<l.size:=by have:=(X2.1 g2).1;simpa using this
  refine ⟨l.eraseIdxIfInBounds p,Z.eraseIdx p,MapKept.stamped_erase O p,?_,fun {A g t kt et ty' at2} J hm=>⟨_,?_,.inr rfl⟩⟩
  ·have hel:(l.eraseIdxIfInBounds p).toList=l.toList.eraseIdx p:=by
    unfold Array.eraseIdxIfInBounds;rw [dif_pos hlt,Array.toList_eraseIdx]
   rw [hel,g9]
   let f:Nat->Nat:=fun q=>if q<p then q else q+1
   have fe: ∀ {α:Type} (a:List α) (q:Nat),(a.eraseIdx p)[q]?=a[f q]?:=fun a q=>by
    rw [List.getElem?_eraseIdx];simp only [f];split<;>rfl
   have fp: ∀q,f q≠p:=fun q=>by simp only [f];split<;>omega
   have fi: ∀q L,q≠L->f q≠f L:=fun q L I=>by simp only [f];split<;>split<;>omega
   have s: ∀ {q:Nat} {y:Int} {v:T.U d},m[f q]?=some (y,v)->y≠x:=fun {q y v} I e=>by
    subst e;exact fp q (vf2 h.nd I g3)
   have E:=(X2.1 g3).1;refine ⟨by rw [T1 E,T1 (by rw [<-h.len];exact E),h.len],by rw [T1 E,T1 (by rw [<-h.lenb];exact E),h.lenb],?_,fun q y v e1 K u B Y=>?_,fun q L y W v v' K I u B _ _ h5=>?_,fun y j V=>by cases V⟩
   ·exact h.nd.sublist ((List.eraseIdx_sublist _ _).map _)
   ·rw [fe] at u B Y;obtain ⟨k1,k2,k3,k4⟩:=h.at_ _ y v e1 K u B Y;exact ⟨k1,k2,fun i hi=>(by cases hi),fun _=>k4 (b y (s u))⟩
   ·rw [fe] at u B h5⊢;exact h.ap _ _ y W v v' K (fi q L I) u B (b y (s u)) (b W (s B)) h5
  ·obtain ⟨hu,D⟩:=zf4 (zj9 J);have M:A.heap[g]?=some (.map l c):=hm;simp [Builtin.delete_,run_underlying hu,MapKept.run_getObj_map M,MapKept.run_checkKey D (show MapKept.IsKey (.int G) (.int G x) from rfl),MapKept.run_findKey D g1,MapKept.run_setObj_map _ M,Result.andThen]
def qi1 {R:Type} {r:R} (hd:dec ops k n F'=some o) {K:St T->Option R} (hz:kz1 P C o ⟨F,H⟩ K=some (some r)) (h:Sim T w0 S0 ⟨F,H⟩ F' w S φ)
  (HK: ∀st,K st=some r->zx4 P ops Q (k+1) n ds w0 S0 st):WR P ops Q k n ds F' w:=by
 unfold kz1 at hz;cases hz
end
end Go.X
