import Derived.Test.YthhhfnfgmijggaaGreatA4
import Derived.Laws.BytesString
import Derived.Laws.IdiomStrings
set_option linter.defProp false
namespace Go.X
open Go.RowKit Go.V
section
variable {T:Tab} {P:Program} {C:Ctx T} {w w':World} {S S':List Nat} {φ φ':Nat->RA} {w0:World} {S0:Ow} {F:AF T} {H:List (Ent T.U)} {F':PF}
variable {ops:Array Oper} {Q:Exit->Act->World->Prop} {k n:Nat} {ds:List Deferred} {o:Oper}
def yu1 (Q:Exit->Act->World->Prop) (n:Nat) (ds:List Deferred) (w0:World) (S0:Ow) (a:AV T.U) (st:St T):Prop:=
 ∀e d S1 b v,Sim T w0 S0 st e d S1 b->VR T d S1 b a v->okA st.H a-> ∀c,Fr n ds e c->Q (.panic [{v:=v,recovered:=false}]) c d
def VRL.append: ∀ {as a us vs},VRL T w S φ as us->VRL T w S φ a vs->VRL T w S φ (as++a) (us++vs)
 | [],_,[],_,_,h=>h
 | [],_,_::_,_,h,_=>h.elim
 |_::_,_,[],_,h,_=>h.elim
 |_::_,_,_::_,_,h,b=>⟨h.1,VRL.append h.2 b⟩
def ym2: ∀(as b:List (AV T.U)),v5 (as++b)=v5 as++v5 b
 | [],_=>rfl
 |a::r,b=>by rw [K9,v5,ym2 r b,v5,Q4]
def vs5: ∀ {as},as.all zh4=true->(∀i∈v5 as,i<H.length)-> ∀a∈as,okA H a
 | [],_,_,a,c=>by cases c
 |b::r,h,d,a,c=>by
  simp only [V1,X3] at h;rw [v5] at d;rcases Z0.1 c with rfl|c
  ·exact zd3 h.1 fun i e=>d i (X4.2 (.inl e))
  ·exact vs5 h.2 (fun i e=>d i (X4.2 (.inr e))) a c
def yc7 {f} (h:zm3 P f=true) (args w):(callFunc f args).run P w=.ok (.enter f args) w:=by
 unfold zm3 at h;split at h
 ·rename_i fn a;simp only [X3,V4,beq_eq_false_iff_ne,ne_eq] at h;have b:fn.body≠none:=by intro e;rw [e] at h;cases h.2
  simp [callFunc,a,h.1,b]
 ·cases h
def jn7 {c f g first b as} (m:o.op=.call c) (s:c.callee=.value f) (q:aev T F f=some (.fn (.func g) first b)) (r:zx4 T F c.args.toList=some as)
  (t:zm3 P g=true) (e:(first++as++b).all zh4=true) (h:Sim T w0 S0 ⟨F,H⟩ F' w S φ):
  ∃vs:List Value,VRL T w S φ (first++as++b) vs/\(∀a∈first++as++b,okA H a)/\ ∀p,(execOp (evD F') o).run P p=.ok (.enter g vs.toArray) p:=by
 obtain ⟨X,u,z,A,rfl,v,x⟩:=v4 h.fr q;have y:=yg5 h.fr r;have j: ∀i∈v5 (first++as++b),i<H.length:=by
  intro i d;rw [ym2,ym2] at d;have l:=(zc9 h q).1;rcases X4.1 d with d|d
  ·rcases X4.1 d with d|d
   ·exact l i (by rw [AV.ids];exact X4.2 (.inl d))
   ·exact jt0 h r i d
  ·exact l i (by rw [AV.ids];exact X4.2 (.inr d))
 refine ⟨_,(v.append y).append x,vs5 e j,fun p=>?_⟩;simp [execOp,m,resolve,s,v6 u,Deferred.ofValue,invoke,yc7 t]
def ku7 {R:Type} {r:R} {c:Call} {f:Operand} {g:FuncId} {first d as:List (AV T.U)} {cs:CallSpec T} (B:dec ops k n F'=some o) (p:o.op=.call c) (D:c.callee=.value f) (E:aev T F f=some (.fn (.func g) first d)) (G:zx4 T F c.args.toList=some as)
  (I:zm3 P g=true) (J:u0 T P g cs) (e:(first++as++d).all zh4=true) {q s:AV T.U->List (Ent T.U)->Option R} (t:cs.call (first++as++d) H q s=some r) (h:Sim T w0 S0 ⟨F,H⟩ F' w S φ)
  (K: ∀b H1,q b H1=some r->zz0 P ops Q (k+1) n ds w0 S0 (⟨zb2 T F o.dst b,H1⟩:St T)) (i: ∀b H1,s b H1=some r->yu1 Q n ds w0 S0 b (⟨F,H1⟩:St T)):WR P ops Q k n ds F' w:=by
 obtain ⟨vs,L,M,N⟩:=jn7 p D E G I e h;refine .enter (f:=g) (args:=vs.toArray) B (N w) (J _ H q s r t w0 S0 F F' w S φ h _ L M) ?_ ?_ ?_
 ·rintro v j ⟨a,H1,u,S1,l,x,y,z⟩
  exact K a H1 u _ _ ⟨S1,l,x.slot y z⟩
 ·rintro V j ⟨a,H1,u,v,rfl,S1,l,x,y,z⟩ A m
  exact i a H1 u _ _ _ _ _ x y z A m
 ·intro j O;exact O.elim
def jz7 (kk z):okA H (cI T kk z):=⟨fun i a=>(by cases a),trivial⟩
def kc6 {t a z} (d:lenOf P t H a=some z) (h:Sim T w0 S0 ⟨F,H⟩ F' w S φ) {v} (c:VR T w S φ a v) (ty w1):(Builtin.len_ #[t] ty #[v]).run P w1=.ok (.int .i64 z) w1:=by
 unfold lenOf at d;split at d
 ·rename_i e i;split at d
  ·rename_i m b;simp only [X0] at d;subst d;have j: ∃ad cap,v=.slice ad m cap:=by
    unfold lenA at b;split at b
    ·simp only [X0] at b;subst b;have c:CR T w S _ _ v:=c;cases c;exact ⟨_,_,rfl⟩
    ·split at b
     ·rename_i q r xs l;simp only [X0] at b;subst b;rw [VR] at c;subst c;obtain ⟨B,f,_,p,_⟩:=h.ents _ _ l;rw [p];exact ⟨_,_,rfl⟩
     ·rename_i l;simp only [X0] at b;subst b;rw [VR] at c;subst c;obtain ⟨B,f,_,p,_⟩:=h.ents _ _ l;rw [p];exact ⟨_,_,rfl⟩
     ·cases b
    ·simp only [X0] at b;subst b;obtain ⟨ad,rfl,_⟩:=c;exact ⟨_,_,rfl⟩
    ·simp only [X0] at b;subst b;obtain ⟨g,ad,_,rfl,_⟩:=c;exact ⟨_,_,rfl⟩
    ·simp only [X0] at b;subst b;rw [VR] at c;subst c;exact ⟨_,_,rfl⟩
    ·cases b
   obtain ⟨ad,cap,rfl⟩:=j;simp [Builtin.len_,run_underlying i,goInt]
  ·cases d
 ·rename_i i;split at d
  ·simp only [X0] at d;subst d;have:=zq5 c;subst this;simp [Builtin.len_,run_underlying i,goInt]
  ·cases d
 ·cases d
def kx3 {as a} (b:minA T as=some a) {vs} (c:VRL T w S φ as vs) (t ty): ∃v,(∀d,(Builtin.min_ t ty vs.toArray).run P d=.ok v d)/\VR T w S φ a v/\okA H a:=by
 unfold minA at b;split at b
 ·simp only [X0] at b;subst b
  match vs,c with
  | [v],c=>have:=w8 c.1;subst this;exact ⟨_,fun d=>by simp [Builtin.min_],VR.int _ _,jz7 _ _⟩
 ·split at b
  ·rename_i e;have:=zb8 e;subst this;simp only [X0] at b;subst b
   match vs,c with
   | [u,v],c=>have:=w8 c.1;subst this;have:=w8 c.2.1;subst this;exact ⟨_,fun d=>by simp [Builtin.min_,Builtin.min2,zo3],VR.int _ _,jz7 _ _⟩
  ·cases b
 ·cases b
def kx2 {as a} (b:maxA T as=some a) {vs} (c:VRL T w S φ as vs) (t ty): ∃v,(∀d,(Builtin.max_ t ty vs.toArray).run P d=.ok v d)/\VR T w S φ a v/\okA H a:=by
 unfold maxA at b;split at b
 ·simp only [X0] at b;subst b
  match vs,c with
  | [v],c=>have:=w8 c.1;subst this;exact ⟨_,fun d=>by simp [Builtin.max_],VR.int _ _,jz7 _ _⟩
 ·split at b
  ·rename_i e;have:=zb8 e;subst this;simp only [X0] at b;subst b
   match vs,c with
   | [u,v],c=>have:=w8 c.1;subst this;have:=w8 c.2.1;subst this;exact ⟨_,fun d=>by simp [Builtin.max_,Builtin.max2,zi1],VR.int _ _,jz7 _ _⟩
  ·cases b
 ·cases b
def zg3 {α} {a:Array α} {x} (h:a.toList= [x]):a= #[x]:=by rw [<-Array.toArray_toList (xs:=a),h]
def qs4 {a b t e} (h:jb2 T P a t e=some b): ∀i∈b.ids,i∈a.ids:=by
 unfold jb2 at h;split at h
 ·split at h
  ·cases h
  ·split at h
   ·split at h
    ·simp only [X0] at h;subst h;intro i d;simpa [AV.ids,v5] using d
    ·simp only [X0] at h;subst h;intro i d;simpa [AV.ids] using d
   ·split at h
    ·rename_i z c;simp only [X0] at h;subst h;unfold vl7 at c;split at c
     ·split at c
      ·simp only [X0] at c;subst c;intro i d;simp [AV.ids,v5,qk2] at d
      ·cases c
     ·cases c
    ·cases h
 ·cases h
def qs5 {a b t xt r} (h:jb2 T P a t r=some b) {v} (y:VR T w S φ a v): ∃u,(∀g,(Instr.typeAssert v xt t r).run P g=.ok u g)/\VR T w S φ b u:=by
 unfold jb2 at h;split at h
 ·rename_i d A x l;obtain ⟨u,rfl,j⟩:=y;split at h
  ·cases h
  ·rename_i c;split at h
   ·rename_i m;have:=X1 m;subst this;split at h
    ·simp only [X0] at h;subst h;refine ⟨.tuple #[u,.bool true],fun g=>?_,⟨_,rfl,j,VR.bool _,trivial⟩⟩;cases d<;>first|(exact (c _ rfl).elim)|simp [Instr.typeAssert,run_underlying l]
    ·simp only [X0] at h;subst h;refine ⟨u,fun g=>?_,j⟩;cases d<;>first|(exact (c _ rfl).elim)|simp [Instr.typeAssert,run_underlying l]
   ·rename_i m;have p:A≠t:=by intro e;subst e;simp at m
    split at h
    ·rename_i z f;simp only [X0] at h;subst h;unfold vl7 at f;split at f
     ·rename_i i B;split at f
      ·rename_i s q;simp only [X0] at f;subst f;refine ⟨.tuple #[s,.bool false],fun g=>?_,⟨_,rfl,qk3 T s,VR.bool _,trivial⟩⟩;cases d<;>first|(exact (c _ rfl).elim)|simp [Instr.typeAssert,run_underlying l,p,zeroValue,typeInfo,B,q]
      ·cases f
     ·cases f
    ·cases h
 ·cases h
def CellsR.cons {c cs vs} (h:CellsR T w S (c::cs) vs): ∃v r,vs=v::r/\yu0 T w S c v/\CellsR T w S cs r:=by
 obtain ⟨a,b⟩:=h;cases vs with
 |nil=>cases a
 |cons v r=>exact ⟨v,r,rfl,b 0 c v rfl rfl,by simpa using a,fun j c' d e f=>b (j+1) c' d (by simpa using e) (by simpa using f)⟩
def qb2: ∀(xs) {a},CellsR T w S (xs.flatMap (zd1 T (.int .u8))) a->a=List.map (fun x:Int=>Value.int .u8 x) xs
 | [],a,h=>by
  obtain ⟨b,_⟩:=h;cases a with
  |nil=>rfl
  |cons _ _=>cases b
 |x::r,a,h=>by
  have h:CellsR T w S (⟨.int .u8,x⟩::r.flatMap (zd1 T (.int .u8))) a:=h;obtain ⟨v,vs,rfl,b,c⟩:=h.cons;rw [qb2 r c];have:=w8 (T:=T) (φ:=fun _=>⟨none,0,0,[]⟩) (v:=v) b;rw [this];rfl
def qg5 {rd ids q} (h:Sim T w0 S0 ⟨F,H⟩ F' w S φ) (v:Chg S w q) (f:Same φ rd w q) (j: ∀i∈ids,i∈rd):ji0 T q S φ H ids:=by
 intro i G J K r;have a:=h.ents i _ K;cases J with
 |row I Y ys=>
  obtain ⟨B,l,s,u,x,y,L⟩:=a;refine ⟨B,l,?_,u,U5 x v.size,y.chg T v (fun _ h=>h) (fun b z=>.inl z),L⟩;rcases s.cases with ⟨M,N,O,R⟩|⟨c,p,U,d,A,D,E,V⟩
  ·rw [M,N,O,R];exact Own.nil _ _ _ _
  ·have X:=f i (j i G) _ p d.lt;have e:Blk q (bk (φ i).ad) c I:=X.trans d;rw [p];exact Own.ofBlk e U A D E _ V
 |blk I cs=>
  obtain ⟨g,c,s,u,x,y⟩:=a;exact ⟨g,c,s,(f i (j i G) _ s u.lt).trans u,x,y.chg T v (fun _ h=>h) (fun b z=>.inl z)⟩
 |map k es=>cases r
 |tmap k t m=>cases r
 |drow _ _ _ _ _=>cases r
 |gone=>cases r
def kb0 {Z:Prop} {R:Type} {r:R} {rd:List Nat} {s d e:TypeId} {x:Operand} (A:o.op=.convert s d x) {a:AV T.U} (hx:aev T F x=some a) (hs:P.underlying s=some (.slice e)) (I:P.underlying d=some .string) (he:P.underlying e=some (.int .u8))
  {K0:AV T.U->Option R} (J:rdF T H (.list (.int .u8)) a (fun xs=>K0 (.cell ⟨.str,yy0 xs⟩))=some r) (L: ∀i∈a.ids,i∈rd) (h:Sim T w0 S0 ⟨F,H⟩ F' w S φ) (K: ∀a v,K0 a=some r->QR P F' o S φ rd w v->VR T w S φ a v->okA H a->Z):Z:=by
 obtain ⟨X,h1,h2⟩:=v4 h.fr hx;obtain ⟨xs,hK,B⟩:=jr0 (t:=.list (.int .u8)) J;refine K _ (.string (yy0 xs)) hK ?_ (CR.str _) (zo6 rfl (by intro _ _ _ _ e;cases e));intro g hc M;have m:ji0 T g S φ H a.ids:=qg5 h hc M L;obtain ⟨N,p,hv⟩:=vx5 (w:=g) (t:=.list (.int .u8)) (K:=some) (by rw [B]) m (h2.chg T hc (fun _ h=>h) fun b hb=>.inl hb) φ;have p:N=xs:=X5 p;rw [p] at hv;have q:CR T g [] (.list (.int .u8)) xs X:=hv;have O: ∃ad cap,X=.slice ad (List.length (α:=Int) xs) cap:=by
  cases q with
  |list _ _ ad cap u _ _ _ _ _=>exact ⟨ad,cap,rfl⟩
 obtain ⟨ad,cap,rfl⟩:=O;obtain ⟨_,D,l,V,Y⟩:=ju1 q;have c:=qb2 _ Y;have z:execOp (evD F') o=(do return Next.value (<-convert s d (evD F' x))):=by
  cases o;simp only at A;subst A;rfl
 have hcv:(convert s d (.slice ad (List.length (α:=Int) xs) cap)).run P g=.ok (.string (yy0 xs)) g:=by
  rw [run_convert_bytes_string g s d e ad _ cap hs he I];cases had:ad with
  |none=>
   have:xs= []:=T3 (D had).1;subst this;rfl
  |some a0=>
   subst had;have f:=run_loadCells_list (P:=P) (w:=g) a0 l (fun j v hj=>by
    have:=(V j v hj).2;by_cases E:xs= []
    ·subst E;rw [c] at hj;cases hj
    ·cases q with
     |list _ _ _ _ u hcap hnil' G _ _=>
      obtain ⟨e1,_,_⟩:=G E;simp only [X0] at e1;rw [e1,Addr.add];split
      ·rename_i h0;simpa [h0] using this
      ·simpa using this)
   have hl:l.length=List.length (α:=Int) xs:=by rw [c];exact V9 ..
   rw [hl,c] at f;exact run_bytesToString g a0 _ cap xs f
 rw [z,v6 h1];show ((convert s d (.slice ad (List.length (α:=Int) xs) cap)) >>= fun y=>pure (Next.value y)).run P g=_;rw [Sem.run_bind,hcv];rfl
def ku6 {g e s b cap} (p:w.heap[g]?=some (.cells (bytesRow b cap) e s)) (i:b.size<=cap) (t:g∉S):CR T w S (.list (.int .u8)) (zv4 b) (.slice (some ⟨g,0,none⟩) b.size cap):=by
 have q:List.length (α:=den T.U (.int .u8)) (zv4 b)=b.size:=by
  exact qi8 b
 have l:=(Y3.1 p).1;have a: ∀(k j:Nat) (c:Cell T.U),((zv4 b:List (den T.U (.int .u8)))[k]?.map fun x=>(zd1 T (.int .u8) x)[j]?)=some (some c)-> ∃y:UInt8,b.data[k]?=some y/\j=0/\c=⟨.int .u8,(y.toNat:Int)⟩:=by
  intro k j c h;have h:((b.data.toList.map fun b=>(b.toNat:Int))[k]?.map fun x=>([⟨.int .u8,x⟩]:List (Cell T.U))[j]?)=some (some c):=h;rw [W4,Array.getElem?_toList] at h;cases f:b.data[k]? with
  |none=>rw [f] at h;cases h
  |some y=>
   rw [f] at h;have h:([⟨.int .u8,(y.toNat:Int)⟩]:List (Cell T.U))[j]?=some c:=X5 h;cases j with
   |zero=>exact ⟨y,rfl,rfl,(X5 h).symm⟩
   |succ j=>cases h
 have m:=CR.list (T:=T) (w:=w) (S:=S) (.int .u8) (zv4 b) (some ⟨g,0,none⟩) cap (fun k _=>.int .u8 (((b.data[k]?).getD 0).toNat:Int)) (by rw [q];exact i) (fun h=>by cases h) (fun _=>⟨rfl,l,t⟩)
  (fun k j c h=>by
   obtain ⟨y,d,r,_⟩:=a k j c h;subst r;have f:=(Y3.1 d).1;show w.cell? ⟨g,0+(k*1+0),none⟩=_;have u:0+(k*1+0)=k:=by omega
   rw [u];unfold World.cell?;simp only [p];show (bytesRow b cap)[k]?=_;unfold bytesRow;rw [Array.getElem?_append_left (by rw [Array.size_map];exact f),Array.getElem?_map,d];rfl)
  (fun k j c h=>by
   obtain ⟨y,d,r,rfl⟩:=a k j c h;show CR T w S (.int .u8) (y.toNat:Int) (.int .u8 (((b.data[k]?).getD 0).toNat:Int));rw [d];exact .int _ _)
 rwa [q] at m
def CR.same (m:w.heap.size<=w'.heap.size) (p: ∀(a:Addr) (v:Value),w.cell? a=some v->w'.cell? a=some v) {t x v} (h:CR T w S t x v):CR T w' S t x v:=by
 induction h with
 |int k x=>exact .int k x
 |bool b=>exact .bool b
 |str s=>exact .str s
 |list e xs ad cap u f g i d l q=>
  refine .list e xs ad cap u f g (fun r=>?_) (fun k j c y=>p _ _ (d k j c y)) q;obtain ⟨z,A,B⟩:=i r;exact ⟨z,V6 A m,B⟩
def Sim.less (h:Sim T w0 S0 ⟨F,H⟩ F' w S φ) {g} (c: ∀(j:Nat) (e:Ent T.U),H[j]?=some e->e.live=true-> ∀a,At (φ j) a->a.block≠g) (r:g∈S0.chg\/w0.heap.size<=g):Sim T w0 S0 ⟨F,H⟩ F' w (S.filter fun b=> !Nat.beq b g) φ:=by
 have d: ∀b∈S.filter (fun b=> !Nat.beq b g),b∈S:=fun b i=>(W3.1 i).1;have m: ∀ {b:Nat},b∈S->b≠g->b∈S.filter fun b=> !Nat.beq b g:=fun i s=>W3.2 ⟨i,by cases hq:Nat.beq _ g with|true=>exact absurd (X1 hq) s|false=>rfl⟩;refine ⟨fun j a l=>?_,h.ids,h.chg,fun b i=>h.own b (d b i),fun b i t u=>m (h.ex b i t u) (fun e=>?_),fun j f p q a l=>⟨m (h.lives j f p q a l).1 (c j f p q a l),(h.lives j f p q a l).2⟩,h.pins,fun j f p=>?_,h.eids,h.apart⟩
 ·obtain ⟨v,x,y⟩:=h.fr j a l;exact ⟨v,x,y.chg T (Chg.refl [] w) (by simp) fun b i=>.inl (d b i)⟩
 ·subst e;rcases r with r|r
  ·exact t r
  ·omega
 ·exact (h.ents j f p).chg T (Chg.refl [] w) (by simp) (fun b i=>.inl (d b i)) fun q a l=>⟨by simp,m (zh2 h p q l) (c j f p q a l)⟩
def qt2 (w:World) (a:Addr) (n:Nat) (b:Addr):(w.freeze a n).cell? b=w.cell? b:=by
 unfold World.freeze;split
 ·rfl
 ·unfold World.cell?;simp only [Array.getElem?_modify];by_cases c:a.block=b.block
  ·rw [if_pos c];cases hq:w.heap[b.block]? with
   |none=>rfl
   |some q=>cases q<;>rfl
  ·rw [if_neg c]
def vg4 (w g k n):Chg [g] w (w.freeze ⟨g,k,none⟩ n):=by
 unfold World.freeze;split
 ·exact Chg.refl [g] w
 ·refine ⟨rfl,rfl,rfl,by simp,fun j b a=>?_⟩;simp only [Q6] at a;show (w.heap.modify g _)[j]?=_;rw [Array.getElem?_modify,if_neg (Ne.symm a)]
def ka9 {s e x} (hd:dec ops k n F'=some o) (u:o.op=.convert s s x) {i} (hx:aev T F x=some (.own i)) (hs:P.underlying s=some (.slice e)) (m:P.underlying e=some (.int .u8)) {et xs} (G:H[i]?=some (.row et (.int .u8) xs)) (L:xs≠ [])
  (h:Sim T w0 S0 ⟨F,H⟩ F' w S φ) (K:zz0 P ops Q (k+1) n ds w0 S0 (⟨zb2 T F o.dst (.cell ⟨.list (.int .u8),xs⟩),H.set i .gone⟩:St T)):WR P ops Q k n ds F' w:=by
 obtain ⟨X,h1,R⟩:=v4 h.fr hx;rw [VR] at R;subst R;have p:=h.ents i _ G;obtain ⟨B,V,q1,q2,q3,q4,q5⟩:=id p;have hg: ∃g,(φ i).ad=some ⟨g,0,none⟩:=by
  rcases q1.cases with ⟨_,Y,_⟩|⟨c,d,_⟩
  ·rw [q2] at Y;exact absurd (T3 Y) L
  ·exact ⟨_,d⟩
 obtain ⟨g,d⟩:=hg;have z: ∀w,(underlying s).run P w=.ok (.slice e) w:=run_underlying hs;have A: ∀w,(underlying e).run P w=.ok (.int .u8) w:=run_underlying m;have D: ∃w',(convert s s (.slice (φ i).ad (φ i).n (φ i).cap)).run P w=.ok (.slice (φ i).ad (φ i).n (φ i).cap) w'/\Chg [g] w w'/\ ∀b,w'.cell? b=w.cell? b:=by
  rw [d];cases hsh:w.shape? g with
  |none=>exact ⟨w,by simp [convert,z,A,markStringish,hsh,Result.andThen],Chg.refl [g] w,fun _=>rfl⟩
  |some q=>exact ⟨w.freeze ⟨g,q.2,none⟩ 1,by simp [convert,z,A,markStringish,hsh,Result.andThen],vg4 w g _ 1,qt2 w _ 1⟩
 obtain ⟨w',hr,Z,r⟩:=D;have h3:=h.upd (w':=w') (i:=i) (e:=.gone) G rfl (Tc:= [g]) Z (fun b I=>⟨_,.inl d,by simp at I;exact I.symm⟩) trivial (fun j hj=>by cases hj) (by intro _ _ _ h;cases h);have t: ∀(j:Nat) (e:Ent T.U),(H.set i .gone)[j]?=some e->e.live=true->j≠i/\H[j]?=some e:=by
  intro j e m J;by_cases l:j=i
  ·subst l;have M:=(X2.1 m).1;rw [Q0 (by simpa using M)] at m;simp only [X0] at m;subst m;cases J
  ·rw [Z5 (Ne.symm l)] at m;exact ⟨l,m⟩
 have h4:=h3.less (g:=g) (fun j f N J a E m=>by
  obtain ⟨l,N⟩:=t j f N J;exact h.apart j i f _ N G J rfl l a _ E (.inl d) m) (h.lives i _ G rfl _ (.inl d)).2
 have O:CR T w (S.filter fun b=> !Nat.beq b g) (.list (.int .u8)) xs (.slice (φ i).ad (φ i).n (φ i).cap):=qr5 p (fun b I=>(W3.1 I).1) (fun a E hm=>by
  rw [d] at E;simp only [X0] at E;subst E;have:=(W3.1 hm).2;simp [K3] at this)
 refine WR.val (v:=.slice (φ i).ad (φ i).n (φ i).cap) hd ?_ (K _ _ ⟨_,φ,h4.slot (a:=.cell ⟨.list (.int .u8),xs⟩) (O.same Z.size fun a v hv=>(r a).trans hv) (zo6 rfl (by intro _ _ _ _ e;cases e))⟩);cases o;simp only at u;subst u;show ((convert s s (evD F' x)) >>= fun y=>pure (Next.value y)).run P w=_;rw [v6 h1,Sem.run_bind,hr];rfl
def vf2 {s d e x} (m:dec ops k n F'=some o) (c:o.op=.convert s d x) {b} (p:aev T F x=some (.cell ⟨.str,b⟩)) (q:P.underlying s=some .string) (g:P.underlying d=some (.slice e)) (r:P.underlying e=some (.int .u8))
  (h:Sim T w0 S0 ⟨F,H⟩ F' w S φ) (K:zz0 P ops Q (k+1) n ds w0 S0 (⟨zb2 T F o.dst (.cell ⟨.list (.int .u8),zv4 b⟩),H⟩:St T)):WR P ops Q k n ds F' w:=by
 obtain ⟨X,t,i⟩:=v4 h.fr p;have i:CR T w S .str b X:=i;cases i;have l:=run_bytes_of_string (P:=P) w s d e b q g r;generalize f:grownCap w b.size 0 e=cap at l;have j:b.size<=cap:=by rw [<-f];exact grownCap_ge w b.size 0 e
 have u:Chg [] w (w.drew.alloc (.cells (bytesRow b cap) e ((bytesRow b cap).size,(bytesRow b cap).size+1))):=(Chg.drew w).pure (Chg.alloc _ _);refine WR.val (v:=.slice (some ⟨w.heap.size,0,none⟩) b.size cap) m ?_ (K _ _ ⟨S,φ,(h.pure u).slot (a:=.cell ⟨.list (.int .u8),zv4 b⟩) (ku6 (heap_alloc_new w.drew _) j fun z=>Nat.lt_irrefl _ (h.own _ z).2) (zo6 rfl (by intro _ _ _ _ e;cases e))⟩);cases o;simp only at c;subst c;show ((convert s d (evD F' x)) >>= fun y=>pure (Next.value y)).run P w=_;rw [v6 t,Sem.run_bind,l];rfl
def ve7 {t len E} (hd:dec ops k n F'=some o) (G:o.op=.buildSlice t len E) {l} (Y:yd4 T F E.toList=some l) {e sz cs} (d:vm0 T P t len l=some (e,sz,cs))
  (h:Sim T w0 S0 ⟨F,H⟩ F' w S φ) (K:zz0 P ops Q (k+1) n ds w0 S0 (⟨zb2 T F o.dst (.sl H.length sz 0 len),H++ [.blk e cs]⟩:St T)):WR P ops Q k n ds F' w:=by
 unfold vm0 at d;split at d
 ·rename_i Z m by_ zc he;split at d
  ·rename_i q;simp only [X3] at q;have hs1:=Y1 q.1;have I:=Y1 q.2;split at d
   ·rename_i x y;split at d
    case h_2=>cases d
    rename_i J;simp only [X0,X7] at d;obtain ⟨rfl,rfl,rfl⟩:=d;obtain ⟨i,z,hu,L,M,s,_,N,O⟩:=zi3 he;subst N;obtain ⟨e1,e2⟩:=yj3 h.fr Y;have R:VRL T w S φ ((List.range (len*m)).map fun j=>yw6 T (z.cells[j%m]!)) ((Array.range (len*i.size)).map (z.cells[· %z.cells.size]!)).toList:=by
     rw [s,O,N0,R2];generalize List.range (len*m)=rr;induction rr with
     |nil=>trivial
     |cons a r ih=>exact ⟨yz7 T _,ih⟩
    obtain ⟨c',g1,g2⟩:=yp2 R e1 e2 y;have U:yk2 P t len (E.toList.map fun p=>(p.1,evD F' p.2))=some (Z,c'):=by
     unfold yk2;rw [hu];simp only [L];rw [s,W5 I];simp only;rw [s] at g1;have c:Instr.fill (fun j=>some (j*m,m)) ((Array.range (len*m)).map (z.cells[· %z.cells.size]!)) (E.toList.map fun p=>(p.1,evD F' p.2))=some c':=g1;cases hz:Nat.beq (len*m) 0 with
     |true=>
      have:=X1 hz;simp only;rw [this] at c⊢;have V:Array.range 0= #[]:=rfl;rw [V] at c⊢;have em: ∀f:Nat->Value,Array.map f #[]= #[]:=fun f=>by simp
      rw [em] at c⊢;rw [c]
     |false=>simp only [M,c]
    have A: ∀i∈v5 x,i<H.length:=jd5 y (fun i u=>by
     obtain ⟨a,X,B⟩:=zt9 u;obtain ⟨j,_,rfl⟩:=U7.1 X;rw [ju5] at B;cases B) (jq1 h Y)
    refine WR.bslice c' (qw1 hd G U) fun g w' v=>?_;have hS: ∀b∈g::S,b∈S\/w.heap.size<=b:=by
     intro b d;rcases Z0.1 d with rfl|d
     ·exact .inr v.fresh
     ·exact .inl d
    have D:=h.add (r:=⟨some ⟨g,0,none⟩,len,len,[]⟩) v.chg v.fresh v.blk.lt (fun a X=>yr4 X) (e:=.blk Z x)
     ⟨g,c',by rw [w4],v.blk,by simp,BR.of T ((g2.chg T v.chg (by simp) hS).phi fun i u=>zi5 (by have:=A i u;omega)) J⟩ (by intro j hj;have:=A j hj;omega)
    refine K _ _ ⟨_,_,D.slot (a:=.sl H.length m 0 len) ?_ ⟨by intro i u;simp [AV.ids] at u;subst u;simp,trivial⟩⟩;rw [VR,w4];exact ⟨some ⟨g,0,none⟩,rfl,by simp,.inr ⟨g,rfl,by simp⟩,fun h=>(by cases h),fun _=>rfl⟩
   ·cases d
  ·cases d
 ·cases d
def qm1 {v} (a:dec ops k n F'=some o) (b:(execOp (evD F') o).run P w=.ok (.value v) w') (K:WR P ops Q (k+1) n ds (upd F' o.dst v) w'):WR P ops Q k n ds F' w:=WR.val a b K
def ui1 {t a z} (b:lenM P t H a=some z) (h:Sim T w0 S0 ⟨F,H⟩ F' w S φ) {v} (y:VR T w S φ a v) (ty) {d} (f:Same φ (qo1 [a]) w d):(Builtin.len_ #[t] ty #[v]).run P d=.ok (.int .i64 z) d:=by
 unfold lenM at b;split at b<;>try (cases b;done)
 rename_i J K A;split at b<;>try (cases b;done)
 rename_i i;split at b<;>try (cases b;done)
 rename_i B ty es D;simp only [X0] at b;subst b;obtain ⟨g,q,rfl⟩:=y;obtain ⟨L,l,E,j,u,M,G,N⟩:=h.ents i _ D;rw [q] at j;simp only [X0,Addr.mk.injEq,and_true] at j;subst j;have m:d.heap[g]?=some (.map l E):=(f i (by simp [qo1]) _ q u.lt).trans u;have c: ∀ {es:List (Int×den T.U ty)} {l:List MapEntry},TR T w S B ty es l->es.length=l.length:=by
  intro es;induction es with
  |nil=>intro l h;cases l with|nil=>rfl|cons _ _=>exact h.elim
  |cons p r I=>intro l h;obtain ⟨x,a⟩:=p;cases l with|nil=>exact h.elim|cons e s=>simp [I h.2.2]
 have:=c G;simp [Builtin.len_,run_underlying A,MapKept.run_getObj_map m,Result.andThen,this,goInt]
def kb3 {m q r t at2 B x c} (E:dec ops k n F'=some o) (f:o.op=.call c) (G:c.callee=.builtin .delete) (I:c.args.toList= [q,r]) (s:c.argTypes.toList=t::at2) (J:aev T F q=some m) (L:aev T F r=some (cI T B x))
  {H1} (b:wf6 T P t H m B x=some H1) (h:Sim T w0 S0 ⟨F,H⟩ F' w S φ) (K:zz0 P ops Q (k+1) n ds w0 S0 (⟨zb2 T F o.dst (.tup []),H1⟩:St T)):WR P ops Q k n ds F' w:=by
 obtain ⟨M,N,O⟩:=v4 h.fr J;obtain ⟨X,R,U⟩:=v4 h.fr L;have e:=w8 U;subst e;unfold wf6 at b;split at b<;>try (cases b;done)
 rename_i i kd kt et u;split at b<;>try (cases b;done)
 rename_i V ty es j;split at b<;>try (cases b;done)
 rename_i y;rw [X3] at y;have Y:=zb8 y.1;have Z:=zb8 y.2;subst Y;subst Z;simp only [X0] at b;subst b;obtain ⟨g,D,rfl⟩:=O;obtain ⟨g',l,cl,z,a2,a3,a4,a5⟩:=h.ents i _ j;rw [D] at z;simp only [X0,Addr.mk.injEq,and_true] at z;subst z;obtain ⟨w',A,hs⟩:=gf8 (x:=x) (ty':=o.type) (at2:=at2) u h j D a2 a3 a4 a5;have d:c.args= #[q,r]:=by rw [<-Array.toArray_toList (xs:=c.args),I]
 have p:c.argTypes=(t::at2).toArray:=by rw [<-s]
 refine qm1 (v:=.tuple #[]) E (w':=w') ?_ (K _ _ ⟨S,φ,hs.slot (a:=.tup []) ⟨#[],rfl,trivial⟩ ⟨fun i b=>(by cases b),trivial⟩⟩);rw [<-p] at A;cases o;simp only at f A;subst f;simp [execOp,resolve,G,invoke,builtin,d,v6 N,v6 R,A]
def kv1 {R:Type} {r:R} {x:Operand} {t:TypeId} {c:Call} (hd:dec ops k n F'=some o) (I:o.op=.call c) (hc:c.callee=.builtin .clear) (ha:c.args.toList= [x]) (hat:c.argTypes.toList= [t]) {s:AV T.U} (hx:aev T F x=some s)
  {K0:AV T.U->List (Ent T.U)->Option R} (d:yr8 T P t H s K0=some r) (h:Sim T w0 S0 ⟨F,H⟩ F' w S φ) (K: ∀b H1,K0 b H1=some r->zz0 P ops Q (k+1) n ds w0 S0 (⟨zb2 T F o.dst b,H1⟩:St T)):WR P ops Q k n ds F' w:=by
 obtain ⟨X,h1,N⟩:=v4 h.fr hx;unfold yr8 at d;split at d<;>try (cases d;done)
 ·rename_i i;split at d<;>try (cases d;done)
  rename_i kd ty es kt et u hu;obtain ⟨g,hg,rfl⟩:=N;obtain ⟨g',l,cl,a1,a2,a3,a4,a5⟩:=h.ents i _ u;rw [hg] at a1;simp only [X0,Addr.mk.injEq,and_true] at a1;subst a1;have G:w.heap[g]?=some (.map l cl):=a2;have p:c.args= #[x]:=zg3 ha;have y:c.argTypes= #[t]:=zg3 hat;refine qm1 (v:=.tuple #[]) hd (w':= {w with heap:=w.heap.setIfInBounds g (.map #[] cl)}) ?_ (K _ _ d _ _ ⟨S,φ,(yo0 (l':= #[]) (c':=cl) (es':= []) h u hg a2 a3 (by simp only [TR]) (MapKept.stamped_empty cl)).slot (a:=.tup []) ⟨#[],rfl,trivial⟩ ⟨fun i u=>(by cases u),trivial⟩⟩);cases o;simp only at I;subst I;simp [execOp,resolve,hc,invoke,builtin,p,y,v6 h1,Builtin.clear_,run_underlying hu,MapKept.run_getObj_map G,MapKept.run_setObj_map _ G,Result.andThen]
 rename_i i sz f m;split at d<;>try (cases d;done)
 rename_i e ty xs u;split at d<;>try (cases d;done)
 rename_i et s1 by_ zc he;split at d<;>try (cases d;done)
 rename_i z hsz hz;simp only [X3] at hsz;have:=X1 hsz.1;subst this;have:=X1 hsz.2;subst this;split at d<;>try (cases d;done)
 rename_i O hx0;obtain ⟨hle,hK⟩:=g9 d;obtain ⟨ii,V,hu,hin,hzv,hsi,_,J,L⟩:=zi3 he;subst J;obtain ⟨ad,rfl,hcap,hn,hnil,_⟩:=N;have p:c.args= #[x]:=zg3 ha;have y:c.argTypes= #[t]:=zg3 hat;have Y: ∀w',(Builtin.clear_ #[t] o.type #[Value.slice ad m ((φ i).cap-f)]).run P w=.ok (.tuple #[]) w'->(execOp (evD F') o).run P w=.ok (.value (.tuple #[])) w':=by
  intro w' hr;have:execOp (evD F') o=(do return Next.value (<-Builtin.clear_ #[t] o.type #[Value.slice ad m ((φ i).cap-f)])):=by
   cases o;simp only at I;subst I;simp only [execOp,resolve,hc,invoke,builtin,p,y,Array.map_singleton,v6 h1]<;>rfl
  rw [this];simp only [Sem.run_bind,hr,Result.andThen_ok];rfl
 have hi':H[i]?=some (.row e ty xs):=u;by_cases hm:m=0
 ·subst hm;have hsame:H.set i (.row e ty (xs.take f++(List.replicate 0 O++xs.drop (f+0))))=H:=by
   rw [List.replicate_zero,N1,J5,Q9];obtain ⟨hlt,hg⟩:=X2.1 hi';rw [<-hg,M3]
  rw [hsame] at hK;have A:(Builtin.clear_ #[t] o.type #[Value.slice ad 0 ((φ i).cap-f)]).run P w=.ok (.tuple #[]) w:=by
   unfold Builtin.clear_;cases ad<;>simp [run_underlying hu,Sem.run_bind,Sem.run_pure,Result.andThen_ok]
  exact jz5 hd (Y w A) h (a:=.tup []) ⟨#[],rfl,trivial⟩ ⟨fun i u=>(by cases u),trivial⟩ (K _ _ hK)
 ·rcases hn with hn|⟨g,M,hg2⟩
  ·exact absurd hn hm
  ·subst hg2;obtain ⟨g',Z,B,vals,a1,a2,a3,a4,a5,a6,a7,a8,a9,a10,a11,a12⟩:=jm0 h u (by omega);rw [M] at a1;simp only [X0,Addr.mk.injEq,and_true] at a1;subst a1;have D:(Builtin.zeroCells V.cells m).toList.length=m*szT T ty:=by simp [Builtin.zeroCells,L]
   have hmul:(f+m)*szT T ty<=xs.length*szT T ty:=W0 _ hle;have hmul2:xs.length*szT T ty<=(φ i).cap*szT T ty:=W0 _ a11;rw [J6] at hmul;have hz1:CellsR T w S (zd1 T ty O) V.cells.toList:=by rw [zp6 T hx0];exact yi2 hz
   have J:CellsR T w S ((List.replicate m O).flatMap (zd1 T ty)) (Builtin.zeroCells V.cells m).toList:=by
    refine ⟨by rw [zb3 (w6 T ty),Z9,D],fun j c v h1 N=>?_⟩;have hj:=(X2.1 h1).1;rw [zb3 (w6 T ty),Z9] at hj;rw [zx0 (w6 T ty O) _ _ hj] at h1;refine hz1.2 _ c v h1 ?_;have E:0<szT T ty:=by
     rcases N5 (szT T ty) with h0|h0
     ·rw [h0] at hj;omega
     ·exact h0
    rw [<-L] at E;unfold Builtin.zeroCells at N;simp only [N0,R2,W4] at N;rw [L,List.getElem?_range hj] at N;simp only [Z8,X0] at N;subst N;rw [<-L,Array.getElem?_toList,Z6 (Nat.mod_lt _ E)];congr 1;rw [getElem!_pos V.cells _ (Nat.mod_lt _ E)]
   have hone: ∀v∈(Builtin.zeroCells V.cells m).toList,v.oneCell'=true:=J.one;obtain ⟨w',r1,r2,r3⟩:=zn8 P e g (Builtin.zeroCells V.cells m).toList (0+f*szT T ty) 0 Z w a4 (by rw [D,a5];omega) hone;have A:(Builtin.clear_ #[t] o.type #[Value.slice (some ⟨g,0+f*szT T ty,none⟩) m ((φ i).cap-f)]).run P w=.ok (.tuple #[]) w':=by
    unfold Builtin.clear_;cases m with
    |zero=>exact absurd rfl hm
    |succ m=>
     have hzr:(zeroValue et).run P w=.ok V w:=by simp [zeroValue,typeInfo,hin,hzv,Sem.run_bind,Sem.run_pure,Result.andThen_ok]
     have r1':=r1;rw [U2] at r1';simp [run_underlying hu,Sem.run_bind,Sem.run_pure,Result.andThen_ok,hzr,r1']
   refine qm1 hd (Y w' A) ?_;refine K _ _ hK _ _ ⟨S,φ,(h.upd (e:=.row e ty (xs.take f++(List.replicate m O++xs.drop (f+m)))) u rfl r3 (fun b G=>?_) ⟨B,(jc3 Z (0+f*szT T ty+0) (Builtin.zeroCells V.cells m).toList).toList.take (xs.length*szT T ty),?_,?_,U5 a10 r3.size,?_,?_⟩ ?_ ?_).slot (a:=.tup []) ⟨#[],rfl,trivial⟩ ⟨fun i u=>(by cases u),trivial⟩⟩
   ·simp at G;subst G;exact ⟨_,.inl M,rfl⟩
   ·rw [M,a2];exact Own.ofBlk r2 a9 a11 (by have:=a12;unfold maxLen at this;omega) (by rw [yq6];exact a5) _ rfl
   ·rw [a2];simp;omega
   ·have hxs:xs=xs.take f++((xs.drop f).take m++xs.drop (f+m)):=by
     rw [<-List.drop_drop,Q9,Q9]
    have hnew:(xs.take f++(List.replicate m O++xs.drop (f+m))).flatMap (zd1 T ty)=zj5 (xs.flatMap (zd1 T ty)) (f*szT T ty) ((List.replicate m O).flatMap (zd1 T ty)):=by
     conv=>rhs;rw [hxs]
     have hp:=yn7 ((List.replicate m O).flatMap (zd1 T ty)) ((xs.take f).flatMap (zd1 T ty)) (((xs.drop f).take m).flatMap (zd1 T ty)) ((xs.drop (f+m)).flatMap (zd1 T ty)) 0
      (by rw [zb3 (w6 T ty),zb3 (w6 T ty),Z9,Y6,Q8,K6 (by omega),U2];exact W8 _)
     rw [zb3 (w6 T ty),Y6,K6 (by omega),J5] at hp;rw [N6,N6,N6,N6,<-List.append_assoc ((xs.take f).flatMap (zd1 T ty)) (((xs.drop f).take m).flatMap (zd1 T ty)),hp,Q4];congr 2;have hl2:((xs.drop f).take m).length=m:=by rw [Y6,Q8];omega
     have: ∀(l cs:List (Cell T.U)),l.length=cs.length->zj5 cs 0 l=l:=by
      have gen: ∀(l pre cs:List (Cell T.U)),l.length=cs.length->zj5 (pre++cs) pre.length l=pre++l:=by
       intro l;induction l with
       |nil=>intro pre cs h;cases cs with|nil=>rfl|cons _ _=>simp at h
       |cons a r ih=>
        intro pre cs h;cases cs with
        |nil=>simp at h
        |cons b q=>
         rw [zj5,List.set_append_right _ _ (W8 _),Nat.sub_self,List.set_cons_zero];have:=ih (pre++ [a]) q (by simpa using h);simpa using this
      intro l cs h;simpa using gen l [] cs h
     rw [this _ _ (by rw [zb3 (w6 T ty),zb3 (w6 T ty),Z9,hl2])]
    rw [hnew,yg1,yq5,J5,U2,a6];exact (CellsR.put J a7).chg T r3 (by intro b G;simp at G;subst G;exact a8) (fun b G=>.inl G)
   ·intro a ha;rw [M] at ha;simp only [X0] at ha;subst ha;exact a8
   ·intro q hq;cases hq
   ·intro e1 t1 zs he;simp only [Ent.row.injEq] at he;obtain ⟨rfl,rfl,hh⟩:=he;have:=eq_of_heq hh;subst this;exact ⟨e,xs,rfl,by simp;omega⟩
end
end Go.X
namespace Go.X
open Go.RowKit Go.V
section
variable {T:Tab} {P:Program} {C:Ctx T} {w w':World} {S S':List Nat} {φ φ':Nat->RA} {w0:World} {S0:Ow} {F:AF T} {H:List (Ent T.U)} {F':PF}
variable {ops:Array Oper} {Q:Exit->Act->World->Prop} {k n:Nat} {ds:List Deferred} {o:Oper}
def zq4 {F}: ∀ {l as},zx4 T F l=some as->l.length=as.length
 | [],as,h=>by simp only [zx4,X0] at h;subst h;rfl
 |x::r,as,h=>by
  unfold zx4 at h;split at h
  ·rename_i a l c b;simp only [X0] at h;subst h;simp [zq4 b]
  ·cases h
def wm6 {Z:Prop} {R:Type} {r:R} (G:dec ops k n F'=some o) {K0:AV T.U->Option R} (d:zs1 P o ⟨F,H⟩ K0=some r) (h:Sim T w0 S0 ⟨F,H⟩ F' w S φ)
  (K: ∀a v,K0 a=some r->QR P F' o S φ (vk0 o F) w v->VR T w S φ a v->okA H a->Z):Z:=by
 unfold zs1 at d;simp only at d;split at d
 ·rename_i a g;split at d
  ·rename_i I;obtain ⟨v,j,l⟩:=kf0 (P:=P) g h.fr o rfl;exact K _ v d (fun q _ _=>j q) l (ky6 h g I)
  ·cases d
 ·split at d
  ·rename_i e;split at d
   ·rename_i m f s;exact uj7 G e m f s d h K
   ·cases d
  ·rename_i e;split at d
   ·rename_i f s;exact zaj8 G e f s d h K
   ·cases d
  ·rename_i e;split at d
   ·rename_i p f;split at d
    ·rename_i a hl;exact gj2 G e f hl h (fun i x=>by unfold vk0;rw [e];simp only [f];exact x) fun v=>K _ v d
    ·cases d
   ·cases d
  ·rename_i e;split at d
   ·rename_i hs1 hd1 g;split at d
    ·rename_i he;exact kb0 e g hs1 hd1 he d (fun i x=>by simp only [vk0,e,g];exact x) h K
    ·cases d
   ·cases d
  ·rename_i t0 x0 y0 e;split at d
   ·rename_i s0 j0 hu f s;unfold jj7 at d;split at d
    ·rename_i b V;obtain ⟨X,j,l⟩:=v4 h.fr f;obtain ⟨Y,y,h4⟩:=v4 h.fr s;have J:=zq5 l;have e2:=w8 h4;subst J;subst e2;refine K _ (.int .u8 b.toNat) d (fun q _ _=>?_) (VR.int _ _) (jz7 _ _);simp only [execOp,e,v6 j,v6 y,Instr.index,asIntOf,Sem.run_bind,Sem.run_pure,Result.andThen_ok,run_underlying hu];rw [V];rfl
    ·cases d
   ·cases d
  ·rename_i e;split at d
   ·rename_i f s;exact wg8 G e f s d h K
   ·cases d
  ·rename_i e;split at d
   ·rename_i f hlo hhi;split at d
    ·cases d
    ·rename_i L;refine wn3 G e f hlo hhi ?_ d h K
     grind
   ·cases d
  ·rename_i x0 xt0 at0 ok0 e;split at d
   ·rename_i a f;split at d
    ·rename_i b V;split at d
     ·rename_i L;obtain ⟨v,j,l⟩:=v4 h.fr f;obtain ⟨u,y,h4⟩:=qs5 (xt:=xt0) V l;refine K _ u d (fun q _ _=>?_) h4 (zd3 L fun i x=>(zc9 h f).1 i (qs4 V i x));simp [execOp,e,v6 j,y]
     ·cases d
    ·cases d
   ·cases d
  ·rename_i c e;split at d
   ·cases d
   ·rename_i as M;have h5:=yg5 h.fr M;split at d
    ·rename_i m;split at d
     ·rename_i a t N;split at d
      ·rename_i z hz;have J:=zg3 N;have hv: ∃v,(c.args.map (evD F'))= #[v]/\VR T w S φ a v:=by
        have A:VRL T w S φ [a] (c.args.toList.map (evD F')):=h5
        match I:c.args.toList.map (evD F'),A with
        | [v],A=>exact ⟨v,zg3 (by simpa using I),A.1⟩
       obtain ⟨v,B,D⟩:=hv;exact K _ _ d (fun q _ _=>by simp [execOp,e,resolve,m,invoke,B,J,builtin,kc6 hz h D]) (VR.int _ _) (jz7 _ _)
      ·split at d
       ·rename_i z hz;have J:=zg3 N;have hv: ∃v,(c.args.map (evD F'))= #[v]/\VR T w S φ a v:=by
         have A:VRL T w S φ [a] (c.args.toList.map (evD F')):=h5
         match I:c.args.toList.map (evD F'),A with
         | [v],A=>exact ⟨v,zg3 (by simpa using I),A.1⟩
        obtain ⟨v,B,D⟩:=hv;refine K _ _ d (fun q _ hsm=>?_) (VR.int _ _) (jz7 _ _);have O:Same φ (qo1 [a]) w q:=fun i x=>hsm i (by unfold vk0;rw [e];simp only [m,M];exact x);simp [execOp,e,resolve,m,invoke,B,J,builtin,ui1 hz h D _ O]
       ·cases d
     ·cases d
    ·rename_i m;split at d
     ·rename_i a g;obtain ⟨v,j,l,y⟩:=kx3 (P:=P) (H:=H) g h5 c.argTypes o.type;have E: ∀w,(Builtin.min_ c.argTypes o.type (c.args.map (evD F'))).run P w=.ok v w:=fun w=>by simpa [<-Array.toList_map] using j w
      exact K _ v d (fun q _ _=>by simp [execOp,e,resolve,m,invoke,builtin,E]) l y
     ·cases d
    ·rename_i m;split at d
     ·rename_i a g;obtain ⟨v,j,l,y⟩:=kx2 (P:=P) (H:=H) g h5 c.argTypes o.type;have E: ∀w,(Builtin.max_ c.argTypes o.type (c.args.map (evD F'))).run P w=.ok v w:=fun w=>by simpa [<-Array.toList_map] using j w
      exact K _ v d (fun q _ _=>by simp [execOp,e,resolve,m,invoke,builtin,E]) l y
     ·cases d
    ·cases d
  ·cases d
def vf7 {t b sz} (a:zg8 P t=some (b,sz)) (h:gw4 P t=true): ∃e d,P.underlying t=some (.array b e)/\P.underlying e=some d/\yf3 d=false:=by
 obtain ⟨e,f,c,_,_,_⟩:=zj6 a;unfold gw4 at h;rw [c] at h;simp only at h;split at h
 ·rename_i d g;exact ⟨e,d,c,g,by simpa using h⟩
 ·cases h
def gu1 {Z:Prop} {R:Type} {r:R} (q:dec ops k n F'=some o) {I:AV T.U->Option R} (c:ya2 P o ⟨F,H⟩ I=some r) (h:Sim T w0 S0 ⟨F,H⟩ F' w S φ)
  (K: ∀a v,I a=some r->QR P F' o S φ (vk0 o F) w v->VR T w S φ a v->okA H a->Z):Z:=by
 unfold ya2 at c;split at c
 ·unfold yq9 at c;simp only at c;split at c
  ·rename_i b;split at c
   ·rename_i f g z;exact kw4 q b f g z c h K
   ·cases c
  ·rename_i b;split at c
   ·rename_i f g z A;obtain ⟨e,d,M,N,O⟩:=vf7 f A;exact kw5 b f M N O g z c h K
   ·cases c
  ·rename_i b;split at c
   ·rename_i f g B D;exact gf1 q b f g B D c h K
   ·cases c
  ·rename_i b;split at c
   ·rename_i f g;exact we3 b f g c h K
   ·cases c
  ·rename_i t x b;split at c
   ·rename_i n0 sz p f g;have j: ∀i∈p.ids,i∈vk0 o F:=fun i s=>by unfold vk0;rw [b];simp only [g];exact s
    refine wh6 q b f (fun l=>?_) g c h j K fun V=>?_
    ·unfold qr7;split at l
     ·rename_i X u;rw [u];exact congrArg some (X1 l)
     ·cases l
    ·obtain ⟨a,Y,y⟩:=za0 V;exact gj2 q b g Y h j fun v=>K _ v y
   ·cases c
  ·rename_i b;split at c
   ·rename_i a g;split at c
    ·rename_i E;obtain ⟨v,h1,J⟩:=v4 h.fr g;exact K _ v c (kk3 b E h1 J) J (zc9 h g)
    ·cases c
   ·cases c
  ·rename_i b;split at c
   ·rename_i m kx x L hk;have j: ∀i∈m.ids,i∈vk0 o F:=fun i s=>by unfold vk0;rw [b];simp only [L];exact s
    refine wh8 q b L hk c h j fun a v y hq hv s=>?_;split at y
    ·rename_i G;exact K _ v y hq hv (zd3 G s)
    ·cases y
   ·cases c
  ·cases c
 ·exact wm6 q c h K
def kk8 {R:Type} {r:R} (Z:zb4 T P C.E) {c:Call} (z:dec ops k n F'=some o) (l:o.op=.call c) {K:AV T.U->List (Ent T.U)->Option R} {M:AV T.U->List (Ent T.U)->Option R} (d:yo6 P C c ⟨F,H⟩ K M=some r) (h:Sim T w0 S0 ⟨F,H⟩ F' w S φ)
  (A: ∀b H1,K b H1=some r->zz0 P ops Q (k+1) n ds w0 S0 (⟨zb2 T F o.dst b,H1⟩:St T)) (HP: ∀b H1,M b H1=some r->yu1 Q n ds w0 S0 b (⟨F,H1⟩:St T)):WR P ops Q k n ds F' w:=by
 unfold yo6 at d;split at d
 ·cases d
 ·rename_i as a;have h5:=yg5 h.fr a;split at d
  ·rename_i f p;split at d
   ·rename_i g first N hf
    split at d
    ·rename_i cs O D;split at d
     ·rename_i u;exact ku7 z l p hf a O (Z g cs D).1 u d h A HP
     ·cases d
    ·cases d
   ·cases d
  ·rename_i p;split at d
   ·rename_i s x t t' j;split at d
    ·rename_i e G O;have:=X1 G;subst this
     match v:c.args.toList,a with
     | [q,B],a=>
      unfold zx4 at a;split at a
      ·rename_i V X y i;simp only [X0,List.cons.injEq] at a;obtain ⟨rfl,rfl⟩:=a;unfold zx4 at i;split at i
       ·rename_i a2 l2 I J;simp only [X0,List.cons.injEq] at i;obtain ⟨rfl,rfl⟩:=i;exact ka0 z l p v j y I d h A
       ·cases i
      ·cases a
     | [],a=>exact absurd (zq4 a) (by simp)
     | [q],a=>exact absurd (zq4 a) (by simp)
     |q::B::z0::Y,a=>exact absurd (zq4 a) (by simp)
    ·cases d
   ·cases d
  ·rename_i p;split at d
   ·rename_i s t j
    match v:c.args.toList,a with
    | [q],a=>
     unfold zx4 at a;split at a
     ·rename_i V X y i;simp only [X0,List.cons.injEq] at a;obtain ⟨rfl,rfl⟩:=a;exact kv1 z l p v j y d h A
     ·cases a
    | [],a=>exact absurd (zq4 a) (by simp)
    |q::B::Y,a=>exact absurd (zq4 a) (by simp)
   ·cases d
  ·rename_i p;split at d
   ·rename_i m kx x t at2 j;split at d
    ·rename_i H1 L
     match v:c.args.toList,a with
     | [q,B],a=>
      unfold zx4 at a;split at a
      ·rename_i V X y i;simp only [X0,List.cons.injEq] at a;obtain ⟨rfl,rfl⟩:=a;unfold zx4 at i;split at i
       ·rename_i a2 l2 I J;simp only [X0,List.cons.injEq] at i;obtain ⟨rfl,rfl⟩:=i;exact kb3 z l p v j y I L h (A _ _ d)
       ·cases i
      ·cases a
     | [],a=>exact absurd (zq4 a) (by simp)
     | [q],a=>exact absurd (zq4 a) (by simp)
     |q::B::z0::Y,a=>exact absurd (zq4 a) (by simp)
    ·cases d
   ·cases d
  ·cases d
def ze2 {R:Type} {r:R} (hE:zb4 T P C.E) (j:dec ops k n F'=some o) {K:St T->Option R} {Kp:AV T.U->St T->Option R} (c:stepA P C o ⟨F,H⟩ K Kp=some r) (h:Sim T w0 S0 ⟨F,H⟩ F' w S φ)
  (p: ∀st,K st=some r->zz0 P ops Q (k+1) n ds w0 S0 st) (HP: ∀a st,Kp a st=some r->yu1 Q n ds w0 S0 a st):WR P ops Q k n ds F' w:=by
 have m:ya2 P o ⟨F,H⟩ (fun a=>K ⟨zb2 T F o.dst a,H⟩)=some r->WR P ops Q k n ds F' w:=fun c=>
  gu1 j c h fun a v hK hq B O=>jz5 j (hq w (Chg.refl _ _) fun _ _ _ _ _=>rfl) h B O (p _ hK)
 unfold stepA at c;simp only at c;split at c
 ·rename_i f;split at c
  ·rename_i cs hz;split at c
   ·rename_i cs' D;exact vz9 j f hz D h (p _ c)
   ·cases c
  ·cases c
 ·rename_i f;split at c
  ·rename_i a V;split at c
   ·rename_i cs q;obtain ⟨g1,g2⟩:=ku4 q;exact ug6 j f V (fun _ _ _ _ B=>g2 B) g1 h (p _ c)
   ·cases c
  ·cases c
 ·rename_i f;split at c
  ·rename_i kd kt et G _;exact kx5 j f G h (p _ c)
  ·rename_i kd kt et ty G _;exact kd9 j f G h (p _ c)
  ·cases c
 ·rename_i f;split at c
  ·rename_i g Y z B;split at c
   ·rename_i H1 Z I;exact qc6 j (.inl f) g Y z B I h (p _ c)
   ·cases c
  ·cases c
 ·rename_i f;split at c
  ·rename_i g Y z B;split at c
   ·rename_i H1 Z I;exact qc6 j (.inr f) g Y z B I h (p _ c)
   ·cases c
  ·cases c
 ·rename_i f;split at c
  ·rename_i g z hy;split at c
   ·rename_i H1 D;exact gf3 j f g z hy D h (p _ c)
   ·cases c
  ·cases c
 ·rename_i f;split at c
  ·rename_i z hy he;exact wh9 j f z hy c h fun a H1 V=>p _ V
  ·cases c
 ·rename_i f;split at c
  ·rename_i l ty D he;split at c
   ·rename_i e xs q;exact ka6 j f D q h (p _ c)
   ·cases c
  ·rename_i l D he;split at c
   ·rename_i e sz cs q;exact ve7 j f D q h (p _ c)
   ·cases c
  ·cases c
 ·rename_i f;split at c
  ·exact m c
  ·exact kk8 hE j f c h (fun b H1 q=>p _ q) fun b H1 q=>HP _ _ q
 ·rename_i s d x f;split at c
  ·rename_i e b N J h3;split at c
   ·rename_i h4;exact vf2 j f h3 N J h4 h (p _ c)
   ·cases c
  ·rename_i e i N J h3;split at c
   ·rename_i y xs q _ h4 A;have:=X1 q;subst this
    replace A:(match H[i]? with|some (.row _ ty' xs)=>if h:ty'=.int .u8 then some (h▸xs:List (den T.U (.int .u8))) else none|_=>none)=some (y::xs):=A
    split at A<;>try (cases A;done)
    rename_i et ty' zs I;split at A<;>try (cases A;done)
    rename_i ht;subst ht;have A:zs=y::xs:=X5 A;subst A;exact ka9 j f h3 J h4 I (by simp) h (p _ c)
   ·cases c
  ·exact m c
 ·rename_i x f;split at c
  ·rename_i t a z;obtain ⟨X,N,u,rfl,J⟩:=v4 h.fr z;have L:(execOp (evD F') o).run P w=.halt (.panic (.iface t u)) w:=by
    simp [execOp,f,v6 N,Instr.panic,goPanic]
   exact .throw j L fun act M=>HP _ _ c F' w S φ (.iface t u) h ⟨u,rfl,J⟩ (zc9 h z) act M
  ·cases c
 ·exact m c
end
end Go.X
namespace Go.X
open Go.RowKit Go.V
def ye4 (i:Nat):List Nat->Bool| []=>false|j::r=>match Nat.beq j i with|true=>true|false=>ye4 i r
def vr9 (l:List Nat):List Nat->List Nat| []=>l|i::r=>match ye4 i l with|true=>vr9 l r|false=>vr9 (l++ [i]) r
def vh1 (i:Nat):List Nat->Nat| []=>0|j::r=>match Nat.beq j i with|true=>0|false=>vh1 i r+1
def zd6:List Nat->Bool| []=>true|i::r=> !ye4 i r&&zd6 r
def zb9 {i}: ∀ {l},ye4 i l=true↔i∈l
 | []=>by simp [ye4]
 |j::r=>by
  unfold ye4;split
  ·rename_i h;have:=X1 h;subst this;simp
  ·rename_i h;have a:j≠i:=fun e=>by subst e;simp at h
   rw [zb9];simp [Ne.symm a]
def yf5 {i}: ∀ {l},i∈l->vh1 i l<l.length/\l[vh1 i l]?=some i
 | [],h=>by cases h
 |j::r,h=>by
  unfold vh1;split
  ·rename_i a;have:=X1 a;subst this;simp
  ·rename_i a;have b:j≠i:=fun e=>by subst e;simp at a
   have c:i∈r:=by
    rcases Z0.1 h with rfl|h
    ·exact absurd rfl b
    ·exact h
   obtain ⟨d,f⟩:=yf5 c;exact ⟨by simpa using d,by rw [List.getElem?_cons_succ];exact f⟩
def yj1: ∀ {l},zd6 l=true-> ∀ {a b x:Nat},l[a]?=some x->l[b]?=some x->a=b
 | [],_,a,b,x,c,_=>by simp at c
 |i::r,h,a,b,x,c,d=>by
  unfold zd6 at h;simp only [X3,V4] at h;have e:i∉r:=fun f=>by have:=zb9.2 f;rw [h.1] at this;cases this
  cases a with
  |zero=>
   cases b with
   |zero=>rfl
   |succ b=>
    simp at c d;subst c;exact absurd (X6 d) e
  |succ a=>
   cases b with
   |zero=>
    simp at c d;subst d;exact absurd (X6 c) e
   |succ b=>
    simp at c d;rw [yj1 h.2 c d]
section
variable (T:Tab)
def zw5 (H:List (Ent T.U)):List Nat->List (Ent T.U)
 | []=>H
 |i::r=>zw5 (H.set i .gone) r
def lstI {U:Nat->Type}:Cell U->Option ((t:Ty)×List (den U t))|⟨.list t,ys⟩=>some ⟨t,ys⟩|_=>none
def gj8 {U:Nat->Type} (e:TypeId) (c:Cell U):Option ((t:Ty)×List (den U t)):=match Nat.beq e 0 with|true=>none|false=>lstI c
def ze0:List TypeId->List (Cell T.U)->Nat->List (AV T.U)×List (Ent T.U)
 |_,[],_=>([],[])
 |fe,c::r,n=>match gj8 (fe.headD 0) c with
  |some ⟨t,ys⟩=>(.own n::(ze0 fe.tail r (n+1)).1,.row (fe.headD 0) t ys::(ze0 fe.tail r (n+1)).2)
  |none=>(.cell c::(ze0 fe.tail r n).1,(ze0 fe.tail r n).2)
def elD (d:Nat) (xs:List (T.U d)) (a:Nat):List (Cell T.U):=T.cells d (xs.getD a (T.d d))
def yl6 (H:List (Ent T.U)) (k:Nat) (e:TypeId) (d:Nat) (fe:List TypeId) (xs:List (T.U d)) (a:Nat):List (Ent T.U):=
 H.set k (.drow e d fe xs (some (a,(ze0 T fe (elD T d xs a) H.length).1)))++(ze0 T fe (elD T d xs a) H.length).2
def vm1 (H:List (Ent T.U)) (t:Ty) (e:TypeId) (a:AV T.U):Option (Cell T.U×List Nat):=
 match a with
 | .own j=>match H[j]?,t with
  |some (.row f d ys),.list b=>(match Nat.beq f e&& !(Nat.beq e 0) with|true=>if d=b then some (⟨.list d,ys⟩,[j]) else none|false=>none)
  |_,_=>none
 | .raw (.slice none 0 0)=>match t with| .list b=>some (⟨.list b,[]⟩,[])|_=>none
 | .cell c=>match c.t.scal||Nat.beq e 0 with|true=>some (c,[])|false=>none
 |_=>none
def ye0 (H:List (Ent T.U)):List Ty->List TypeId->List (AV T.U)->Option (List (Cell T.U)×List Nat)
 | [],_,[]=>some ([],[])
 |t::b,fe,a::as=>match vm1 T H t (fe.headD 0) a,ye0 H b fe.tail as with|some (c,l),some (cs,d)=>some (c::cs,l++d)|_,_=>none
 |_,_,_=>none
def yr9 (H:List (Ent T.U)) (k:Nat):List (Ent T.U):=
 match H[k]? with
 |some (.drow e d fe xs (some (a,cs)))=>match ye0 T H (kr5 T d) fe cs with
  |some (l,ids)=>match zd6 ids,T.pack d l with
   |true,some y=>zw5 T (H.set k (.drow e d fe (xs.set a y) none)) ids
   |_,_=>H
  |none=>H
 |_=>H
def closeL:List Nat->List (Ent T.U)->List (Ent T.U)
 | [],H=>H
 |k::r,H=>closeL r (yr9 T H k)
end
section
variable {T:Tab} {P:Program} {w w':World} {S S':List Nat} {φ φ':Nat->RA} {w0:World} {S0:Ow} {F:AF T} {H:List (Ent T.U)} {F':PF}
def yb3 {i j f} (h:(H.set i .gone)[j]?=some f) (c:f.live=true):j≠i/\H[j]?=some f:=by
 by_cases a:j=i
 ·subst a;have b:=(X2.1 h).1;rw [Q0 (by simpa using b)] at h;simp only [X0] at h;subst h;cases c
 ·rw [Z5 (Ne.symm a)] at h;exact ⟨a,h⟩
def qc3: ∀ {ids H j f},(zw5 T H ids)[j]?=some f->f.live=true->j∉ids/\H[j]?=some f
 | [],H,j,f,h,_=>⟨by simp,h⟩
 |i::r,H,j,f,h,a=>by
  obtain ⟨b,c⟩:=qc3 (ids:=r) h a;obtain ⟨d,e⟩:=yb3 c a;exact ⟨by simp [d,b],e⟩
def jd9: ∀(ids H),(zw5 T H ids).length=H.length
 | [],H=>rfl
 |i::r,H=>by rw [zw5,jd9 r];simp
def kd4 {c:Cell T.U} {p:(t:Ty)×List (den T.U t)} (h:lstI c=some p):c=⟨.list p.1,p.2⟩:=by
 obtain ⟨t,x⟩:=c;cases t<;>first|(cases h;done)|(simp only [lstI,X0] at h;subst h;rfl)
def beq0 {e} (h:Nat.beq e 0=false):e≠0:=fun a=>by subst a;cases h
def kd3 {e:TypeId} {c:Cell T.U} {p:(t:Ty)×List (den T.U t)} (h:gj8 e c=some p):Nat.beq e 0=false/\c=⟨.list p.1,p.2⟩:=by
 unfold gj8 at h;split at h
 ·cases h
 ·rename_i a;exact ⟨a,kd4 h⟩
def kd2 {e c} (h:gj8 e c=none) (v):(DC T w S e c v->yu0 T w S c v)/\zw0 T e c v= []:=by
 unfold gj8 at h;split at h
 ·rename_i b;have:=X1 b;subst this;obtain ⟨t,x⟩:=c;refine ⟨fun a=>?_,rfl⟩;cases t<;>first|exact a.1 rfl|exact a
 ·rename_i b;obtain ⟨t,x⟩:=c;refine ⟨fun a=>?_,?_⟩
  ·cases t<;>first|(cases h;done)|exact a
  ·unfold zw0;rw [b];cases t<;>first|(cases h;done)|rfl
def km1 (fe:List TypeId):fe.getD 0 0=fe.headD 0:=by cases fe<;>rfl
def vg6 (fe:List TypeId) (f:Nat):fe.getD (f+1) 0=fe.tail.getD f 0:=by cases fe<;>simp
def Sim.ghost (h:Sim T w0 S0 ⟨F,H⟩ F' w S φ) {H'} (d:H.length<=H'.length) (x: ∀i,i<H.length->RSame (φ' i) (φ i))
  (n: ∀(i:Nat) (e:TypeId) (t:Ty) (xs:List (den T.U t)),i<H.length->H'[i]?=some (.row e t xs)->H[i]?=some (.row e t xs))
  (q: ∀(i:Nat) (e:Ent T.U),H'[i]?=some e->e.live=true-> ∀a,At (φ' i) a-> ∃j f b,H[j]?=some f/\f.live=true/\At (φ j) b/\b.block=a.block)
  (o: ∀(i:Nat) (e:Ent T.U),H'[i]?=some e->EntR T w S φ' i e) (p: ∀(i:Nat) (e:Ent T.U),H'[i]?=some e-> ∀j∈e.cellIds,j<H'.length)
  (s: ∀(i j:Nat) (e z:Ent T.U),H'[i]?=some e->H'[j]?=some z->e.live=true->z.live=true->i≠j-> ∀a b,At (φ' i) a->At (φ' j) b->a.block≠b.block):Sim T w0 S0 ⟨F,H'⟩ F' w S φ':=by
 refine ⟨fun i a m=>?_,fun i a m=>?_,h.chg,h.own,h.ex,fun i e A B a m=>?_,fun k r C=>?_,o,p,s⟩
 ·obtain ⟨v,g,l⟩:=h.fr i a m;exact ⟨v,g,l.phiS fun j u=>x j ((h.ids i a m).1 j u)⟩
 ·obtain ⟨g,l⟩:=h.ids i a m;refine ⟨fun j u=>V6 (g j u) d,?_⟩;cases a with
  |eptr y sz k c=>intro e t xs D;exact l e t xs (n y e t xs (g y (by simp [AV.ids])) D)
  |_=>trivial
 ·obtain ⟨j,f,b,g,l,E,G⟩:=q i e A B a m;rw [<-G];exact h.lives j f g l b E
 ·obtain ⟨g,l⟩:=h.pins k r C;exact ⟨(x k l).trans g,V6 l d⟩
def jp8: ∀(fe cs n),(ze0 T fe cs n).1.length=cs.length
 |_,[],_=>by simp [ze0]
 |fe,c::r,n=>by
  unfold ze0;split<;>simp [jp8 fe.tail r]
def ym3: ∀ {cs fe vs} (n),cs.length=vs.length->(∀f c v,cs[f]?=some c->vs[f]?=some v->DC T w S (fe.getD f 0) c v)->
  ∃(rs:List RA) (p:Nat->Nat),rs.length=(ze0 T fe cs n).2.length/\(∀φ':Nat->RA,(∀r d,rs[r]?=some d->φ' (n+r)=d)->VRL T w S φ' (ze0 T fe cs n).1 vs)/\
   (∀r e,(ze0 T fe cs n).2[r]?=some e-> ∃d,rs[r]?=some d/\e.cellIds= []/\ ∀φ':Nat->RA,φ' (n+r)=d->(∀a,d.ad=some a->a.block∈S)->EntR T w S φ' (n+r) e)/\
   (∀r d,rs[r]?=some d->d.xs= []/\ ∃c v,cs[p r]?=some c/\vs[p r]?=some v/\zw0 T (fe.getD (p r) 0) c v=zm9 d.ad)/\(∀r g,p r=p g->r=g)/\ ∀i∈v5 (ze0 T fe cs n).1,n<=i/\i<n+rs.length
 | [],fe,[],n,_,_=>⟨[],id,rfl,fun _ _=>by simp [ze0,VRL],fun r e h=>by simp [ze0] at h,fun r d h=>by simp at h,fun _ _ h=>h,fun i j=>by simp [ze0,v5] at j⟩
 | [],_,_::_,_,h,_=>by simp at h
 |_::_,_,[],_,h,_=>by simp at h
 |c::r,fe,v::vs,n,O,M=>by
  have k:DC T w S (fe.headD 0) c v:=by have:=M 0 c v rfl rfl;rwa [km1] at this
  have l: ∀f c v,r[f]?=some c->vs[f]?=some v->DC T w S (fe.tail.getD f 0) c v:=fun f c' m Q R=>by
   have:=M (f+1) c' m (by simpa using Q) (by simpa using R);rwa [vg6] at this
  have o:r.length=vs.length:=by simpa using O
  cases hc:gj8 (fe.headD 0) c with
  |none=>
   obtain ⟨rs,p,C,D,E,G,I,J⟩:=ym3 (fe:=fe.tail) n o l;refine ⟨rs,fun r=>p r+1,?_,fun φ' b=>?_,fun r e h=>?_,fun r d h=>?_,fun r g h=>I r g (Nat.succ.inj h),fun i j=>?_⟩
   ·simp only [ze0,hc];exact C
   ·simp only [ze0,hc];exact ⟨(kd2 hc v).1 k,D φ' b⟩
   ·simp only [ze0,hc] at h;exact E r e h
   ·obtain ⟨s,c',m,u,x,K⟩:=G r d h;exact ⟨s,c',m,by simpa using u,by simpa using x,by rw [vg6];exact K⟩
   ·simp only [ze0,hc,v5,AV.ids,N1] at j;exact J i j
  |some q=>
   obtain ⟨t,ys⟩:=q;obtain ⟨y,z⟩:=kd3 hc;simp only at z;subst z;obtain ⟨B,ad,cap,A,rfl,V,X,Y⟩:=k.2 (beq0 y);obtain ⟨rs,p,C,D,E,G,I,J⟩:=ym3 (fe:=fe.tail) (n+1) o l;refine ⟨⟨ad,List.length (α:=den T.U t) ys,cap,[]⟩::rs,fun r=>match r with|0=>0|r+1=>p r+1,?_,fun φ' b=>?_,fun r e h=>?_,fun r d h=>?_,fun r g h=>?_,fun i j=>?_⟩
   ·simp only [ze0,hc,U9,C]
   ·simp only [ze0,hc];refine ⟨?_,D φ' fun r d h=>?_⟩
    ·have:=b 0 _ rfl;rw [J5] at this;rw [VR,this]
    ·have:=b (r+1) d (by simpa using h);rwa [show n+(r+1)=n+1+r by omega] at this
   ·simp only [ze0,hc] at h;cases r with
    |zero=>
     simp only [Y4,X0] at h;subst h;refine ⟨_,rfl,rfl,fun φ' b L=>?_⟩;rw [J5] at b⊢;refine ⟨B,A,by rw [b];exact V,by rw [b],X,Y,fun a N=>L a (by rw [b] at N;exact N)⟩
    |succ r=>
     simp at h;obtain ⟨d,s,u,x⟩:=E r e h;refine ⟨d,by simpa using s,u,fun φ' b L=>?_⟩;rw [show n+(r+1)=n+1+r by omega] at b⊢;exact x φ' b L
   ·cases r with
    |zero=>
     simp only [Y4,X0] at h;subst h;exact ⟨rfl,_,_,rfl,rfl,by show zw0 T (fe.getD 0 0) _ _=_;rw [km1];unfold zw0;rw [y]⟩
    |succ r=>
     obtain ⟨s,c',m,u,x,K⟩:=G r d (by simpa using h);exact ⟨s,c',m,by simpa using u,by simpa using x,by show zw0 T (fe.getD (p r+1) 0) _ _=_;rw [vg6];exact K⟩
   ·cases r with
    |zero=>cases g with
     |zero=>rfl
     |succ g=>simp at h
    |succ r=>cases g with
     |zero=>simp at h
     |succ g=>have:=I r g (by simpa using h);omega
   ·simp only [ze0,hc,v5,AV.ids,K9,N1,Z0] at j;simp only [U9];rcases j with rfl|j
    ·omega
    ·have:=J i j;omega
def qv7 {α b:Type} {f:α->List b} {sz:Nat} (c: ∀y,(f y).length=sz) {l:List α} {a:Nat} {x:α} (d:l[a]?=some x) {q:Nat} (e:q<sz):(l.flatMap f)[a*sz+q]?=(f x)[q]?:=by
 rw [<-yk7 c d,Z3,if_pos e,Q7]
def Sim.openD (h:Sim T w0 S0 ⟨F,H⟩ F' w S φ) {k e d fe xs a} (X:H[k]?=some (.drow e d fe xs none)) (ha:a<xs.length):
  ∃φ',(∀i,i<H.length->RSame (φ' i) (φ i))/\Sim T w0 S0 ⟨F,yl6 T H k e d fe xs a⟩ F' w S φ':=by
 obtain ⟨B,D,o1,o2,o3,o4,o5⟩:=h.ents k _ X;have hkl:=(X2.1 X).1;have hxa:xs[a]?=some (xs.getD a (T.d d)):=zo2 (T.d d) ha;have hvl:D.length=xs.length*T.size d:=by rw [o1.len,o2]
 have hle:a*T.size d+T.size d<=xs.length*T.size d:=by rw [<-Nat.succ_mul];exact W0 _ ha
 let cs:=elD T d xs a
 let vs:=(D.drop (a*T.size d)).take (T.size d)
 have hcsl:cs.length=T.size d:=T.len _ _;have hvsl:vs.length=T.size d:=by simp [vs];omega
 have K: ∀f c,cs[f]?=some c->f<T.size d/\(xs.flatMap (T.cells d))[a*T.size d+f]?=some c:=fun f c o=>by
  have:=(X2.1 o).1;exact ⟨by omega,by rw [qv7 (T.len d) hxa (by omega)];exact o⟩
 have N: ∀f v,vs[f]?=some v->D[a*T.size d+f]?=some v:=fun f v o=>by
  simp only [vs,Z3] at o;split at o
  ·rw [Q7] at o;exact o
  ·cases o
 have hdc: ∀f c v,cs[f]?=some c->vs[f]?=some v->DC T w S (fe.getD f 0) c v/\ ∀b∈zw0 T (fe.getD f 0) c v,b∈(φ k).xs/\ ∀a,(φ k).ad=some a->a.block≠b:=fun f c v E G=>by
  obtain ⟨h3,h4⟩:=K f c E;have:=o5.cl _ c v h4 (N f v G) (fun q=>q);rwa [show (a*T.size d+f)%T.size d=f by rw [Nat.mul_comm,Nat.mul_add_mod,T4 h3]] at this
 obtain ⟨rs,p,k1,k2,k3,k4,k5,k6⟩:=ym3 (fe:=fe) (S:=S) (w:=w) H.length (hcsl.trans hvsl.symm) fun f c v E G=>(hdc f c v E G).1
 let OB:=rs.flatMap fun l=>zm9 l.ad
 have hob: ∀ {b:Nat},b∈OB-> ∃(r:Nat) (l:RA),rs[r]?=some l/\b∈zm9 l.ad:=fun {b} A=>by
  obtain ⟨l,E,G⟩:=K4.1 A;obtain ⟨r,M⟩:=Y9.1 E;exact ⟨r,l,M,G⟩
 let φ':Nat->RA:=fun i=>if i<H.length then (if i=k then ⟨(φ k).ad,(φ k).n,(φ k).cap,(φ k).xs.filter fun b=> !OB.contains b⟩ else φ i) else rs.getD (i-H.length) ⟨none,0,0,[]⟩
 have pk:φ' k=⟨(φ k).ad,(φ k).n,(φ k).cap,(φ k).xs.filter fun b=> !OB.contains b⟩:=by show (if k<H.length then _ else _)=_;rw [if_pos hkl,if_pos rfl]
 have Y: ∀i,i<H.length->i≠k->φ' i=φ i:=fun i hi hne=>by show (if i<H.length then _ else _)=_;rw [if_pos hi,if_neg hne]
 have Z: ∀r l,rs[r]?=some l->φ' (H.length+r)=l:=fun r l M=>by
  show (if H.length+r<H.length then _ else _)=_;rw [if_neg (by omega),N2,Y2,M];rfl
 have hs: ∀i,i<H.length->RSame (φ' i) (φ i):=fun i hi=>by
  by_cases he:i=k
  ·subst he;rw [pk];exact ⟨rfl,rfl,rfl⟩
  ·rw [Y i hi he];exact .of rfl
 have C: ∀ {x},At (φ' k) x->At (φ k) x/\x.block∉OB:=fun {x} g=>by
  rw [pk] at g;have notOB: ∀ {b},b∈OB->b∈(φ k).xs/\ ∀a,(φ k).ad=some a->a.block≠b:=fun {b} A=>by
   obtain ⟨r,l,M,A⟩:=hob A;obtain ⟨_,c,v,m,u,q4⟩:=k4 r l M;exact (hdc _ c v m u).2 b (q4▸A)
  rcases g with g|g
  ·exact ⟨.inl g,fun A=>(notOB A).2 x g rfl⟩
  ·obtain ⟨E,G⟩:=W3.1 g;exact ⟨.inr E,fun A=>absurd A (by simpa using G)⟩
 have s: ∀ {r l x},rs[r]?=some l->At l x->x.block∈(φ k).xs/\x.block∈OB/\ ∃c v,cs[p r]?=some c/\vs[p r]?=some v/\x.block∈zw0 T (fe.getD (p r) 0) c v:=fun {r l x} M g=>by
  obtain ⟨V,c,v,m,u,q4⟩:=k4 r l M;have had:l.ad=some x:=by
   rcases g with g|g
   ·exact g
   ·rw [V] at g;cases g
  have A:x.block∈zm9 l.ad:=by rw [had];simp [zm9]
  exact ⟨((hdc _ c v m u).2 _ (q4▸A)).1,K4.2 ⟨l,X6 M,A⟩,c,v,m,u,q4▸A⟩
 have L: ∀(i:Nat) (f:Ent T.U),(yl6 T H k e d fe xs a)[i]?=some f->(i=k/\f=.drow e d fe xs (some (a,(ze0 T fe cs H.length).1)))\/(i<H.length/\i≠k/\H[i]?=some f)\/ ∃r l,i=H.length+r/\rs[r]?=some l/\(ze0 T fe cs H.length).2[r]?=some f:=by
  intro i f o;unfold yl6 at o;by_cases hi:i<H.length
  ·rw [X8 (by simpa using hi)] at o;by_cases he:i=k
   ·subst he;rw [Q0 hkl] at o;exact .inl ⟨rfl,(X5 o).symm⟩
   ·rw [Z5 (Ne.symm he)] at o;exact .inr (.inl ⟨hi,he,o⟩)
  ·rw [Z2 (by simp;omega)] at o;simp only [Q3] at o;obtain ⟨l,M,_⟩:=k3 _ f o;exact .inr (.inr ⟨i-H.length,l,by omega,M,o⟩)
 have hlen:(yl6 T H k e d fe xs a).length=H.length+rs.length:=by unfold yl6;simp only [X9,Q3];rw [k1]
 refine ⟨φ',hs,h.ghost (by omega) hs (fun i e1 t ys hi g=>?_) (fun i f o hl x g=>?_) (fun i f o=>?_) (fun i f o j hj=>?_) (fun i j f f' o hf' hl hl' O x y g I=>?_)⟩
 ·rcases L i _ g with ⟨_,q⟩|⟨_,_,q⟩|⟨r,_,q,_⟩
  ·cases q
  ·exact q
  ·omega
 ·rcases L i f o with ⟨rfl,rfl⟩|⟨V,m,u⟩|⟨r,l,rfl,m,u⟩
  ·exact ⟨i,_,x,X,rfl,(C g).1,rfl⟩
  ·rw [Y i V m] at g;exact ⟨i,f,x,u,hl,g,rfl⟩
  ·rw [Z r l m] at g;exact ⟨k,_,⟨x.block,0,none⟩,X,rfl,.inr (s m g).1,rfl⟩
 ·rcases L i f o with ⟨rfl,rfl⟩|⟨V,m,u⟩|⟨r,l,rfl,m,u⟩
  ·refine ⟨B,D,by rw [pk];exact o1,by rw [pk];exact o2,o3,fun z hz=>o4 z (by rw [pk] at hz;exact hz),fun j c v E G h3=>?_,fun j j' c c' v v' hj E G _ h4 h5 _=>o5.ap j j' c c' v v' hj E G (fun q=>q) h4 h5 fun q=>q,fun a0 cs0 hop=>?_⟩
   ·obtain ⟨g1,g2⟩:=o5.cl j c v E G (fun q=>q);refine ⟨g1,fun b A=>?_⟩;rw [pk];refine ⟨W3.2 ⟨(g2 b A).1,?_⟩,(g2 b A).2⟩;cases hq:OB.contains b with
    |false=>rfl
    |true=>
     obtain ⟨r,l,M,hb'⟩:=hob (N7.1 hq);obtain ⟨_,c',v',m,u,q4⟩:=k4 r l M;obtain ⟨q5,q6⟩:=K _ c' m;have J:(a*T.size d+p r)%T.size d=p r:=by rw [Nat.mul_comm,Nat.mul_add_mod,T4 q5]
     refine absurd (q4▸hb') (J▸o5.ap j _ c c' v v' (fun e=>h3 ?_) E G (fun q=>q) q6 (N _ v' u) (fun q=>q) b A);subst e;exact ⟨by omega,by omega⟩
   ·simp only [X0,X7] at hop;obtain ⟨rfl,rfl⟩:=hop;refine ⟨ha,(jp8 _ _ _).trans hcsl,fun f x g=>?_⟩;obtain ⟨v,E,G⟩:=(k2 φ' Z).get T g;exact ⟨v,N f v E,G⟩
  ·refine (h.ents i f u).phiE (Y i V m) fun j hj=>hs j (h.eids i f u j hj)
  ·obtain ⟨Q,g1,g2,g3⟩:=k3 r f u;rw [m] at g1;obtain rfl:=X5 g1;refine g3 φ' (Z r l m) fun x g=>?_;have:=(s m (.inl g)).1;exact zh2 h X rfl (a:=⟨x.block,0,none⟩) (.inr this)
 ·rw [hlen];rcases L i f o with ⟨rfl,rfl⟩|⟨V,m,u⟩|⟨r,l,rfl,m,u⟩
  ·have:=k6 j hj;omega
  ·have:=h.eids i f u j hj;simp only at this;omega
  ·obtain ⟨Q,g1,g2,g3⟩:=k3 r f u;rw [g2] at hj;cases hj
 ·rcases L i f o with ⟨rfl,rfl⟩|⟨V,m,u⟩|⟨r,l,rfl,m,u⟩<;>rcases L j f' hf' with ⟨rfl,rfl⟩|⟨u1,R,u3⟩|⟨r',Q,rfl,R,u3⟩
  ·exact absurd rfl O
  ·rw [Y j u1 R] at I;exact h.apart i j _ _ X u3 rfl hl' O x y (C g).1 I
  ·rw [Z r' Q R] at I;exact fun e=>(C g).2 (e▸(s R I).2.1)
  ·rw [Y i V m] at g;exact h.apart i j _ _ u X hl rfl O x y g (C I).1
  ·rw [Y i V m] at g;rw [Y j u1 R] at I;exact h.apart i j _ _ u u3 hl hl' O x y g I
  ·rw [Y i V m] at g;rw [Z r' Q R] at I;exact h.apart i k _ _ u X hl rfl m x ⟨y.block,0,none⟩ g (.inr (s R I).1)
  ·rw [Z r l m] at g;exact fun e=>(C I).2 (e▸(s m g).2.1)
  ·rw [Z r l m] at g;rw [Y j u1 R] at I;exact h.apart k j _ _ X u3 rfl hl' (Ne.symm R) ⟨x.block,0,none⟩ y (.inr (s m g).1) I
  ·rw [Z r l m] at g;rw [Z r' Q R] at I;obtain ⟨_,_,c,v,g1,g2,g3⟩:=s m g;obtain ⟨_,_,c',v',g1',g2',g3'⟩:=s R I;intro e;have J: ∀ {f:Nat},f<T.size d->(a*T.size d+f)%T.size d=f:=fun {f} o=>by rw [Nat.mul_comm,Nat.mul_add_mod,T4 o]
   have hap:=o5.ap _ _ c c' v v' (fun q=>O ?_) (K _ c g1).2 (N _ v g2) (fun q=>q) (K _ c' g1').2 (N _ v' g2') (fun q=>q)
   ·rw [J (K _ c g1).1,J (K _ c' g1').1] at hap;exact absurd (e▸g3') (hap _ g3)
   rw [k5 r r' (by omega)]
end
end Go.X
namespace Go.X
open Go.RowKit Go.V
section
variable {T:Tab} {P:Program} {w w':World} {S S':List Nat} {φ φ':Nat->RA} {w0:World} {S0:Ow} {F:AF T} {H:List (Ent T.U)} {F':PF}
def nodup_cons {i r} (h:zd6 (i::r)=true):i∉r/\zd6 r=true:=by
 unfold zd6 at h;simp only [X3,V4] at h;exact ⟨fun a=>(by have:=zb9.2 a;rw [h.1] at this;cases this),h.2⟩
def CellsR.nilC:CellsR T w S [] []:=⟨rfl,fun j c v h=>by simp at h⟩
def qs7 (h:Sim T w0 S0 ⟨F,H⟩ F' w S φ) {t e a c l} (b:vm1 T H t e a=some (c,l)) {v} (g:VR T w S φ a v):
  DC T w S e c v/\((l= []/\zw0 T e c v= []/\ ∀j,a≠.own j)\/ ∃j q r ys,l= [j]/\a=.own j/\H[j]?=some (.row q r ys)/\zw0 T e c v=zm9 (φ j).ad):=by
 unfold vm1 at b;split at b
 ·rename_i j;split at b<;>try (cases b;done)
  rename_i D E ys s f;split at b<;>try (cases b;done)
  rename_i k;simp only [X3,V4] at k;obtain ⟨k,d⟩:=k;have:=X1 k;subst this;split at b<;>try (cases b;done)
  rename_i u;subst u;simp only [X0,X7] at b;obtain ⟨rfl,rfl⟩:=b;rw [VR] at g;subst g;obtain ⟨B,i,o,p,y,z,G⟩:=h.ents j _ f;refine ⟨⟨fun A=>absurd A (beq0 d),fun _=>⟨B,(φ j).ad,(φ j).cap,i,by rw [p],by rw [p] at o;exact o,y,z⟩⟩,.inr ⟨j,_,_,ys,rfl,rfl,f,by unfold zw0;rw [d]⟩⟩
 ·split at b<;>try (cases b;done)
  rename_i s;simp only [X0,X7] at b;obtain ⟨rfl,rfl⟩:=b;rw [VR] at g;subst g;exact ⟨⟨fun _=>CR.nilS,fun _=>⟨0,none,0,[],rfl,Own.nil _ _ _ _,J7 _,CellsR.nilC⟩⟩,.inl ⟨rfl,by unfold zw0;cases Nat.beq e 0<;>rfl,by intro j f;cases f⟩⟩
 ·split at b<;>try (cases b;done)
  rename_i C _ m;obtain ⟨t,x⟩:=C;cases d:Nat.beq e 0 with
  |true=>
   have:=X1 d;subst this;simp only [X0,X7] at b;obtain ⟨rfl,rfl⟩:=b;refine ⟨?_,.inl ⟨rfl,rfl,by intro j f;cases f⟩⟩;cases t<;>first|exact ⟨fun _=>g,fun h=>absurd rfl h⟩|exact g
  |false=>
   rw [d,Bool.or_false] at m;have n:zw0 T e (⟨t,x⟩:Cell T.U) v= []:=by unfold zw0;rw [d];cases t<;>first|(cases m;done)|rfl
   simp only [X0,X7] at b;obtain ⟨rfl,rfl⟩:=b;refine ⟨?_,.inl ⟨rfl,n,by intro j f;cases f⟩⟩;cases t<;>first|(cases m;done)|exact g
 ·cases b
def yw2 (h:Sim T w0 S0 ⟨F,H⟩ F' w S φ): ∀ {C fe as cs ids vs},ye0 T H C fe as=some (cs,ids)->VRL T w S φ as vs->
  cs.length=as.length/\(∀(f:Nat) (c:Cell T.U) (v:Value),cs[f]?=some c->vs[f]?=some v->DC T w S (fe.getD f 0) c v)/\(∀(f:Nat) (c:Cell T.U) (v:Value) (b:Nat),cs[f]?=some c->vs[f]?=some v->b∈zw0 T (fe.getD f 0) c v-> ∃(j:Nat) (ad:Addr),as[f]?=some (AV.own j:AV T.U)/\j∈ids/\(φ j).ad=some ad/\ad.block=b)/\
   (∀j∈ids,∃e t ys,H[j]?=some (.row e t ys))/\(∀(f j:Nat),as[f]?=some (AV.own j:AV T.U)->j∈ids)/\(zd6 ids=true-> ∀(f n j:Nat),as[f]?=some (AV.own j:AV T.U)->as[n]?=some (AV.own j:AV T.U)->f=n)
 | [],fe,[],cs,ids,vs,d,_=>by
  simp only [ye0,X0,X7] at d;obtain ⟨rfl,rfl⟩:=d;exact ⟨rfl,fun f c v h=>by simp at h,fun f c v b h=>by simp at h,by simp,fun f j h=>by simp at h,fun _ f n j h=>by simp at h⟩
 | [],_,_::_,_,_,_,d,_=>by simp [ye0] at d
 |_::_,_,[],_,_,_,d,_=>by simp [ye0] at d
 |_::_,_,_::_,_,_,[],_,p=>p.elim
 |t::C,fe,a::as,cs,ids,v::vs,d,p=>by
  unfold ye0 at d;split at d<;>try (cases d;done)
  rename_i c l I D J K;simp only [X0,X7] at d;obtain ⟨rfl,rfl⟩:=d;obtain ⟨L,q⟩:=qs7 h J p.1;obtain ⟨M,N,O,Q,s,R⟩:=yw2 h K p.2;refine ⟨by simp [M],fun f c' x g i=>?_,fun f c' x b g i k=>?_,fun j m=>?_,fun f j r=>?_,fun E f n j g i=>?_⟩
  ·cases f with
   |zero=>
    simp only [Y4,X0] at g i;subst g;subst i;rw [km1];exact L
   |succ f=>rw [vg6];exact N f c' x (by simpa using g) (by simpa using i)
  ·cases f with
   |zero=>
    simp only [Y4,X0] at g i;subst g;subst i;rw [km1] at k;rcases q with ⟨_,y,_⟩|⟨j,_,_,_,rfl,rfl,_,z⟩
    ·rw [y] at k;cases k
    ·rw [z] at k;unfold zm9 at k;split at k
     ·rename_i ad A;simp only [Q6] at k;exact ⟨j,ad,rfl,by simp,A,k.symm⟩
     ·cases k
   |succ f=>
    rw [vg6] at k;obtain ⟨j,ad,V,y,B,z⟩:=O f c' x b (by simpa using g) (by simpa using i) k;exact ⟨j,ad,by simpa using V,X4.2 (.inr y),B,z⟩
  ·rcases X4.1 m with m|m
   ·rcases q with ⟨rfl,_⟩|⟨G,_,_,_,rfl,_,B,_⟩
    ·cases m
    ·simp only [Q6] at m;subst m;exact ⟨_,_,_,B⟩
   ·exact Q j m
  ·cases f with
   |zero=>
    simp only [Y4,X0] at r;rcases q with ⟨_,_,u⟩|⟨G,_,_,_,rfl,rfl,_,_⟩
    ·exact absurd r (u j)
    ·cases r;simp
   |succ f=>exact X4.2 (.inr (s f j (by simpa using r)))
  ·have o:zd6 D=true/\ ∀j,a=.own j->j∉D:=by
    rcases q with ⟨rfl,_,u⟩|⟨G,_,_,_,rfl,rfl,_,_⟩
    ·exact ⟨E,fun j m=>absurd m (u j)⟩
    ·obtain ⟨X,Y⟩:=nodup_cons E;exact ⟨Y,fun j m=>by cases m;exact X⟩
   cases f with
   |zero=>
    simp only [Y4,X0] at g;cases n with
    |zero=>rfl
    |succ n=>exact absurd (s n j (by simpa using i)) (o.2 j g)
   |succ f=>
    cases n with
    |zero=>
     simp only [Y4,X0] at i;exact absurd (s f j (by simpa using g)) (o.2 j i)
    |succ n=>rw [R o.1 f n j (by simpa using g) (by simpa using i)]
def yn8 {α}: ∀(l cs:List α) (o j:Nat),o+l.length<=cs.length->(zj5 cs o l)[j]?=if o<=j/\j<o+l.length then l[j-o]? else cs[j]?
 | [],cs,o,j,_=>by rw [zj5,if_neg (by simp only [List.length_nil];omega)]
 |a::r,cs,o,j,h=>by
  simp only [U9] at h;have d:o+1+r.length<=(cs.set o a).length:=by rw [Q3];omega
  rw [zj5,yn8 r _ _ _ d];simp only [U9];by_cases b:o+1<=j/\j<o+1+r.length
  ·rw [if_pos b,if_pos (by omega),show j-o=(j-(o+1))+1 by omega,List.getElem?_cons_succ]
  ·rw [if_neg b];by_cases c:j=o
   ·subst c;rw [if_pos (by omega),Q0 (by omega),Nat.sub_self,Y4]
   ·rw [if_neg (by omega),Z5 (Ne.symm c)]
def kk1 {α e:Type} {f:α->List e} {sz:Nat} (b: ∀y,(f y).length=sz) {l:List α} {a:Nat} {y:α} (d:a<l.length) (j:Nat):((l.set a y).flatMap f)[j]?=if a*sz<=j/\j<a*sz+sz then (f y)[j-a*sz]? else (l.flatMap f)[j]?:=by
 have g:l[a]?=some l[a]:=Y0 d;have h:a*sz+sz<=l.length*sz:=by rw [<-Nat.succ_mul];exact W0 _ d
 rw [ym1 b g (y:=y) (l:=f y) (c:=0) (by rw [ja2 _ _ (by rw [b,b];exact W8 _),b,R3 (by rw [b];exact W8 _),M4]) (by rw [b];omega),yn8 _ _ _ _ (by rw [b,zb3 b];omega),b,J5]
def Sim.closeD (h:Sim T w0 S0 ⟨F,H⟩ F' w S φ) {k e d fe xs a as l ids y} (hk:H[k]?=some (.drow e d fe xs (some (a,as)))) (hc:ye0 T H (kr5 T d) fe as=some (l,ids)) (hn:zd6 ids=true) (hp:T.pack d l=some y):
  ∃φ',(∀i,RSame (φ' i) (φ i))/\Sim T w0 S0 ⟨F,zw5 T (H.set k (.drow e d fe (xs.set a y) none)) ids⟩ F' w S φ':=by
 obtain ⟨B,o,o1,o2,o3,o4,o5⟩:=h.ents k _ hk;have hkl:=(X2.1 hk).1;obtain ⟨ha,hal,hop⟩:=o5.opn _ _ rfl;have hvl:o.length=xs.length*T.size d:=by rw [o1.len,o2]
 have hle:a*T.size d+T.size d<=xs.length*T.size d:=by rw [<-Nat.succ_mul];exact W0 _ ha
 let vs:=(o.drop (a*T.size d)).take (T.size d)
 have hvsl:vs.length=T.size d:=by simp [vs];omega
 have hvs: ∀f,f<T.size d->vs[f]?=o[a*T.size d+f]?:=fun f p=>by simp only [vs,Z3,if_pos p,Q7]
 have hvrl:VRL T w S φ as vs:=by
  have key: ∀(as:List (AV T.U)) (vs:List Value),as.length=vs.length->(∀(f:Nat) (x:AV T.U),as[f]?=some x-> ∃v,vs[f]?=some v/\VR T w S φ x v)->VRL T w S φ as vs:=by
   intro as;induction as with
   |nil=>intro vs A _;cases vs with
    |nil=>trivial
    |cons _ _=>simp at A
   |cons x r ih=>
    intro vs A g;cases vs with
    |nil=>simp at A
    |cons v s=>
     obtain ⟨Y,N,V⟩:=g 0 x rfl;simp only [Y4,X0] at N;subst N;exact ⟨V,ih s (by simpa using A) fun f z J=>by simpa using g (f+1) z (by simpa using J)⟩
  refine key as vs (hal.trans hvsl.symm) fun f x g=>?_;have p:f<T.size d:=by have:=(X2.1 g).1;omega
  rw [hvs f p];exact hop f x g
 obtain ⟨k1,k2,k3,k4,k5,k6⟩:=yw2 h hc hvrl;have hy:T.cells d y=l:=T.packed _ _ _ hp;have hki:k∉ids:=fun hm=>by obtain ⟨_,_,_,q⟩:=k4 k hm;rw [hk] at q;cases q
 let φ':Nat->RA:=fun i=>if i=k then ⟨(φ k).ad,(φ k).n,(φ k).cap,(φ k).xs++ids.flatMap fun j=>(φ j).all⟩ else φ i
 have pk:φ' k=⟨(φ k).ad,(φ k).n,(φ k).cap,(φ k).xs++ids.flatMap fun j=>(φ j).all⟩:=if_pos rfl;have po: ∀i,i≠k->φ' i=φ i:=fun i hi=>if_neg hi;have hs: ∀i,RSame (φ' i) (φ i):=fun i=>by
  by_cases X:i=k
  ·subst X;rw [pk];exact ⟨rfl,rfl,rfl⟩
  ·rw [po i X];exact .of rfl
 have hatk: ∀ {x},At (φ' k) x->At (φ k) x\/ ∃j∈ids,∃z,At (φ j) z/\z.block=x.block:=fun {x} g=>by
  rw [pk] at g;rcases g with g|g
  ·exact .inl (.inl g)
  ·rcases X4.1 g with g|g
   ·exact .inl (.inr g)
   ·obtain ⟨j,C,g⟩:=K4.1 g;exact .inr ⟨j,C,zu0.1 g⟩
 have K: ∀(i:Nat) (f:Ent T.U),(zw5 T (H.set k (.drow e d fe (xs.set a y) none)) ids)[i]?=some f->f.live=true->(i=k/\f=.drow e d fe (xs.set a y) none)\/(i∉ids/\i≠k/\H[i]?=some f):=by
  intro i f p A;obtain ⟨g1,D⟩:=qc3 p A;by_cases X:i=k
  ·subst X;rw [Q0 hkl] at D;exact .inl ⟨rfl,(X5 D).symm⟩
  ·rw [Z5 (Ne.symm X)] at D;exact .inr ⟨g1,X,D⟩
 have hlen:(zw5 T (H.set k (.drow e d fe (xs.set a y) none)) ids).length=H.length:=by rw [jd9];simp
 have hcl: ∀ {f:Ent T.U},f=.gone\/f.live=true:=fun {f}=>by cases f<;>first|exact .inl rfl|exact .inr rfl
 have G: ∀j c v,((xs.set a y).flatMap (T.cells d))[j]?=some c->o[j]?=some v->(∃f,j=a*T.size d+f/\f<T.size d/\l[f]?=some c/\vs[f]?=some v)\/((xs.flatMap (T.cells d))[j]?=some c/\ ¬vt9 T (T.size d) (some (a,as)) j):=by
  intro j c v N V;rw [kk1 (T.len d) ha] at N;split at N
  ·rename_i C;rw [hy] at N;refine .inl ⟨j-a*T.size d,by omega,by omega,N,?_⟩;rw [hvs _ (by omega),show a*T.size d+(j-a*T.size d)=j by omega];exact V
  ·rename_i C;exact .inr ⟨N,C⟩
 refine ⟨φ',hs,h.ghost (by omega) (fun i _=>hs i) (fun i e1 t ys _ g=>?_) (fun i f p A x g=>?_) (fun i f p=>?_) (fun i f p j C=>?_) (fun i j f f' p Z A hl' hij x z g J=>?_)⟩
 ·rcases K i _ g rfl with ⟨_,q⟩|⟨_,_,q⟩
  ·cases q
  ·exact q
 ·rcases K i f p A with ⟨rfl,rfl⟩|⟨_,q2,q3⟩
  ·rcases hatk g with g|⟨j,C,z,J,X⟩
   ·exact ⟨i,_,x,hk,rfl,g,rfl⟩
   ·obtain ⟨_,_,_,q⟩:=k4 j C;exact ⟨j,_,z,q,rfl,J,X⟩
  ·rw [po i q2] at g;exact ⟨i,f,x,q3,A,g,rfl⟩
 ·rcases hcl (f:=f) with rfl|A
  ·trivial
  rcases K i f p A with ⟨rfl,rfl⟩|⟨_,q2,q3⟩
  ·refine ⟨B,o,by rw [pk];exact o1,by rw [pk,Q3];exact o2,o3,fun z J=>o4 z (by rw [pk] at J;exact J),fun j c v N V _=>?_,fun j L c c' v Y C N V _ h4 h5 _ b O M=>?_,fun a0 cs0 hq=>by cases hq⟩
   ·rcases G j c v N V with ⟨f,rfl,p,E,u⟩|⟨E,u⟩
    ·rw [show (a*T.size d+f)%T.size d=f by rw [Nat.mul_comm,Nat.mul_add_mod,T4 p]];refine ⟨k2 f c v E u,fun b O=>?_⟩;obtain ⟨j,ad,g1,D,g3,rfl⟩:=k3 f c v b E u O;obtain ⟨_,_,_,q⟩:=k4 j D;rw [pk];refine ⟨X4.2 (.inr (K4.2 ⟨j,D,zu0.2 ⟨ad,.inl g3,rfl⟩⟩)),fun z J=>?_⟩;exact h.apart i j _ _ hk q rfl rfl (fun e=>hki (e▸D)) z ad (.inl J) (.inl g3)
    ·obtain ⟨g1,D⟩:=o5.cl j c v E V u;refine ⟨g1,fun b O=>?_⟩;rw [pk];exact ⟨X4.2 (.inl (D b O).1),(D b O).2⟩
   ·have I: ∀ {f:Nat},f<T.size d->(a*T.size d+f)%T.size d=f:=fun {f} p=>by rw [Nat.mul_comm,Nat.mul_add_mod,T4 p]
    have m: ∀ {f:Nat} {c:Cell T.U} {v:Value} {L:Nat} {c':Cell T.U} {Y:Value},l[f]?=some c->vs[f]?=some v->(xs.flatMap (T.cells d))[L]?=some c'->o[L]?=some Y-> ¬vt9 T (T.size d) (some (a,as)) L->b∈zw0 T (fe.getD f 0) c v->b∈zw0 T (fe.getD (L%T.size d) 0) c' Y->False:=by
     intro f c v L c' Y E u u3 u4 u5 u6 u7;obtain ⟨j,ad,g1,D,g3,rfl⟩:=k3 f c v b E u u6;obtain ⟨_,_,_,q⟩:=k4 j D;have:=((o5.cl L c' Y u3 u4 u5).2 _ u7).1;exact h.apart i j _ _ hk q rfl rfl (fun e=>hki (e▸D)) ⟨ad.block,0,none⟩ ad (.inr this) (.inl g3) rfl
    rcases G j c v N V with ⟨f,rfl,p,E,u⟩|⟨E,u⟩<;>rcases G L c' Y h4 h5 with ⟨f',rfl,Z,Q,R⟩|⟨Q,R⟩
    ·rw [I p] at O;rw [I Z] at M;obtain ⟨j,ad,g1,D,g3,rfl⟩:=k3 f c v b E u O;obtain ⟨L,ad',g1',g2',g3',g4'⟩:=k3 f' c' Y _ Q R M;obtain ⟨_,_,_,q⟩:=k4 j D;obtain ⟨_,_,_,q'⟩:=k4 L g2';by_cases hjj:j=L
     ·subst hjj;exact C (by rw [k6 hn f f' j g1 g1'])
     ·exact h.apart j L _ _ q q' rfl rfl hjj ad ad' (.inl g3) (.inl g3') g4'.symm
    ·rw [I p] at O;exact m E u Q h5 R O M
    ·rw [I Z] at M;exact m Q R E V u M O
    ·exact o5.ap j L c c' v Y C E V u Q h5 R b O M
  ·exact (h.ents i f q3).phiE (po i q2) fun j _=>hs j
 ·rw [hlen];rcases hcl (f:=f) with rfl|A
  ·cases C
  rcases K i f p A with ⟨rfl,rfl⟩|⟨_,q2,q3⟩
  ·cases C
  ·exact h.eids i f q3 j C
 ·have m: ∀ {i f x z},i∉ids->i≠k->H[i]?=some f->f.live=true->At (φ' k) x->At (φ' i) z->x.block≠z.block:=by
   intro i f x z E u u3 u4 u5 u6;rw [po i u] at u6;rcases hatk u5 with g|⟨j,C,z',hz',X⟩
   ·exact h.apart k i _ _ hk u3 rfl u4 (Ne.symm u) x z g u6
   ·obtain ⟨_,_,_,q⟩:=k4 j C;rw [<-X];exact h.apart j i _ _ q u3 rfl u4 (fun e=>E (e▸C)) z' z hz' u6
  rcases K i f p A with ⟨rfl,rfl⟩|⟨q1,q2,q3⟩<;>rcases K j f' Z hl' with ⟨rfl,rfl⟩|⟨E,u,u3⟩
  ·exact absurd rfl hij
  ·exact m E u u3 hl' g J
  ·exact (m q1 q2 q3 A J g).symm
  ·rw [po i q2] at g;rw [po j u] at J;exact h.apart i j _ _ q3 u3 A hl' hij x z g J
def jw5 {k} (h:zc4 T w0 S0 ⟨F,H⟩ F' w):zc4 T w0 S0 ⟨F,yr9 T H k⟩ F' w:=by
 unfold yr9;split
 ·rename_i a;split
  ·rename_i b;split
   ·rename_i c d;obtain ⟨S,φ,h⟩:=h;obtain ⟨φ',_,e⟩:=h.closeD a b c d;exact ⟨S,φ',e⟩
   ·exact h
  ·exact h
 ·exact h
def zw1: ∀(l) {H},zc4 T w0 S0 ⟨F,H⟩ F' w->zc4 T w0 S0 ⟨F,closeL T l H⟩ F' w
 | [],H,h=>h
 |k::r,H,h=>zw1 r (jw5 h)
def VRL.phiS {as vs} (h:VRL T w S φ as vs) (a: ∀i∈v5 as,RSame (φ' i) (φ i)):VRL T w S φ' as vs:=by
 have:=VRL.renS T (ρ:=id) (φ':=φ') a h;rwa [zr3] at this
def Sim.closeL: ∀(l) {H φ},Sim T w0 S0 ⟨F,H⟩ F' w S φ-> ∃φ',Sim T w0 S0 ⟨F,closeL T l H⟩ F' w S φ'/\(∀i,RSame (φ' i) (φ i))/\(Go.X.closeL T l H).length=H.length
 | [],H,φ,h=>⟨φ,h,fun _=>.of rfl,rfl⟩
 |k::r,H,φ,h=>by
  have a: ∃φ',Sim T w0 S0 ⟨F,yr9 T H k⟩ F' w S φ'/\(∀i,RSame (φ' i) (φ i))/\(yr9 T H k).length=H.length:=by
   unfold yr9;split
   ·rename_i e;split
    ·rename_i f;split
     ·rename_i g j;obtain ⟨φ',b,c⟩:=h.closeD e f g j;exact ⟨φ',c,b,by rw [jd9];simp⟩
     ·exact ⟨φ,h,fun _=>.of rfl,rfl⟩
    ·exact ⟨φ,h,fun _=>.of rfl,rfl⟩
   ·exact ⟨φ,h,fun _=>.of rfl,rfl⟩
  obtain ⟨m,b,c,n⟩:=a;obtain ⟨d,o,p,q⟩:=Sim.closeL r b;exact ⟨d,o,fun i=>(p i).trans (c i),q.trans n⟩
def DC.frz {e c v} (h:DC T w S e c v) (j: ∀b∈S',b∈S) (k: ∀b∈zw0 T e c v,b∈S/\b∉S'):yu0 T w S' c v:=by
 obtain ⟨t,x⟩:=c;cases t with
 |list t=>
  cases hez:Nat.beq e 0 with
  |true=>exact CR.sub0 (h.1 (X1 hez)) j
  |false=>
  obtain ⟨B,ad,cap,d,rfl,l,m,n⟩:=h.2 (beq0 hez);have f: ∀a,ad=some a->a.block∈S/\a.block∉S':=fun a g=>k _ (by subst g;simp [zw0,hez,zm9]);have:=qr5 (T:=T) (w:=w) (S:=S) (S':=S') (φ:=fun _=>⟨ad,List.length (α:=den T.U t) x,cap,[]⟩) (i:=0) (e:=e) (t:=t) (xs:=x) ⟨B,d,l,rfl,m,n,fun a g=>(f a g).1⟩ j fun a g=>(f a g).2;exact this
 |_=>exact CR.sub0 h j
def Sim.seal1 (h:Sim T w0 S0 ⟨F,H⟩ F' w S φ) (hF: ∀i a,F.get T i=some a->zh4 a=true) {k e d fe xs} (C:H[k]?=some (.drow e d fe xs none)):
  ∃S' φ',Sim T w0 S0 ⟨F,H.set k (.row e (.user d) xs)⟩ F' w S' φ':=by
 obtain ⟨B,L,o1,o2,o3,o4,o5⟩:=h.ents k _ C;have V:=(X2.1 C).1
 let S':=S.filter fun b=> !(φ k).xs.contains b||(zm9 (φ k).ad).contains b
 let φ':Nat->RA:=fun i=>if i=k then ⟨(φ k).ad,(φ k).n,(φ k).cap,[]⟩ else φ i
 have pk:φ' k=⟨(φ k).ad,(φ k).n,(φ k).cap,[]⟩:=if_pos rfl;have E: ∀i,i≠k->φ' i=φ i:=fun i X=>if_neg X;have Y: ∀i,RSame (φ' i) (φ i):=fun i=>by
  by_cases J:i=k
  ·subst J;rw [pk];exact ⟨rfl,rfl,rfl⟩
  ·rw [E i J];exact .of rfl
 have o: ∀b∈S',b∈S:=fun b l=>(W3.1 l).1;have z: ∀ {b},b∈S->(b∉(φ k).xs\/ ∃a,(φ k).ad=some a/\a.block=b)->b∈S':=fun {b} l Z=>by
  refine W3.2 ⟨l,?_⟩;rcases Z with G|⟨a,G,M⟩
  ·have:(φ k).xs.contains b=false:=by
    cases R:(φ k).xs.contains b with
    |false=>rfl
    |true=>exact absurd (N7.1 R) G
   rw [this];rfl
  ·have:(zm9 (φ k).ad).contains b=true:=N7.2 (by rw [G,<-M];simp [zm9]);rw [this,Bool.or_true]
 have I: ∀ {b},b∈S'->b∈(φ k).xs-> ∃a,(φ k).ad=some a/\a.block=b:=fun {b} l N=>by
  have:=(W3.1 l).2;rw [N7.2 N,W9,Bool.false_or] at this;have:=N7.1 this;unfold zm9 at this;split at this
  ·rename_i a g;exact ⟨a,g,(Q6.1 this).symm⟩
  ·cases this
 have t: ∀(i:Nat) (f:Ent T.U),(H.set k (.row e (.user d) xs))[i]?=some f->(i=k/\f=.row e (.user d) xs)\/(i≠k/\H[i]?=some f):=by
  intro i f m;by_cases J:i=k
  ·subst J;rw [Q0 V] at m;exact .inl ⟨rfl,(X5 m).symm⟩
  ·rw [Z5 (Ne.symm J)] at m;exact .inr ⟨J,m⟩
 have D: ∀ {i f a},i≠k->H[i]?=some f->f.live=true->At (φ i) a->a.block∈S':=fun {i f a} X m x g=>
  z (zh2 h m x g) (.inl fun N=>h.apart k i _ f C m rfl x (Ne.symm X) ⟨a.block,0,none⟩ a (.inr N) g rfl)
 have u: ∀ {a},At (φ' k) a->(φ k).ad=some a:=fun {a} g=>by
  rw [pk] at g;rcases g with g|g
  ·exact g
  ·cases g
 refine ⟨S',φ',fun i a g=>?_,fun i a g=>⟨fun j Q=>by simpa using (h.ids i a g).1 j Q,?_⟩,h.chg,fun b l=>h.own b (o b l),fun b l p s=>?_,fun i f m x a g=>?_,fun q r R=>⟨(Y q).trans (h.pins q r R).1,by simpa using (h.pins q r R).2⟩,fun i f m=>?_,fun i f m j Q=>?_,fun i j f f' m hf' x O A a b g l=>?_⟩
 ·obtain ⟨v,G,M⟩:=h.fr i a g;exact ⟨v,G,(M.chg T (Chg.refl [] w) (by simp) fun b l=>.inl (o b l)).phiS fun j _=>Y j⟩
 ·have:=hF i a g;cases a<;>first|trivial|cases this
 ·refine z (h.ex b l p s) (.inl fun N=>?_);rcases (h.lives k _ C rfl ⟨b,0,none⟩ (.inr N)).2 with K|K
  ·exact p K
  ·have K:w0.heap.size<=b:=K;omega
 ·rcases t i f m with ⟨rfl,rfl⟩|⟨p,s⟩
  ·have g:=u g;exact ⟨z (o4 a g) (.inr ⟨a,g,rfl⟩),(h.lives i _ C rfl a (.inl g)).2⟩
  ·rw [E i p] at g;exact ⟨D p s x g,(h.lives i f s x a g).2⟩
 ·rcases t i f m with ⟨rfl,rfl⟩|⟨p,s⟩
  ·refine ⟨B,L,by rw [pk];exact o1,by rw [pk];exact o2,o3,⟨?_,fun j c v G M=>?_⟩,fun a g=>?_⟩
   ·rw [o1.len,o2];exact zb3 (f:=zd1 T (.user d)) (sz:=T.size d) (fun y=>T.len d y) xs
   ·obtain ⟨g1,g2⟩:=o5.cl j c v G M (fun q=>q);refine g1.frz o fun b l=>⟨zh2 h C rfl (a:=⟨b,0,none⟩) (.inr (g2 b l).1),fun K=>?_⟩;obtain ⟨a,g,hab⟩:=I K (g2 b l).1;exact (g2 b l).2 a g hab
   ·rw [pk] at g;exact z (o4 a g) (.inr ⟨a,g,rfl⟩)
  ·exact ((h.ents i f s).chg T (Chg.refl [] w) (by simp) (fun b l=>.inl (o b l)) fun x a g=>⟨by simp,D p s x g⟩).phiE (E i p) fun j _=>Y j
 ·rw [Q3];rcases t i f m with ⟨rfl,rfl⟩|⟨p,s⟩
  ·cases Q
  ·exact h.eids i f s j Q
 ·rcases t i f m with ⟨rfl,rfl⟩|⟨p,s⟩<;>rcases t j f' hf' with ⟨rfl,rfl⟩|⟨u1,u2⟩
  ·exact absurd rfl A
  ·rw [E j u1] at l;exact h.apart i j _ f' C u2 rfl O A a b (.inl (u g)) l
  ·rw [E i p] at g;exact h.apart i j f _ s C x rfl A a b g (.inl (u l))
  ·rw [E i p] at g;rw [E j u1] at l;exact h.apart i j f f' s u2 x O A a b g l
def kn1 (F:AF T):Bool:=F.all fun p=>zh4 p.2
def jp5: ∀ {F},kn1 F=true-> ∀i a,F.get T i=some a->zh4 a=true
 | [],_,i,a,h=>by simp [AF.get] at h
 |(j,b)::r,hF,i,a,h=>by
  unfold kn1 at hF;rw [V1,X3] at hF;simp only [AF.get] at h;split at h
  ·simp only [X0] at h;subst h;exact hF.1
  ·exact jp5 (F:=r) hF.2 i a h
def gu8 (H:List (Ent T.U)) (k:Nat):List (Ent T.U):=match H[k]? with|some (.drow e d _ xs none)=>H.set k (.row e (.user d) xs)|_=>H
def wc9:List Nat->List (Ent T.U)->List (Ent T.U)
 | [],H=>H
 |k::r,H=>wc9 r (gu8 H k)
def jh0 (hF: ∀i a,F.get T i=some a->zh4 a=true): ∀(l) {H},zc4 T w0 S0 ⟨F,H⟩ F' w->zc4 T w0 S0 ⟨F,wc9 l H⟩ F' w
 | [],H,h=>h
 |k::r,H,h=>by
  refine jh0 hF r ?_;unfold gu8;split
  ·rename_i b;obtain ⟨S,φ,h⟩:=h;obtain ⟨S',φ',c⟩:=h.seal1 hF b;exact ⟨S',φ',c⟩
  ·exact h
def dzS:Nat->St T->St T
 |0,st=>st
 |1,st=>⟨st.F,closeL T (List.range st.H.length) st.H⟩
 |_,st=>match kn1 st.F with|true=>⟨st.F,wc9 (List.range st.H.length) (closeL T (List.range st.H.length) st.H)⟩|false=>st
def qb9: ∀(m) {st},zc4 T w0 S0 st F' w->zc4 T w0 S0 (dzS m st) F' w
 |0,_,h=>h
 |1,⟨F,H⟩,h=>zw1 _ h
 |_+2,⟨F,H⟩,h=>by
  cases hF:kn1 F with
  |true=>simp only [dzS,hF];exact jh0 (jp5 hF) _ (zw1 _ h)
  |false=>simp only [dzS,hF];exact h
end
end Go.X
namespace Go.X
open Go.RowKit Go.V
section
variable {T:Tab} (P:Program) (C:Ctx T) {R:Type}
def qv9:AV T.U->Bool| .cell c=>c.t.scal|_=>false
def gj9:AV T.U->Bool| .agg cs=>cs.all qv9|a=>qv9 a
def yv1 (t:TypeId) (H:List (Ent T.U)) (k sz a c:Nat) (e:TypeId) (d:Nat) (fe:List TypeId) (xs:List (T.U d)) (op:Option (Nat×List (AV T.U))) (K:AV T.U->List (Ent T.U)->Option R):Option R:=
 match Nat.beq sz (T.size d) with
 |false=>none
 |true=>match op with
  |none=>match zt4 T P t ((elD T d xs a).map .cell) c with
   |some v=>match gj9 v with
    |true=>if a<xs.length then K v H else none
    |false=>match zt4 T P t (ze0 T fe (elD T d xs a) H.length).1 c with
     |some u=>(match zh4 u with|true=>if a<xs.length then K u (yl6 T H k e d fe xs a) else none|false=>none)
     |none=>none
   |none=>none
  |some (b,cs)=>match zt4 T P t cs c with
   |some u=>(match zh4 u with|true=>if a=b then K u H else none|false=>none)
   |none=>none
def yi1 (t:TypeId) (H:List (Ent T.U)) (k sz a c:Nat) (e:TypeId) (d:Nat) (fe:List TypeId) (xs:List (T.U d)) (op:Option (Nat×List (AV T.U))) (v:AV T.U) (K:List (Ent T.U)->Option R):Option R:=
 match Nat.beq sz (T.size d)&&jx1 T P t c (T.size d) v with
 |false=>none
 |true=>match op with
  |none=>if a<xs.length then K ((yl6 T H k e d fe xs a).set k (.drow e d fe xs (some (a,yl7 T (ze0 T fe (elD T d xs a) H.length).1 c (zf5 T v))))) else none
  |some (b,cs)=>if a=b then K (H.set k (.drow e d fe xs (some (b,yl7 T cs c (zf5 T v))))) else none
variable (T) in
def wd2 (t:Ty) (v:Value):Option (Cell T.U):=
 match t,v with
 | .list a,.slice none 0 0=>some ⟨.list a,[]⟩
 |_,v=>match qm9 T (yw6 T v) with|some c=>(match c.t.scal with|true=>some c|false=>none)|none=>none
variable (T) in
def yx8:List Ty->List Value->Option (List (Cell T.U))
 | [],[]=>some []
 |t::a,v::vs=>match wd2 T t v,yx8 a vs with|some c,some l=>some (c::l)|_,_=>none
 |_,_=>none
def qa5 (d:Nat) (fe:List TypeId) (t:TypeId) (H:List (Ent T.U)) (l c:Int) (K:AV T.U->List (Ent T.U)->Option R):Option R:=
 match zz6 P t with
 |some (e,sz,a,b)=>match Nat.beq sz (T.size d),yx8 T (kr5 T d) b.toList with
  |true,some z=>match T.pack d z with
   |some f=>if 0<=l/\l<=c/\a*c.toNat<=281474976710656/\c<=9223372036854775807 then K (.own H.length) (H++ [.drow e d fe (List.replicate l.toNat f) none]) else none
   |none=>none
  |_,_=>none
 |none=>none
def idxD (n:Nat) (j:Int) (x:Nat->Option R):Option R:=if 0<=j/\j<((n:Nat):Int) then x j.toNat else none
def zo8 (o:Oper) (st:St T) (K:St T->Option R):Option (Option R):=
 match o.op with
 | .makeSlice t x y=>match C.dr t with
  |some (d,fe)=>some (match aev T st.F x,aev T st.F y with|some (.cell ⟨.int _,l⟩),some (.cell ⟨.int _,c⟩)=>qa5 P d fe t st.H l c (fun a H=>K ⟨zb2 T st.F o.dst a,H⟩)|_,_=>none)
  |none=>none
 | .indexAddr t x y=>match aev T st.F x with
  |some (.own k)=>match st.H[k]? with
   |some (.drow _ d _ xs _)=>some (match aev T st.F y,yx0 T P t (.user d) with
    |some (.cell ⟨.int _,j⟩),true=>idxD xs.length j fun a=>K ⟨zb2 T st.F o.dst (.eptr k (T.size d) a 0),st.H⟩
    |_,_=>none)
   |_=>none
  |_=>none
 | .load t x=>match aev T st.F x with
  |some (.eptr k sz a c)=>match st.H[k]? with
   |some (.drow e d fe xs op)=>some (yv1 P t st.H k sz a c e d fe xs op fun v H=>K ⟨zb2 T st.F o.dst v,H⟩)
   |_=>none
  |_=>none
 | .store t x y=>match aev T st.F x with
  |some (.eptr k sz a c)=>match st.H[k]? with
   |some (.drow e d fe xs op)=>some (match o.dst,aev T st.F y with|none,some v=>yi1 P t st.H k sz a c e d fe xs op v fun H=>K ⟨st.F,H⟩|_,_=>none)
   |_=>none
  |_=>none
 |_=>none
end
section
variable {T:Tab} {P:Program} {C:Ctx T} {w w':World} {S S':List Nat} {φ φ':Nat->RA} {w0:World} {S0:Ow} {F:AF T} {H:List (Ent T.U)} {F':PF}
variable {ops:Array Oper} {Q:Exit->Act->World->Prop} {k n:Nat} {ds:List Deferred} {o:Oper}
def qc5 {R:Type} {r:R} {m:Nat} {j:Int} {x:Nat->Option R} (h:idxD m j x=some r):(0<=j/\j<((m:Nat):Int))/\x j.toNat=some r:=g9 h
def qd7 {i e0} (c:H[i]?=some e0) (e d fe xs a):(yl6 T H i e d fe xs a)[i]?=some (.drow e d fe xs (some (a,(ze0 T fe (elD T d xs a) H.length).1))):=by
 have b:=(X2.1 c).1;unfold yl6;rw [X8 (by simpa using b),Q0 b]
def yy5 (h:Sim T w0 S0 ⟨F,H⟩ F' w S φ) {i e d fe xs op} (q:H[i]?=some (.drow e d fe xs op)) {a} (r:a<xs.length):
  ∃g c B b,(φ i).ad=some ⟨g,0,none⟩/\(φ i).n=xs.length/\Own w B e (T.size d) (φ i).ad xs.length (φ i).cap b/\Blk w g c e/\c.size=(φ i).cap*T.size d/\c.toList.take (xs.length*T.size d)=b/\g∈S/\B<=g/\B<=w.heap.size/\xs.length<=(φ i).cap/\(φ i).cap<=maxLen/\DRel T w S φ (φ i) d fe xs op b/\
   b.length=xs.length*T.size d/\a*T.size d+T.size d<=xs.length*T.size d/\Rg w (some ⟨g,0+a*T.size d,none⟩) ((b.drop (a*T.size d)).take (T.size d)):=by
 obtain ⟨B,b,j,m,s,t,u⟩:=h.ents i _ q;rw [m] at j;rcases j.cases with ⟨_,D,_⟩|⟨c,f,v,x,l,y,z,A⟩
 ·omega
 ·refine ⟨bk (φ i).ad,c,B,b,f,m,j,x,z,A,t _ f,v,s,l,y,u,j.len,?_,?_⟩
  ·rw [<-Nat.succ_mul];exact W0 _ r
  ·have p:=j.rg;rw [f] at p;exact p.sub (a*T.size d) (T.size d) _ (fun _=>rfl)
def qx8 {Z:Prop} {rd:List Nat} {t:TypeId} {x:Operand} (p:dec ops k n F'=some o) (q:o.op=.load t x) {b o0 c:Nat} {cs:List (AV T.U)} {e:List Value} {a:AV T.U} (B:ev F' x=some (.pointer (some ⟨b,o0+c,none⟩)))
  (z: ∀h,Chg S w h->Same φ rd w h->Rg h (some ⟨b,o0,none⟩) e) (r:VRL T w S φ cs e) (D:zt4 T P t cs c=some a)
  (K: ∀v,QR P F' o S φ rd w v->VR T w S φ a v->(∀i∈a.ids,i∈v5 cs)->Z):Z:=by
 obtain ⟨i,d,E,s,f⟩:=jo9 D;have l: ∀i∈a.ids,i∈v5 cs:=jt1 f;have g:=zz3 p q;rw [v6 B] at g;cases hag:yf3 d with
 |false=>
  rw [hag] at f;obtain ⟨v,G,I⟩:=r.get T (show cs[c]?=some a from f);have u:zp4 P t=true:=by unfold zp4;rw [s];cases d<;>simp_all [yf3]
  refine K v (QR.load1 p g u v ?_) I l;exact fun h f y=>(z h f y c v G).2
 |true=>
  rw [hag] at f;unfold jw6 at f;simp only at f;split at f
  ·rename_i m;simp only [X0] at f;subst f;have u:zp4 P t=false:=by unfold zp4;rw [s];cases d<;>simp_all [yf3]
   have A:=r.len T;have m:=Y1 m;refine K _ (QR.loadA (ad:=some ⟨b,o0,none⟩) (j:=c) (cs:=e) (sz:=i.size) p z g u (by rw [s];rfl) (by unfold qr7;rw [E];rfl) ((e.drop c).take i.size) (by rw [Y6,Q8];omega) rfl) ⟨_,rfl,?_⟩ l;simpa using (r.drop T c).take T i.size
  ·cases f
def gv6: ∀(as vs),as.length=vs.length->(∀(f:Nat) (x:AV T.U),as[f]?=some x-> ∃v,vs[f]?=some v/\VR T w S φ x v)->VRL T w S φ as vs
 | [],[],_,_=>trivial
 | [],_::_,h,_=>by simp at h
 |_::_,[],h,_=>by simp at h
 |x::r,v::s,c,a=>by
  obtain ⟨g,b,d⟩:=a 0 x rfl;simp only [Y4,X0] at b;subst b;exact ⟨d,gv6 r s (by simpa using c) fun f z e=>by simpa using a (f+1) z (by simpa using e)⟩
def qy3:List (Cell T.U)->List Value->List (AV T.U)
 |c::r,v::s=>(match c.t.scal with|true=>.cell c|false=>.raw v)::qy3 r s
 |_,_=> []
def qy4: ∀ {cs vs},cs.length=vs.length->(∀(f:Nat) (c:Cell T.U) (v:Value),cs[f]?=some c->vs[f]?=some v->c.t.scal=true->yu0 T w S c v)->VRL T w S φ (qy3 cs vs) vs
 | [],[],_,_=>trivial
 | [],_::_,h,_=>by simp at h
 |_::_,[],h,_=>by simp at h
 |c::r,v::s,b,a=>by
  refine ⟨?_,qy4 (by simpa using b) fun f c' d e g=>a (f+1) c' d (by simpa using e) (by simpa using g)⟩;cases hc:c.t.scal with
  |true=>exact a 0 c v rfl rfl hc
  |false=>show VR T w S φ (.raw v) v;rw [VR]
def ju3: ∀ {cs vs},cs.length=vs.length->(qy3 cs vs).length=cs.length/\(∀(f:Nat) (c:Cell T.U),cs[f]?=some c->c.t.scal=true->(qy3 cs vs)[f]?=some (.cell c))/\v5 (qy3 cs vs)= []
 | [],[],_=>⟨rfl,fun f c h=>by simp at h,rfl⟩
 | [],_::_,h=>by simp at h
 |_::_,[],h=>by simp at h
 |c::r,v::s,d=>by
  obtain ⟨e,g,i⟩:=ju3 (cs:=r) (vs:=s) (by simpa using d);refine ⟨by simp [qy3,e],fun f c' a b=>?_,?_⟩
  ·cases f with
   |zero=>simp only [Y4,X0] at a;subst a;simp [qy3,b]
   |succ f=>simpa [qy3] using g f c' (by simpa using a) b
  ·rw [qy3,v5,i];cases c.t.scal<;>rfl
def kd8 {t cs vs} (g:cs.length=vs.length) {c v} (h:zt4 T P t (cs.map .cell) c=some v) (b:gj9 v=true):zt4 T P t (qy3 cs vs) c=some v:=by
 obtain ⟨e,f,_⟩:=ju3 g;unfold zt4 at h⊢;split at h<;>try (cases h;done)
 rename_i i d q r;unfold jw6 at h⊢;cases hag:yf3 d with
 |false=>
  rw [hag] at h;simp only at h⊢;rw [W4] at h;cases hc:cs[c]? with
  |none=>rw [hc] at h;cases h
  |some a=>
   rw [hc] at h;simp only [Z8,X0] at h;subst h;exact f c a hc b
 |true=>
  rw [hag] at h;simp only [V9] at h⊢;rw [e];split at h<;>try (cases h;done)
  rename_i l;simp only [X0] at h;subst h;simp only [X0];congr 1;apply R4;intro j;simp only [Z3,Q7,W4];split
  ·rename_i m;cases hc:cs[c+j]? with
   |none=>
    rw [Y5 (by rw [e];exact List.getElem?_eq_none_iff.1 hc)];rfl
   |some a=>
    have p:a.t.scal=true:=by
     have:=Y8.1 b (.cell a) (Y9.2 ⟨j,by simp only [Z3,if_pos m,Q7,W4,hc];rfl⟩);exact this
    rw [f _ a hc p];rfl
  ·rfl
def wm9 {c v e} (a:c.t.scal=true) (h:DC T w S e c v):yu0 T w S c v:=by
 obtain ⟨t,x⟩:=c;cases t<;>first|(cases a;done)|exact h
def ky2 {φ d fe xs b cs a r} (h:DRel T w S φ r d fe xs (some (b,cs)) a) (g:a.length=xs.length*T.size d):VRL T w S φ cs ((a.drop (b*T.size d)).take (T.size d)):=by
 obtain ⟨i,m,j⟩:=h.opn _ _ rfl;have l:b*T.size d+T.size d<=xs.length*T.size d:=by rw [<-Nat.succ_mul];exact W0 _ i
 refine gv6 _ _ (by simp;omega) fun f x e=>?_;have c:f<T.size d:=by have:=(X2.1 e).1;omega
 rw [Z3,if_pos c,Q7];exact j f x e
def kw8 {R:Type} {r:R} {t:TypeId} {x:Operand} (Z:dec ops k n F'=some o) (V:o.op=.load t x) {i sz a c:Nat} {e:TypeId} {d:Nat} {fe:List TypeId} {xs:List (T.U d)} {op:Option (Nat×List (AV T.U))} (hx:aev T F x=some (.eptr i sz a c)) (z:H[i]?=some (.drow e d fe xs op))
  {K0:AV T.U->List (Ent T.U)->Option R} (l:yv1 P t H i sz a c e d fe xs op K0=some r) (h:Sim T w0 S0 ⟨F,H⟩ F' w S φ) (HK: ∀v H1,K0 v H1=some r->zz0 P ops Q (k+1) n ds w0 S0 (⟨zb2 T F o.dst v,H1⟩:St T)):WR P ops Q k n ds F' w:=by
 unfold yv1 at l;split at l<;>try (cases l;done)
 rename_i hsz;have:=X1 hsz;subst this;obtain ⟨X,h1,A,E,rfl⟩:=v4 h.fr hx;have m: ∀ {H:List (Ent T.U)} {φ:Nat->RA} {b:Nat} {cs:List (AV T.U)} {u:AV T.U},Sim T w0 S0 ⟨F,H⟩ F' w S φ->(φ i).ad=some ⟨A,0,none⟩->H[i]?=some (.drow e d fe xs (some (b,cs)))->a=b->zt4 T P t cs c=some u->zh4 u=true->K0 u H=some r->WR P ops Q k n ds F' w:=by
  intro H φ b cs u h E z G hl p I;subst G;obtain ⟨_,_,_,_,hdr⟩:=h.ents i _ z;have hb:=(hdr.2.2.opn _ _ rfl).1;obtain ⟨g,cc,B,D,J,a2,a3,a4,a5,a6,a7,a8,a9,a10,a11,K,Y,a14,L⟩:=yy5 h z hb;rw [E] at J;simp only [X0,Addr.mk.injEq,and_true] at J;subst J;refine qx8 (rd:= [i]) Z V (b:=A) (o0:=0+a*T.size d) (c:=c) (by rw [h1,V0]) (fun w1 _ s=>Rg.same L (show w1.heap[A]?=w.heap[A]? from s i (by simp) ⟨A,0,none⟩ E a4.lt)) (ky2 K Y) hl fun v M N O=>?_;exact jz5 Z (M w (Chg.refl _ _) fun _ _ _ _ _=>rfl) h N (zd3 p fun j hj=>h.eids i _ z j (O j hj)) (HK _ _ I)
 split at l
 ·split at l<;>try (cases l;done)
  rename_i v hl;split at l
  ·rename_i hn;obtain ⟨ha,I⟩:=g9 l;obtain ⟨g,cc,B,D,J,a2,a3,a4,a5,a6,a7,a8,a9,a10,a11,K,Y,a14,L⟩:=yy5 h z ha;rw [E] at J;simp only [X0,Addr.mk.injEq,and_true] at J;subst J;have hxa:xs[a]?=some (xs.getD a (T.d d)):=zo2 (T.d d) ha;have y:(elD T d xs a).length=((D.drop (a*T.size d)).take (T.size d)).length:=by
    unfold elD;rw [T.len,Y6,Q8];omega
   have hm:=qy4 (w:=w) (S:=S) (φ:=φ) y fun f c0 v0 M N O=>by
    have hf:f<T.size d:=by have:=(X2.1 M).1;unfold elD at this;rw [T.len] at this;exact this
    rw [Z3,if_pos hf,Q7] at N;exact wm9 O (K.cl _ c0 v0 (by rw [qv7 (T.len d) hxa hf];exact M) N fun q=>q).1
   refine qx8 (rd:= [i]) Z V (b:=A) (o0:=0+a*T.size d) (c:=c) (by rw [h1,V0]) (fun w1 _ s=>Rg.same L (show w1.heap[A]?=w.heap[A]? from s i (by simp) ⟨A,0,none⟩ E a4.lt)) hm (kd8 y hl hn) fun u M N O=>?_;rw [(ju3 y).2.2] at O;refine jz5 Z (M w (Chg.refl _ _) fun _ _ _ _ _=>rfl) h N (zd3 ?_ fun j hj=>by cases O j hj) (HK _ _ I);cases v<;>first|rfl|cases hn
  ·split at l<;>try (cases l;done)
   rename_i u hu;split at l<;>try (cases l;done)
   rename_i p;obtain ⟨ha,I⟩:=g9 l;obtain ⟨φ',s,h'⟩:=h.openD z ha;exact m h' ((s i (X2.1 z).1).1.trans E) (qd7 z e d fe xs a) rfl hu p I
 ·split at l<;>try (cases l;done)
  rename_i u hu;split at l<;>try (cases l;done)
  rename_i p;obtain ⟨G,I⟩:=g9 l;exact m h E z G hu p I
def yv5: ∀(l cs o0),yl7 T cs o0 l=zj5 cs o0 l
 | [],_,_=>rfl
 |a::r,cs,o0=>by rw [yl7,zj5,yv5 r]
def yw8 {t x y} (hd:dec ops k n F'=some o) (X:o.op=.store t x y) (A:o.dst=none) {i a c e d fe xs cs N H φ Y} (h1:ev F' x=some (.pointer (some ⟨Y,0+(a*T.size d+c),none⟩))) (D:(φ i).ad=some ⟨Y,0,none⟩) (hy:aev T F y=some N) (O:H[i]?=some (.drow e d fe xs (some (a,cs))))
  (hf:jx1 T P t c (T.size d) N=true) (h:Sim T w0 S0 ⟨F,H⟩ F' w S φ) (K:zz0 P ops Q (k+1) n ds w0 S0 (⟨F,H.set i (.drow e d fe xs (some (a,yl7 T cs c (zf5 T N))))⟩:St T)):WR P ops Q k n ds F' w:=by
 obtain ⟨v,h3,h4⟩:=v4 h.fr hy;obtain ⟨_,_,_,_,Z⟩:=h.ents i _ O;obtain ⟨l,hcl,_⟩:=Z.2.2.opn _ _ rfl;obtain ⟨g,m,B,s,a1,a2,a3,a4,a5,a6,a7,a8,a9,E,a11,a12,a13,a14,a15⟩:=yy5 h O l;rw [D] at a1;simp only [X0,Addr.mk.injEq,and_true] at a1;subst a1;obtain ⟨ii,hii,f1,f2,f3,f4⟩:=yf4 hf;have G:=ym0 hd X A;rw [v6 h1,v6 h3] at G;have hle2:xs.length*T.size d<=m.size:=by rw [a5];exact W0 _ E
 have I:=qr9 hf h4 (c:=m) (p:=0+a*T.size d) (by omega);rw [V0] at I;have J:=zj7 f1 h4;have L:v.cells.toList.length=ii.size:=by rw [<-J.len T,f2]
 have hcl2:c+(zf5 T N).length<=T.size d:=by rw [f2];exact f3
 refine WR.store a4 G _ I fun w' hb' U=>K _ _ ⟨S,φ,h.upd O rfl U ?_ ⟨B,(jc3 m (0+(a*T.size d+c)) v.cells.toList).toList.take (xs.length*T.size d),?_,a2,U5 a9 U.size,?_,?_⟩ ?_ ?_⟩
 ·intro b l;simp at l;subst l;exact ⟨_,.inl D,rfl⟩
 ·rw [D,a2];exact Own.ofBlk hb' a8 E (by have:=a11;unfold maxLen at this;omega) (by rw [yq6];exact a5) _ rfl
 ·intro z hz;rw [D] at hz;simp only [X0] at hz;subst hz;exact a7
 ·rw [yg1,yq5,U2,a6];have hT: ∀b∈ [Y],b∈S:=by intro b l;simp at l;subst l;exact a7
  have u: ∀j,¬vt9 T (T.size d) (some (a,cs)) j->(zj5 s (a*T.size d+c) v.cells.toList)[j]?=s[j]?:=fun j r=>by
   rw [yn8 _ _ _ _ (by omega),if_neg (fun q=>r ⟨by omega,by omega⟩)]
  have hD:=a12.chg (T:=T) (S':=S) U hT (fun b l=>.inl l) fun b _ hne hm=>by
   simp at hm;subst hm;exact hne _ D rfl
  refine ⟨fun j c1 v1 q1 q2 M=>hD.cl j c1 v1 q1 (by rw [<-u j M];exact q2) M,fun j j' c1 c2 v1 v2 r q1 q2 M q4 q5 q6=>hD.ap j j' c1 c2 v1 v2 r q1 (by rw [<-u j M];exact q2) M q4 (by rw [<-u j' q6];exact q5) q6,fun a0 cs0 hq=>?_⟩;simp only [X0,X7] at hq;obtain ⟨rfl,rfl⟩:=hq;refine ⟨l,by rw [yv5,qz6];exact hcl,fun f x V=>?_⟩;rw [yv5,yn8 _ _ _ _ (by omega)] at V;rw [yn8 _ _ _ _ (by omega)];split at V
  ·rename_i hfr;rw [if_pos (by rw [L];omega),show a*T.size d+f-(a*T.size d+c)=f-c by omega];obtain ⟨v',g1,g2⟩:=J.get T V;exact ⟨v',g1,g2.chg T U hT fun b l=>.inl l⟩
  ·rename_i hfr;rw [if_neg (by rw [L];omega)];exact (hD.opn _ _ rfl).2.2 f x V
 ·intro j r;rcases je4 (T:=T) j r with r|r
  ·exact h.eids i _ O j r
  ·rw [yi3 f1] at r;exact (zc9 h hy).1 j r
 ·intro _ _ _ he;cases he
def kk9 {R:Type} {r:R} {t:TypeId} {x y:Operand} (s:dec ops k n F'=some o) (g:o.op=.store t x y) (b:o.dst=none) {i sz a c:Nat} {e:TypeId} {d:Nat} {fe:List TypeId} {xs:List (T.U d)} {op:Option (Nat×List (AV T.U))} {u:AV T.U} (I:aev T F x=some (.eptr i sz a c)) (v:aev T F y=some u) (j:H[i]?=some (.drow e d fe xs op))
  {z:List (Ent T.U)->Option R} (f:yi1 P t H i sz a c e d fe xs op u z=some r) (h:Sim T w0 S0 ⟨F,H⟩ F' w S φ) (A: ∀H1,z H1=some r->zz0 P ops Q (k+1) n ds w0 S0 (⟨F,H1⟩:St T)):WR P ops Q k n ds F' w:=by
 unfold yi1 at f;split at f<;>try (cases f;done)
 rename_i B;rw [X3] at B;obtain ⟨l,D⟩:=B;have:=X1 l;subst this;obtain ⟨X,E,L,G,rfl⟩:=v4 h.fr I;split at f
 ·obtain ⟨J,m⟩:=g9 f;obtain ⟨φ',p,K⟩:=h.openD j J;exact yw8 s g b E ((p i (X2.1 j).1).1.trans G) v (qd7 j e d fe xs a) D K (A _ m)
 ·obtain ⟨q,m⟩:=g9 f;subst q;exact yw8 s g b E G v j D h (A _ m)
def kl1 {t v c} (h:wd2 T t v=some c) (e):DC T w S e c v/\zw0 T e c v= []:=by
 have b: ∀ {c:Cell T.U} {v:Value},(match c.t,v with| .list _,.slice ad _ _=>zm9 ad|_,_=>([]:List Nat))= []->zw0 T e c v= []:=fun h=>by unfold zw0;cases Nat.beq e 0;exact h;rfl
 unfold wd2 at h;split at h
 ·simp only [X0] at h;subst h;exact ⟨⟨fun _=>CR.nilS,fun _=>⟨0,none,0,[],rfl,Own.nil _ _ _ _,J7 _,CellsR.nilC⟩⟩,b rfl⟩
 ·split at h<;>try (cases h;done)
  rename_i a d;split at h<;>try (cases h;done)
  rename_i f;simp only [X0] at h;subst h;have g:cellsOf T ([v].map (yw6 T))=some [a]:=by simp only [U3,K7,cellsOf,d]
  have i:=(yi2 (w:=w) (S:=S) g).2 0 a v rfl rfl;obtain ⟨t,x⟩:=a;cases t<;>first|(cases f;done)|exact ⟨i,b rfl⟩
def js8: ∀ {d vs cs},yx8 T d vs=some cs->cs.length=vs.length/\ ∀(f:Nat) (c:Cell T.U) (v:Value) (e:TypeId),cs[f]?=some c->vs[f]?=some v->DC T w S e c v/\zw0 T e c v= []
 | [],[],cs,h=>by simp only [yx8,X0] at h;subst h;exact ⟨rfl,fun f c v e h=>by simp at h⟩
 | [],_::_,_,h=>by simp [yx8] at h
 |_::_,[],_,h=>by simp [yx8] at h
 |t::d,v::vs,cs,h=>by
  unfold yx8 at h;split at h<;>try (cases h;done)
  rename_i c l g i;simp only [X0] at h;subst h;obtain ⟨j,m⟩:=js8 i;refine ⟨by simp [j],fun f c' p e a b=>?_⟩;cases f with
  |zero=>simp only [Y4,X0] at a b;subst a;subst b;exact kl1 g e
  |succ f=>exact m f c' p e (by simpa using a) (by simpa using b)
def kx1 {R:Type} {r:R} {x y:Operand} {t:TypeId} (hd:dec ops k n F'=some o) (Z:o.op=.makeSlice t x y) {d:Nat} {fe:List TypeId} {k1 k2:IntKind} {l c:Int} (hx:aev T F x=some (cI T k1 l)) (hy:aev T F y=some (cI T k2 c))
  {K0:AV T.U->List (Ent T.U)->Option R} (f:qa5 P d fe t H l c K0=some r) (h:Sim T w0 S0 ⟨F,H⟩ F' w S φ) (K: ∀b H1,K0 b H1=some r->zz0 P ops Q (k+1) n ds w0 S0 (⟨zb2 T F o.dst b,H1⟩:St T)):WR P ops Q k n ds F' w:=by
 obtain ⟨X,B,s⟩:=v4 h.fr hx;obtain ⟨Y,h3,h4⟩:=v4 h.fr hy;have e1:=w8 s;have e2:=w8 h4;subst e1;subst e2;unfold qa5 at f;split at f<;>try (cases f;done)
 rename_i e sz by_ zc he;split at f<;>try (cases f;done)
 rename_i z u hz;have u:=X1 u;subst u;split at f<;>try (cases f;done)
 rename_i N hx0;obtain ⟨⟨g1,g2,g3,g4⟩,hK⟩:=g9 f;have D:=jo1 hd Z;rw [v6 B,v6 h3] at D;obtain ⟨i,zv,_,_,_,_,_,_,E⟩:=zi3 he;refine WR.make D he l.toNat c.toNat (by omega) (by omega) (by omega) g3 (by omega) fun g w' G=>?_;have I:=Own.made (m:=l.toNat) (m':=c.toNat) G (by omega) (by omega);have hc0:T.cells d N=z:=T.packed _ _ _ hx0;have p: ∀j c1 v,((List.replicate l.toNat N).flatMap (T.cells d))[j]?=some c1->((madeCells zc (c.toNat*T.size d)).toList.take (l.toNat*T.size d))[j]?=some v->DC T w' (g::S) (fe.getD (j%T.size d) 0) c1 v/\zw0 T (fe.getD (j%T.size d) 0) c1 v= []:=by
  intro j c1 v B s;have A:=(X2.1 B).1;rw [zb3 (T.len d),Z9] at A;rw [zx0 (T.len d N) _ _ A,hc0] at B;rw [Z3,if_pos A] at s;refine (js8 (w:=w') (S:=g::S) hz).2 _ c1 v _ B ?_;have q:0<T.size d:=by
   rcases N5 (T.size d) with h0|h0
   ·rw [h0] at A;omega
   ·exact h0
  rw [<-E] at q;have hlc:l.toNat*T.size d<=c.toNat*T.size d:=W0 _ (by omega);unfold madeCells at s;simp only [N0,R2,W4] at s;rw [List.getElem?_range (by omega)] at s;simp only [Z8,X0] at s;subst s;rw [<-E,Array.getElem?_toList,Z6 (Nat.mod_lt _ q)];congr 1;rw [getElem!_pos zc _ (Nat.mod_lt _ q)]
 have J:=h.add (r:=⟨some ⟨g,0,none⟩,l.toNat,c.toNat,[]⟩) G.chg G.fresh G.blk.lt (fun a L=>yr4 L) (e:=.drow e d fe (List.replicate l.toNat N) none)
  ⟨w.heap.size,_,by rw [w4];exact I,by rw [w4,Z9],G.chg.size,fun a L=>by rw [w4] at L;simp only [X0] at L;subst L;simp,
   ⟨fun j c1 v O V _=>⟨(p j c1 v O V).1,fun b M=>(by rw [(p j c1 v O V).2] at M;cases M)⟩,fun j j' c1 c2 v v' _ O V _ _ _ _ b M=>(by rw [(p j c1 v O V).2] at M;cases M),fun a cs hq=>(by cases hq)⟩⟩ (by intro j A;cases A)
 refine K _ _ hK _ _ ⟨_,_,J.slot (a:=.own H.length) (by rw [VR,w4]) ⟨by intro i hi;simp [AV.ids] at hi;subst hi;simp,trivial⟩⟩
def kc0 {t x y} (f:dec ops k n F'=some o) (l:o.op=.indexAddr t x y) {i z j e d fe xs op} (p:aev T F x=some (.own i)) (A:aev T F y=some (cI T z j)) (q:H[i]?=some (.drow e d fe xs op))
  (m:yx0 T P t (.user d)=true) (J:0<=j/\j<((xs.length:Nat):Int)) (h:Sim T w0 S0 ⟨F,H⟩ F' w S φ) (K:zz0 P ops Q (k+1) n ds w0 S0 (⟨zb2 T F o.dst (.eptr i (T.size d) j.toNat 0),H⟩:St T)):WR P ops Q k n ds F' w:=by
 obtain ⟨X,D,r⟩:=v4 h.fr p;obtain ⟨Y,E,G⟩:=v4 h.fr A;have s:=w8 G;subst s;have b:=jg1 f l;rw [v6 D,v6 E] at b;obtain ⟨g,L,B,u,v,I,_⟩:=yy5 h q (a:=j.toNat) (by omega);rw [VR] at r;subst r;rw [v,I] at b;refine jz5 f ((QR.indexS (S:=S) (φ:=φ) (rd:= []) (w:=w) f b _ (yb7 m) j.toNat (by omega) (by omega)) w (Chg.refl _ _) fun _ _ _ _ _=>rfl) h (a:=.eptr i (T.size d) j.toNat 0) ⟨g,v,by simp [szT]⟩ ⟨(zc9 h p).1,?_⟩ K;intro s M ys c;rw [q] at c;cases c
def jh6 {R:Type} {r:R} (s:dec ops k n F'=some o) {K:St T->Option R} {z:Option R} (b:zo8 P C o ⟨F,H⟩ K=some z) (g:z=some r) (h:Sim T w0 S0 ⟨F,H⟩ F' w S φ)
  (u: ∀st,K st=some r->zz0 P ops Q (k+1) n ds w0 S0 st):WR P ops Q k n ds F' w:=by
 unfold zo8 at b;split at b<;>try (cases b;done)
 ·rename_i t x y f;split at b<;>try (cases b;done)
  obtain rfl:=X5 b;split at g<;>try (cases g;done)
  rename_i l m;exact kx1 s f l m g h fun a H1 D=>u _ D
 ·rename_i t x y f;split at b<;>try (cases b;done)
  rename_i i l;split at b<;>try (cases b;done)
  rename_i e d fe xs op p;obtain rfl:=X5 b;split at g<;>try (cases g;done)
  rename_i I j m A;obtain ⟨E,G⟩:=qc5 g;exact kc0 s f l m p A E h (u _ G)
 ·rename_i t x f;split at b<;>try (cases b;done)
  rename_i i sz a c l;split at b<;>try (cases b;done)
  rename_i p;obtain rfl:=X5 b;exact kw8 s f l p g h fun v H1 B=>u _ B
 ·rename_i t x y f;split at b<;>try (cases b;done)
  rename_i i sz a c l;split at b<;>try (cases b;done)
  rename_i p;obtain rfl:=X5 b;split at g<;>try (cases g;done)
  rename_i v q m;exact kk9 s f q l m p g h fun H1 B=>u _ B
end
end Go.X
namespace Go.X
open Go.RowKit Go.V
section
variable (T:Tab)
def vg5 {R:Type} (t:Ty) (x:Operand) (st:St T) (K:St T->Option R):Option R:=
 match x with
 | .tmp s=>match st.F.get T s with
  |some a=>rdF T st.H t a fun y=>K ⟨(s,zq2 T t y)::st.F,zw5 T st.H a.ids⟩
  |none=>none
 |_=>none
def wg5 {R:Type}:List (Nat×Ty)->List (AV T.U)->List (Ent T.U)->(List (AV T.U)->List (Ent T.U)->Option R)->Option R
 | [],as,H,K=>K as H
 |(j,t)::r,as,H,K=>match as[j]? with
  |some a=>rdF T H t a fun y=>wg5 r (as.set j (zq2 T t y)) (zw5 T H a.ids) K
  |none=>none
def vv7 (ty:Ty) (c:Nat) (a:AV T.U):Option Ty:=
 match a with
 | .agg _=>match Nat.beq c 0 with|true=>some ty|false=>none
 |_=>match (zd1 T ty (yb5 T ty))[c]? with|some x=>some x.t|none=>none
def qk5 (H:List (Ent T.U)) (p a:AV T.U):Option Ty:=
 match p with
 | .eptr i _ _ c=>match H[i]? with|some (.row _ ty _)=>vv7 T ty c a|_=>none
 | .aptr i o _ _ _ c=>match H[i]? with
  |some (.blk _ cs)=>match jg3 T cs o with
   |some (b::_)=>match jm8 b with|some ⟨ty,_,_⟩=>vv7 T ty c a|none=>none
   |_=>none
  |_=>none
 |_=>none
def yz2 {R:Type} (b:Ty):List (Nat×Operand)->St T->(St T->Option R)->Option R
 | [],st,K=>K st
 |(_,x)::r,st,K=>match aev T st.F x with
  |some a=>match cellsOf T (zf5 T a) with
   |some _=>yz2 b r st K
   |none=>vg5 T b x st fun st=>yz2 b r st K
  |none=>none
end
section
variable {T:Tab} (P:Program) (C:Ctx T) {R:Type}
def vi2:Operand->Operand->Bool| .tmp s,.tmp q=> !(Nat.beq s q)|_,_=>true
def zn7 (o:Oper) (st:St T) (K:St T->Option R) (b:AV T.U->St T->Option R):Option R:=
 match o.op with
 | .store _ x y=>match aev T st.F x,aev T st.F y with
  |some p,some a=>match cellsOf T (zf5 T a),qk5 T st.H p a with
   |none,some c=>(match vi2 y x with|true=>vg5 T c y st fun st=>stepA P C o st K b|false=>none)
   |_,_=>stepA P C o st K b
  |_,_=>none
 | .buildSlice t _ d=>match C.ty t,zx4 T st.F (d.toList.map Prod.snd) with
  |some c,some _=>yz2 T c d.toList st fun st=>stepA P C o st K b
  |_,_=>stepA P C o st K b
 | .mapUpdate t m x v=>match C.ty t,aev T st.F v with
  |some c,some a=>(match cellsOf T (zf5 T a) with
   |none=>(match vi2 v m&&vi2 v x with|true=>vg5 T c v st fun st=>stepA P C o st K b|false=>none)
   |some _=>stepA P C o st K b)
  |_,_=>stepA P C o st K b
 |_=>stepA P C o st K b
def zh7 (o:Oper) (st:St T) (K:St T->Option R) (a:AV T.U->St T->Option R):Option R:=
 match zo8 P C o st K with
 |some z=>z
 |none=>zn7 P C o st K a
end
section
variable {T:Tab} {P:Program} {C:Ctx T} {w w':World} {S S':List Nat} {φ φ':Nat->RA} {w0:World} {S0:Ow} {F:AF T} {H:List (Ent T.U)} {F':PF}
variable {ops:Array Oper} {Q:Exit->Act->World->Prop} {k n:Nat} {ds:List Deferred} {o:Oper}
def Sim.seen (h:Sim T w0 S0 ⟨F,H⟩ F' w S φ) {d a v} (g:F'.get d=some v) (j:VR T w S φ a v) (e:okA H a):Sim T w0 S0 ⟨(d,a)::F,H⟩ F' w S φ:=by
 have f: ∀i b,AF.get T ((d,a)::F) i=some b->(i=d/\b=a)\/F.get T i=some b:=by
  intro i b c;simp only [AF.get] at c;split at c
  ·rename_i l;have:=X1 l;subst this;exact .inl ⟨rfl,(X5 c).symm⟩
  ·exact .inr c
 refine ⟨fun i b c=>?_,fun i b c=>?_,h.chg,h.own,h.ex,h.lives,h.pins,h.ents,h.eids,h.apart⟩
 ·rcases f i b c with ⟨rfl,rfl⟩|c
  ·exact ⟨v,g,j⟩
  ·exact h.fr i b c
 ·rcases f i b c with ⟨rfl,rfl⟩|c
  ·exact e
  ·exact h.ids i b c
def Sim.frz1 (h:Sim T w0 S0 ⟨F,H⟩ F' w S φ) {i e} (J:H[i]?=some e) (K:e.live=true):
  Sim T w0 S0 ⟨F,H.set i .gone⟩ F' w (S.filter fun b=> !(φ i).all.contains b) φ:=by
 have p: ∀b∈S.filter (fun b=> !(φ i).all.contains b),b∈S:=fun b g=>(W3.1 g).1;have s: ∀ {b:Nat},b∈S->(∀a,At (φ i) a->a.block≠b)->b∈S.filter fun b=> !(φ i).all.contains b:=by
  intro b g q;refine W3.2 ⟨g,?_⟩;cases hq:(φ i).all.contains b with
  |false=>rfl
  |true=>
   obtain ⟨a,m,u⟩:=zu0.1 (N7.1 hq);exact absurd u (q a m)
 refine ⟨?_,?_,h.chg,fun b g=>h.own b (p b g),?_,?_,?_,?_,?_,?_⟩
 ·intro j a m;obtain ⟨v,B,D⟩:=h.fr j a m;exact ⟨v,B,D.chg T (Chg.refl [] w) (by simp) fun b g=>.inl (p b g)⟩
 ·intro j a m;obtain ⟨B,D⟩:=h.ids j a m;refine ⟨fun x A=>by simpa using B x A,?_⟩;cases a with
  |eptr y sz k c=>intro e t xs A;exact D e t xs (yb3 A rfl).2
  |_=>trivial
 ·intro b g M O;refine s (h.ex b g M O) fun a m u=>?_;rcases (h.lives i e J K a m).2 with N|N
  ·exact M (u▸N)
  ·omega
 ·intro j f z l a m;obtain ⟨q,d⟩:=yb3 z l;exact ⟨s (h.lives j f d l a m).1 fun b g u=>h.apart i j e f J d K l (Ne.symm q) b a g m u,(h.lives j f d l a m).2⟩
 ·intro k r U;obtain ⟨B,D⟩:=h.pins k r U;exact ⟨B,by simpa using D⟩
 ·intro j f z;by_cases l:f.live=true
  ·obtain ⟨q,d⟩:=yb3 z l;exact (h.ents j f d).chg T (Chg.refl [] w) (by simp) (fun b g=>.inl (p b g)) fun E a m=>⟨by simp,s (zh2 h d E m) fun b g u=>h.apart i j e f J d K E (Ne.symm q) b a g m u⟩
  ·cases f<;>first|exact trivial|exact absurd rfl l
 ·intro j f z x A;cases f with
  |gone=>cases A
  |_=>have:=h.eids j _ (yb3 z rfl).2 x A;simpa using this
 ·intro j k f V z d G I L;exact h.apart j k f V (yb3 z G).2 (yb3 d I).2 G I L
def Sim.frzL: ∀(ids) {H S},Sim T w0 S0 ⟨F,H⟩ F' w S φ->
  ∃S',(∀b∈S',b∈S)/\(∀i∈ids,∀e,H[i]?=some e->e.live=true-> ∀a,At (φ i) a->a.block∉S')/\Sim T w0 S0 ⟨F,zw5 T H ids⟩ F' w S' φ
 | [],H,S,h=>⟨S,fun _ h=>h,by simp,h⟩
 |i::r,H,S,h=>by
  have step: ∃S1,(∀b∈S1,b∈S)/\(∀e,H[i]?=some e->e.live=true-> ∀a,At (φ i) a->a.block∉S1)/\Sim T w0 S0 ⟨F,H.set i .gone⟩ F' w S1 φ:=by
   cases hi:H[i]? with
   |none=>
    refine ⟨S,fun _ h=>h,by simp,?_⟩;rw [List.set_eq_of_length_le (by simpa using hi)];exact h
   |some e=>
    cases f:e.live with
    |true=>
     refine ⟨_,fun b m=>(W3.1 m).1,fun u c _ a g l=>?_,h.frz1 hi f⟩;have:=(W3.1 l).2;simp at this;exact this (zu0.2 ⟨a,g,rfl⟩)
    |false=>
     have:e=.gone:=by cases e<;>first|rfl|cases f
     subst this;refine ⟨S,fun _ h=>h,fun u c p=>?_,?_⟩
     ·simp only [X0] at c;subst c;cases p
     ·have v:H.set i .gone=H:=by
       obtain ⟨x,y⟩:=X2.1 hi;rw [<-y,M3]
      rw [v];exact h
  obtain ⟨S1,z,A,B⟩:=step;obtain ⟨D,s,E,G⟩:=Sim.frzL r B;refine ⟨D,fun b m=>z b (s b m),fun j q e t f a g l=>?_,G⟩;by_cases d:j=i
  ·subst d;exact A e t f a g (s _ l)
  ·rcases Z0.1 q with rfl|q
   ·exact d rfl
   ·exact E j q e (by rw [Z5 (Ne.symm d)];exact t) f a g l
def kx9 {t a x} (h:jx4 T t a=some x):a.ids= []:=by
 cases a with
 |cell c=>rfl
 |raw v=>rfl
 |agg cs=>
  cases t<;>simp only [jx4,reduceCtorEq] at h;split at h
  ·rename_i l b;rw [zt2 b,AV.ids,yu9]
  ·cases h
 |_=>cases t<;>cases h
def vb2 {R:Type} {r:R} {t:Ty} {a:AV T.U} {K:den T.U t->Option R} (h:jy6 T H t a K=some r): ∀i∈a.ids,∃e,H[i]?=some e/\e.live=true:=by
 unfold jy6 at h;split at h
 ·intro j b;simp only [AV.ids,Q6] at b;subst b;split at h
  ·rename_i c;exact ⟨_,c,rfl⟩
  ·cases h
 ·intro j b;simp only [AV.ids,Q6] at b;subst b;split at h
  ·rename_i c;exact ⟨_,c,rfl⟩
  ·cases h
 ·intro j b;simp only [AV.ids,Q6] at b;subst b;split at h
  ·rename_i c;exact ⟨_,c,rfl⟩
  ·cases h
 ·split at h
  ·rename_i x d;rw [kx9 d];intro i c;cases c
  ·cases h
def vb0 {R:Type} {r:R}: ∀ {c:List Ty} {as:List (AV T.U)} {K:List (Cell T.U)->Option R},va8 T H c as K=some r-> ∀i∈v5 as,∃e,H[i]?=some e/\e.live=true
 | [],[],K,h=>by intro i b;cases b
 | [],_::_,_,h=>by cases h
 |_::_,[],_,h=>by cases h
 |t::c,a::as,K,h=>by
  have h:(match t.one with|true=>jy6 T H t a (fun x=>va8 T H c as fun l=>K (⟨t,x⟩::l))|false=>none)=some r:=h;split at h<;>try (cases h;done)
  intro i b;rw [v5] at b;rcases X4.1 b with b|b
  ·exact vb2 h i b
  ·obtain ⟨x,d,f⟩:=jv0 h;exact vb0 d i b
def vx4 {R:Type} {r:R} {t:Ty} {a:AV T.U} {K:den T.U t->Option R} (h:rdF T H t a K=some r): ∀i∈a.ids,∃e,H[i]?=some e/\e.live=true:=by
 unfold rdF at h;split at h
 ·intro i b;rw [AV.ids] at b;exact vb0 h i b
 ·exact vb2 h
def qh5 (t x):(zq2 T t x).ids= []:=by
 cases t with
 |user i=>show v5 ((T.cells i x).map AV.cell)= [];exact yu9 _
 |_=>rfl
def zz7 {R:Type} {r:R} {t:Ty} {x:Operand} {st:St T} {K:St T->Option R} (h:vg5 T t x st K=some r) (d:Sim T w0 S0 st F' w S φ): ∃b S',K b=some r/\Sim T w0 S0 b F' w S' φ/\ ∀t,(st.F.get T t).isSome=true->(b.F.get T t).isSome=true:=by
 obtain ⟨F,H⟩:=st;unfold vg5 at h;split at h<;>try (cases h;done)
 rename_i s;split at h<;>try (cases h;done)
 rename_i a j;obtain ⟨v,l,m⟩:=d.fr s a j;obtain ⟨S',p,u,z⟩:=Sim.frzL a.ids d;obtain ⟨y,A,B⟩:=jv1 (S':=S') h (fun i c D f _=>d.ents i D f) m φ p fun i c ad g=>by
  obtain ⟨e,E,G⟩:=vx4 h i c;exact u i c e E G ad (.inl g)
 refine ⟨_,S',A,z.seen l B (zd3 ?_ ?_),fun q I=>?_⟩
 ·cases t<;>rfl
 ·rw [qh5];intro i c;cases c
 ·simp only [AF.get];split
  ·rfl
  ·exact I
def yb8 {R:Type} {r:R} {e:Ty}: ∀ {d:List (Nat×Operand)} {st:St T} {K:St T->Option R} {S:List Nat},yz2 T e d st K=some r->Sim T w0 S0 st F' w S φ-> ∃a S',K a=some r/\Sim T w0 S0 a F' w S' φ/\ ∀t,(st.F.get T t).isSome=true->(a.F.get T t).isSome=true
 | [],st,K,S,h,b=>⟨st,S,h,b,fun _ h=>h⟩
 |(_,x)::d,st,K,S,h,b=>by
  unfold yz2 at h;split at h<;>try (cases h;done)
  split at h
  ·exact yb8 h b
  ·obtain ⟨a,S',f,g,i⟩:=zz7 h b;obtain ⟨c,j,l,m,p⟩:=yb8 f g;exact ⟨c,j,l,m,fun t q=>p t (i t q)⟩
def qu6 {R:Type} {r:R} (c:zb4 T P C.E) (d:dec ops k n F'=some o) {K:St T->Option R} {j:AV T.U->St T->Option R} (b:zn7 P C o ⟨F,H⟩ K j=some r) (h:Sim T w0 S0 ⟨F,H⟩ F' w S φ)
  (e: ∀st,K st=some r->zz0 P ops Q (k+1) n ds w0 S0 st) (f: ∀a st,j a st=some r->yu1 Q n ds w0 S0 a st):WR P ops Q k n ds F' w:=by
 unfold zn7 at b;split at b
 ·split at b<;>try (cases b;done)
  split at b
  ·split at b<;>try (cases b;done)
   obtain ⟨⟨l,H2⟩,m,g,i,_⟩:=zz7 b h;exact ze2 c d g i e f
  ·exact ze2 c d b h e f
 ·split at b
  ·obtain ⟨⟨l,H2⟩,m,g,i,_⟩:=yb8 b h;exact ze2 c d g i e f
  ·exact ze2 c d b h e f
 ·split at b
  ·split at b
   ·split at b<;>try (cases b;done)
    obtain ⟨⟨l,H2⟩,m,g,i,_⟩:=zz7 b h;exact ze2 c d g i e f
   ·exact ze2 c d b h e f
  ·exact ze2 c d b h e f
 ·exact ze2 c d b h e f
def jh5 {R:Type} {r:R} (f:zb4 T P C.E) (c:dec ops k n F'=some o) {K:St T->Option R} {d:AV T.U->St T->Option R} (b:zh7 P C o ⟨F,H⟩ K d=some r) (h:Sim T w0 S0 ⟨F,H⟩ F' w S φ)
  (e: ∀st,K st=some r->zz0 P ops Q (k+1) n ds w0 S0 st) (g: ∀a st,d a st=some r->yu1 Q n ds w0 S0 a st):WR P ops Q k n ds F' w:=by
 unfold zh7 at b;split at b
 ·rename_i z i;exact jh6 c i b h e
 ·exact qu6 f c b h e g
def yu6 {R:Type} {r:R} {w0:World} {S0:Ow} {F:AF T} {F':PF} {w:World} {φ:Nat->RA}: ∀(l:List (Nat×Ty)) {as:List (AV T.U)} {us:List Value} {H:List (Ent T.U)} {S:List Nat} {K:List (AV T.U)->List (Ent T.U)->Option R},wg5 T l as H K=some r->Sim T w0 S0 ⟨F,H⟩ F' w S φ->VRL T w S φ as us->
  ∃c H' S',K c H'=some r/\Sim T w0 S0 ⟨F,H'⟩ F' w S' φ/\VRL T w S' φ c us
 | [],as,us,H,S,K,h,f,g=>⟨as,H,S,h,f,g⟩
 |(j,t)::l,as,us,H,S,K,h,f,g=>by
  unfold wg5 at h;split at h<;>try (cases h;done)
  rename_i a u;obtain ⟨v,x,z⟩:=g.get T u;obtain ⟨S',s,A,B⟩:=Sim.frzL a.ids f;obtain ⟨y,D,E⟩:=jv1 (S':=S') h (fun i m G p _=>f.ents i G p) z φ s fun i m ad q=>by
   obtain ⟨e,I,J⟩:=vx4 h i m;exact A i m e I J ad (.inl q)
  have d:=(g.chg T (Chg.refl [] w) (by simp) fun b L=>.inl (s b L)).set T j E;rw [show us.set j v=us by
   obtain ⟨M,N⟩:=X2.1 x;rw [<-N,M3]] at d
  exact yu6 l D B d
end
end Go.X
