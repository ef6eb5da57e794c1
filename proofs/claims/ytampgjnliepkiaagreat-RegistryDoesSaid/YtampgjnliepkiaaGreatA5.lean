import Derived.Test.YtampgjnliepkiaaGreatA4
import Derived.Laws.BytesString
import Derived.Laws.IdiomStrings
set_option linter.defProp false
namespace Go.X
open Go.RowKit Go.V
section
variable {T:Tab} {P:Program} {C:Ctx T} {w w':World} {S S':List Nat} {φ φ':Nat->RA} {w0:World} {S0:Ow} {F:AF T} {H:List (Ent T.U)} {F':PF}
variable {ops:Array Oper} {Q:Exit->Act->World->Prop} {k n:Nat} {ds:List Deferred} {o:Oper}
def yp7 (Q:Exit->Act->World->Prop) (n:Nat) (ds:List Deferred) (w0:World) (S0:Ow) (a:AV T.U) (st:St T):Prop:=
 ∀F1 d S1 b v,Sim T w0 S0 st F1 d S1 b->VR T d S1 b a v->okA st.H a-> ∀c,Fr n ds F1 c->Q (.panic [{v:=v,recovered:=false}]) c d
def VRL.append: ∀ {aS bs:List (AV T.U)} {us vs:List Value},VRL T w S φ aS us->VRL T w S φ bs vs->VRL T w S φ (aS++bs) (us++vs)
 | [],_,[],_,_,h=>h
 | [],_,_::_,_,h,_=>h.elim
 |_::_,_,[],_,h,_=>h.elim
 |_::_,_,_::_,_,h,h2=>⟨h.1,VRL.append h.2 h2⟩
def yj3: ∀(aS bs:List (AV T.U)),u0 (aS++bs)=u0 aS++u0 bs
 | [],_=>rfl
 |a::r,bs=>by rw [M9,u0,yj3 r bs,u0,Q2]
def ve8: ∀ {aS:List (AV T.U)},aS.all zh9=true->(∀i∈u0 aS,i<H.length)-> ∀a∈aS,okA H a
 | [],_,_,a,ha=>by cases ha
 |b::r,h,hi,a,ha=>by
  simp only [J6,X3] at h;rw [u0] at hi;rcases Z0.1 ha with rfl|ha
  ·exact zd4 h.1 fun i hj=>hi i (X4.2 (.inl hj))
  ·exact ve8 h.2 (fun i hj=>hi i (X4.2 (.inr hj))) a ha
def yo3 {f} (h:zs4 P f=true) (args w):(callFunc f args).run P w=.ok (.enter f args) w:=by
 unfold zs4 at h;split at h
 ·rename_i fn a;simp only [X3,V4,beq_eq_false_iff_ne,ne_eq] at h;have b:fn.body≠none:=by intro e;rw [e] at h;cases h.2
  simp [callFunc,a,h.1,b]
 ·cases h
def jf0 {c:Call} {f:Operand} {g:FuncId} {first caps aS:List (AV T.U)} (hop:o.op=.call c) (hc:c.callee=.value f) (hf:aev T F f=some (.fn (.func g) first caps)) (ha:zv9 T F c.args.toList=some aS)
  (he:zs4 P g=true) (hall:(first++aS++caps).all zh9=true) (h:Sim T w0 S0 ⟨F,H⟩ F' w S φ):
  ∃vs:List Value,VRL T w S φ (first++aS++caps) vs/\(∀a∈first++aS++caps,okA H a)/\ ∀w1,(execOp (evD F') o).run P w1=.ok (.enter g vs.toArray) w1:=by
 obtain ⟨X,h1,va,vb,rfl,h3,h4⟩:=v8 h.fr hf;have h5:=yc8 h.fr ha;have hids: ∀i∈u0 (first++aS++caps),i<H.length:=by
  intro i hi;rw [yj3,yj3] at hi;have hfi:=(zc5 h hf).1;rcases X4.1 hi with hi|hi
  ·rcases X4.1 hi with hi|hi
   ·exact hfi i (by rw [AV.ids];exact X4.2 (.inl hi))
   ·exact jk0 h ha i hi
  ·exact hfi i (by rw [AV.ids];exact X4.2 (.inr hi))
 refine ⟨_,(h3.append h5).append h4,ve8 hall hids,fun w1=>?_⟩;simp [execOp,hop,resolve,hc,k8 h1,Deferred.ofValue,invoke,yo3 he]
def ke3 {R:Type} {r:R} {c:Call} {f:Operand} {g:FuncId} {first caps aS:List (AV T.U)} {cs:CallSpec T} (hd:dec ops k n F'=some o) (hop:o.op=.call c) (hc:c.callee=.value f) (hf:aev T F f=some (.fn (.func g) first caps)) (ha:zv9 T F c.args.toList=some aS)
  (he:zs4 P g=true) (hs:zb8 T P g cs) (hall:(first++aS++caps).all zh9=true) {K0 Kp:AV T.U->List (Ent T.U)->Option R} (hK0:cs.call (first++aS++caps) H K0 Kp=some r) (h:Sim T w0 S0 ⟨F,H⟩ F' w S φ)
  (K: ∀b H1,K0 b H1=some r->zp6 P ops Q (k+1) n ds w0 S0 (⟨za9 T F o.dst b,H1⟩:St T)) (Kpan: ∀b H1,Kp b H1=some r->yp7 Q n ds w0 S0 b (⟨F,H1⟩:St T)):WR P ops Q k n ds F' w:=by
 obtain ⟨vs,h1,h2,h3⟩:=jf0 hop hc hf ha he hall h;refine .enter (f:=g) (args:=vs.toArray) hd (h3 w) (hs _ H K0 Kp r hK0 w0 S0 F F' w S φ h _ h1 h2) ?_ ?_ ?_
 ·rintro v w'' ⟨a,H1,g1,S1,φ1,g2,g3,g4⟩
  exact K a H1 g1 _ _ ⟨S1,φ1,g2.slot g3 g4⟩
 ·rintro ch w'' ⟨a,H1,g1,v,rfl,S1,φ1,g2,g3,g4⟩ act hact
  exact Kpan a H1 g1 _ _ _ _ _ g2 g3 g4 act hact
 ·intro w'' hR;exact hR.elim
def jq3 (a:IntKind) (z:Int):okA H (cI T a z):=⟨fun i b=>(by cases b),trivial⟩
def vp5 {t a z} (d:lenOf P t H a=some z) (h:Sim T w0 S0 ⟨F,H⟩ F' w S φ) {v} (c:VR T w S φ a v) (ty q):(Builtin.len_ #[t] ty #[v]).run P q=.ok (.int .i64 z) q:=by
 unfold lenOf at d;split at d
 ·rename_i e i;split at d
  ·rename_i m b;simp only [X0] at d;subst d;have j: ∃ad cap,v=.slice ad m cap:=by
    unfold ug1 at b;split at b
    ·simp only [X0] at b;subst b;have c:CR T w S _ _ v:=c;cases c;exact ⟨_,_,rfl⟩
    ·split at b
     ·rename_i r s xs l;simp only [X0] at b;subst b;rw [VR] at c;subst c;obtain ⟨B,f,_,p,_⟩:=h.ents _ _ l;rw [p];exact ⟨_,_,rfl⟩
     ·rename_i l;simp only [X0] at b;subst b;rw [VR] at c;subst c;obtain ⟨B,f,_,p,_⟩:=h.ents _ _ l;rw [p];exact ⟨_,_,rfl⟩
     ·cases b
    ·simp only [X0] at b;subst b;obtain ⟨ad,rfl,_⟩:=c;exact ⟨_,_,rfl⟩
    ·simp only [X0] at b;subst b;obtain ⟨g,ad,_,rfl,_⟩:=c;exact ⟨_,_,rfl⟩
    ·simp only [X0] at b;subst b;rw [VR] at c;subst c;exact ⟨_,_,rfl⟩
    ·cases b
   obtain ⟨ad,cap,rfl⟩:=j;simp [Builtin.len_,run_underlying i,goInt]
  ·cases d
 ·rename_i i;split at d
  ·simp only [X0] at d;subst d;have:=zq4 c;subst this;simp [Builtin.len_,run_underlying i,goInt]
  ·cases d
 ·cases d
def kg4 {aS:List (AV T.U)} {a:AV T.U} (ha:wp8 T aS=some a) {vs:List Value} (hv:VRL T w S φ aS vs) (t:Array TypeId) (ty:TypeId): ∃v,(∀w1,(Builtin.min_ t ty vs.toArray).run P w1=.ok v w1)/\VR T w S φ a v/\okA H a:=by
 unfold wp8 at ha;split at ha
 ·simp only [X0] at ha;subst ha
  match vs,hv with
  | [v],hv=>have:=za3 hv.1;subst this;exact ⟨_,fun w1=>by simp [Builtin.min_],VR.int _ _,jq3 _ _⟩
 ·split at ha
  ·rename_i hk;have:=za8 hk;subst this;simp only [X0] at ha;subst ha
   match vs,hv with
   | [u,v],hv=>have:=za3 hv.1;subst this;have:=za3 hv.2.1;subst this;exact ⟨_,fun w1=>by simp [Builtin.min_,Builtin.min2,gd5],VR.int _ _,jq3 _ _⟩
  ·cases ha
 ·cases ha
def kg2 {aS:List (AV T.U)} {a:AV T.U} (ha:wp7 T aS=some a) {vs:List Value} (hv:VRL T w S φ aS vs) (t:Array TypeId) (ty:TypeId): ∃v,(∀w1,(Builtin.max_ t ty vs.toArray).run P w1=.ok v w1)/\VR T w S φ a v/\okA H a:=by
 unfold wp7 at ha;split at ha
 ·simp only [X0] at ha;subst ha
  match vs,hv with
  | [v],hv=>have:=za3 hv.1;subst this;exact ⟨_,fun w1=>by simp [Builtin.max_],VR.int _ _,jq3 _ _⟩
 ·split at ha
  ·rename_i hk;have:=za8 hk;subst this;simp only [X0] at ha;subst ha
   match vs,hv with
   | [u,v],hv=>have:=za3 hv.1;subst this;have:=za3 hv.2.1;subst this;exact ⟨_,fun w1=>by simp [Builtin.max_,Builtin.max2,kp3],VR.int _ _,jq3 _ _⟩
  ·cases ha
 ·cases ha
def zf8 {α} {a:Array α} {x} (h:a.toList= [x]):a= #[x]:=by rw [<-Array.toArray_toList (xs:=a),h]
def qg8 {a b t e} (h:yx2 T P a t e=some b): ∀i∈b.ids,i∈a.ids:=by
 unfold yx2 at h;split at h
 ·split at h
  ·cases h
  ·split at h
   ·split at h
    ·simp only [X0] at h;subst h;intro i d;simpa [AV.ids,u0] using d
    ·simp only [X0] at h;subst h;intro i d;simpa [AV.ids] using d
   ·split at h
    ·rename_i z c;simp only [X0] at h;subst h;unfold va5 at c;split at c
     ·split at c
      ·simp only [X0] at c;subst c;intro i d;simp [AV.ids,u0,jz5] at d
      ·cases c
     ·cases c
    ·cases h
 ·cases h
def qg9 {a b t xt r} (h:yx2 T P a t r=some b) {v} (y:VR T w S φ a v): ∃u,(∀g,(Instr.typeAssert v xt t r).run P g=.ok u g)/\VR T w S φ b u:=by
 unfold yx2 at h;split at h
 ·rename_i d A x l;obtain ⟨u,rfl,j⟩:=y;split at h
  ·cases h
  ·rename_i c;split at h
   ·rename_i m;have:=X1 m;subst this;split at h
    ·simp only [X0] at h;subst h;refine ⟨.tuple #[u,.bool true],fun g=>?_,⟨_,rfl,j,VR.bool _,trivial⟩⟩;cases d<;>first|(exact (c _ rfl).elim)|simp [Instr.typeAssert,run_underlying l]
    ·simp only [X0] at h;subst h;refine ⟨u,fun g=>?_,j⟩;cases d<;>first|(exact (c _ rfl).elim)|simp [Instr.typeAssert,run_underlying l]
   ·rename_i m;have p:A≠t:=by intro e;subst e;simp at m
    split at h
    ·rename_i z f;simp only [X0] at h;subst h;unfold va5 at f;split at f
     ·rename_i i B;split at f
      ·rename_i s q;simp only [X0] at f;subst f;refine ⟨.tuple #[s,.bool false],fun g=>?_,⟨_,rfl,jz6 T s,VR.bool _,trivial⟩⟩;cases d<;>first|(exact (c _ rfl).elim)|simp [Instr.typeAssert,run_underlying l,p,zeroValue,typeInfo,B,q]
      ·cases f
     ·cases f
    ·cases h
 ·cases h
def CellsR.cons {c cs vs} (h:CellsR T w S (c::cs) vs): ∃v r,vs=v::r/\yl2 T w S c v/\CellsR T w S cs r:=by
 obtain ⟨a,b⟩:=h;cases vs with
 |nil=>cases a
 |cons v r=>exact ⟨v,r,rfl,b 0 c v rfl rfl,by simpa using a,fun j c' d e f=>b (j+1) c' d (by simpa using e) (by simpa using f)⟩
def jr9: ∀(xs) {a},CellsR T w S (xs.flatMap (zb5 T (.int .u8))) a->a=List.map (fun x:Int=>Value.int .u8 x) xs
 | [],a,h=>by
  obtain ⟨b,_⟩:=h;cases a with
  |nil=>rfl
  |cons _ _=>cases b
 |x::r,a,h=>by
  have h:CellsR T w S (⟨.int .u8,x⟩::r.flatMap (zb5 T (.int .u8))) a:=h;obtain ⟨v,vs,rfl,b,c⟩:=h.cons;rw [jr9 r c];have:=za3 (T:=T) (φ:=fun _=>⟨none,0,0,[]⟩) (v:=v) b;rw [this];rfl
def jw7 {rd ids r} (h:Sim T w0 S0 ⟨F,H⟩ F' w S φ) (v:Chg S w r) (j:Same φ rd w r) (l: ∀i∈ids,i∈rd):yu5 T r S φ H ids:=by
 intro i G J K f;have a:=h.ents i _ K;cases J with
 |row I X ys=>
  obtain ⟨B,p,s,u,x,y,L⟩:=a;refine ⟨B,p,?_,u,W7 x v.size,y.chg T v (fun _ h=>h) (fun b z=>.inl z),L⟩;rcases s.cases with ⟨M,N,O,R⟩|⟨c,q,U,d,A,D,E,V⟩
  ·rw [M,N,O,R];exact Own.nil _ _ _ _
  ·have W:=j i (l i G) _ q d.lt;have e:Blk r (bk (φ i).ad) c I:=W.trans d;rw [q];exact Own.ofBlk e U A D E _ V
 |blk I cs=>
  obtain ⟨g,c,s,u,x,y⟩:=a;exact ⟨g,c,s,(j i (l i G) _ s u.lt).trans u,x,y.chg T v (fun _ h=>h) (fun b z=>.inl z)⟩
 |map k es=>cases f
 |tmap k t m=>cases f
 |drow _ _ _ _ _=>cases f
 |pmap _ _ _ _ _=>cases f
 |hid=>cases f
 |gone=>cases f
def vn9 {Z:Prop} {R:Type} {r:R} {rd:List Nat} {s d e:TypeId} {x:Operand} (A:o.op=.convert s d x) {a:AV T.U} (hx:aev T F x=some a) (hs:P.underlying s=some (.slice e)) (I:P.underlying d=some .string) (he:P.underlying e=some (.int .u8))
  {K0:AV T.U->Option R} (J:rdF T H (.list (.int .u8)) a (fun xs=>K0 (.cell ⟨.str,yu7 xs⟩))=some r) (L: ∀i∈a.ids,i∈rd) (h:Sim T w0 S0 ⟨F,H⟩ F' w S φ) (K: ∀a v,K0 a=some r->QR P F' o S φ rd w v->VR T w S φ a v->okA H a->Z):Z:=by
 obtain ⟨X,h1,h2⟩:=v8 h.fr hx;obtain ⟨xs,hK,B⟩:=jh8 (t:=.list (.int .u8)) J;refine K _ (.string (yu7 xs)) hK ?_ (CR.str _) (zo0 rfl (by intro _ _ _ _ e;cases e));intro g hc M;have m:yu5 T g S φ H a.ids:=jw7 h hc M L;obtain ⟨N,p,hv⟩:=vk5 (w:=g) (t:=.list (.int .u8)) (K:=some) (by rw [B]) m (h2.chg T hc (fun _ h=>h) fun b hb=>.inl hb) φ;have p:N=xs:=X5 p;rw [p] at hv;have q:CR T g [] (.list (.int .u8)) xs X:=hv;have O: ∃ad cap,X=.slice ad (List.length (α:=Int) xs) cap:=by
  cases q with
  |list _ _ ad cap u _ _ _ _ _=>exact ⟨ad,cap,rfl⟩
 obtain ⟨ad,cap,rfl⟩:=O;obtain ⟨_,D,l,V,W⟩:=jl1 q;have c:=jr9 _ W;have z:execOp (evD F') o=(do return Next.value (<-convert s d (evD F' x))):=by
  cases o;simp only at A;subst A;rfl
 have Y:(convert s d (.slice ad (List.length (α:=Int) xs) cap)).run P g=.ok (.string (yu7 xs)) g:=by
  rw [run_convert_bytes_string g s d e ad _ cap hs he I];cases had:ad with
  |none=>
   have:xs= []:=T1 (D had).1;subst this;rfl
  |some a0=>
   subst had;have f:=run_loadCells_list (P:=P) (w:=g) a0 l (fun j v hj=>by
    have:=(V j v hj).2;by_cases E:xs= []
    ·subst E;rw [c] at hj;cases hj
    ·cases q with
     |list _ _ _ _ u hcap hnil' G _ _=>
      obtain ⟨e1,_,_⟩:=G E;simp only [X0] at e1;rw [e1,Addr.add];split
      ·rename_i h0;simpa [h0] using this
      ·simpa using this)
   have hl:l.length=List.length (α:=Int) xs:=by rw [c];exact W9 ..
   rw [hl,c] at f;exact run_bytesToString g a0 _ cap xs f
 rw [z,k8 h1];show ((convert s d (.slice ad (List.length (α:=Int) xs) cap)) >>= fun y=>pure (Next.value y)).run P g=_;rw [Sem.run_bind,Y];rfl
def ke2 {g e s b cap} (p:w.heap[g]?=some (.cells (bytesRow b cap) e s)) (i:b.size<=cap) (t:g∉S):CR T w S (.list (.int .u8)) (zu5 b) (.slice (some ⟨g,0,none⟩) b.size cap):=by
 have q:List.length (α:=den T.U (.int .u8)) (zu5 b)=b.size:=by
  exact jy1 b
 have l:=(Y3.1 p).1;have a: ∀(k j:Nat) (c:Cell T.U),((zu5 b:List (den T.U (.int .u8)))[k]?.map fun x=>(zb5 T (.int .u8) x)[j]?)=some (some c)-> ∃y:UInt8,b.data[k]?=some y/\j=0/\c=⟨.int .u8,(y.toNat:Int)⟩:=by
  intro k j c h;have h:((b.data.toList.map fun b=>(b.toNat:Int))[k]?.map fun x=>([⟨.int .u8,x⟩]:List (Cell T.U))[j]?)=some (some c):=h;rw [W2,Array.getElem?_toList] at h;cases f:b.data[k]? with
  |none=>rw [f] at h;cases h
  |some y=>
   rw [f] at h;have h:([⟨.int .u8,(y.toNat:Int)⟩]:List (Cell T.U))[j]?=some c:=X5 h;cases j with
   |zero=>exact ⟨y,rfl,rfl,(X5 h).symm⟩
   |succ j=>cases h
 have m:=CR.list (T:=T) (w:=w) (S:=S) (.int .u8) (zu5 b) (some ⟨g,0,none⟩) cap (fun k _=>.int .u8 (((b.data[k]?).getD 0).toNat:Int)) (by rw [q];exact i) (fun h=>by cases h) (fun _=>⟨rfl,l,t⟩)
  (fun k j c h=>by
   obtain ⟨y,d,r,_⟩:=a k j c h;subst r;have f:=(Y3.1 d).1;show w.cell? ⟨g,0+(k*1+0),none⟩=_;have u:0+(k*1+0)=k:=by omega
   rw [u];unfold World.cell?;simp only [p];show (bytesRow b cap)[k]?=_;unfold bytesRow;rw [Array.getElem?_append_left (by rw [Array.size_map];exact f),Array.getElem?_map,d];rfl)
  (fun k j c h=>by
   obtain ⟨y,d,r,rfl⟩:=a k j c h;show CR T w S (.int .u8) (y.toNat:Int) (.int .u8 (((b.data[k]?).getD 0).toNat:Int));rw [d];exact .int _ _)
 rwa [q] at m
def CR.same (p:w.heap.size<=w'.heap.size) (q: ∀(a:Addr) (v:Value),w.cell? a=some v->w'.cell? a=some v) {t x v} (h:CR T w S t x v):CR T w' S t x v:=by
 induction h with
 |int k x=>exact .int k x
 |bool b=>exact .bool b
 |str s=>exact .str s
 |nl e xs ad cap _ r i=>exact .nl e xs ad cap i r
 |list e xs ad cap u f g l d m i=>
  refine .list e xs ad cap u f g (fun y=>?_) (fun k j c z=>q _ _ (d k j c z)) i;obtain ⟨A,B,D⟩:=l y;exact ⟨A,V1 B p,D⟩
def Sim.less (h:Sim T w0 S0 ⟨F,H⟩ F' w S φ) {g} (c: ∀(j:Nat) (e:Ent T.U),H[j]?=some e->e.live=true-> ∀a,At (φ j) a->a.block≠g) (r:g∈S0.chg\/w0.heap.size<=g):Sim T w0 S0 ⟨F,H⟩ F' w (S.filter fun b=> !Nat.beq b g) φ:=by
 have d: ∀b∈S.filter (fun b=> !Nat.beq b g),b∈S:=fun b i=>(W0.1 i).1;have m: ∀ {b:Nat},b∈S->b≠g->b∈S.filter fun b=> !Nat.beq b g:=fun i s=>W0.2 ⟨i,by cases hq:Nat.beq _ g with|true=>exact absurd (X1 hq) s|false=>rfl⟩;refine ⟨fun j a l=>?_,h.ids,h.chg,fun b i=>h.own b (d b i),fun b i t u=>m (h.ex b i t u) (fun e=>?_),fun j f p q a l=>⟨m (h.lives j f p q a l).1 (c j f p q a l),(h.lives j f p q a l).2⟩,h.pins,fun j f p=>?_,h.eids,h.apart⟩
 ·obtain ⟨v,x,y⟩:=h.fr j a l;exact ⟨v,x,y.chg T (Chg.refl [] w) (by simp) fun b i=>.inl (d b i)⟩
 ·subst e;rcases r with r|r
  ·exact t r
  ·omega
 ·exact (h.ents j f p).chg T (Chg.refl [] w) (by simp) (fun b i=>.inl (d b i)) fun q a l=>⟨by simp,m (zf5 h p q l) (c j f p q a l)⟩
def qh5 (w:World) (a:Addr) (n:Nat) (b:Addr):(w.freeze a n).cell? b=w.cell? b:=by
 unfold World.freeze;split
 ·rfl
 ·unfold World.cell?;simp only [Array.getElem?_modify];by_cases c:a.block=b.block
  ·rw [if_pos c];cases hq:w.heap[b.block]? with
   |none=>rfl
   |some q=>cases q<;>rfl
  ·rw [if_neg c]
def qv3 (w g k n):Chg [g] w (w.freeze ⟨g,k,none⟩ n):=by
 unfold World.freeze;split
 ·exact Chg.refl [g] w
 ·refine ⟨rfl,rfl,rfl,by simp,fun j b a=>?_⟩;simp only [Q5] at a;show (w.heap.modify g _)[j]?=_;rw [Array.getElem?_modify,if_neg (Ne.symm a)]
def vn8 {s e x} (Z:dec ops k n F'=some o) (u:o.op=.convert s s x) {i} (hx:aev T F x=some (.own i)) (hs:P.underlying s=some (.slice e)) (m:P.underlying e=some (.int .u8)) {et xs} (G:H[i]?=some (.row et (.int .u8) xs)) (L:xs≠ [])
  (h:Sim T w0 S0 ⟨F,H⟩ F' w S φ) (K:zp6 P ops Q (k+1) n ds w0 S0 (⟨za9 T F o.dst (.cell ⟨.list (.int .u8),xs⟩),H.set i .gone⟩:St T)):WR P ops Q k n ds F' w:=by
 obtain ⟨X,h1,R⟩:=v8 h.fr hx;rw [VR] at R;subst R;have p:=h.ents i _ G;obtain ⟨B,V,q1,q2,q3,q4,q5⟩:=id p;have hg: ∃g,(φ i).ad=some ⟨g,0,none⟩:=by
  rcases q1.cases with ⟨_,W,_⟩|⟨c,d,_⟩
  ·rw [q2] at W;exact absurd (T1 W) L
  ·exact ⟨_,d⟩
 obtain ⟨g,d⟩:=hg;have z: ∀w,(underlying s).run P w=.ok (.slice e) w:=run_underlying hs;have A: ∀w,(underlying e).run P w=.ok (.int .u8) w:=run_underlying m;have D: ∃w',(convert s s (.slice (φ i).ad (φ i).n (φ i).cap)).run P w=.ok (.slice (φ i).ad (φ i).n (φ i).cap) w'/\Chg [g] w w'/\ ∀b,w'.cell? b=w.cell? b:=by
  rw [d];cases hsh:w.shape? g with
  |none=>exact ⟨w,by simp [convert,z,A,markStringish,hsh,Result.andThen],Chg.refl [g] w,fun _=>rfl⟩
  |some q=>exact ⟨w.freeze ⟨g,q.2,none⟩ 1,by simp [convert,z,A,markStringish,hsh,Result.andThen],qv3 w g _ 1,qh5 w _ 1⟩
 obtain ⟨w',hr,Y,r⟩:=D;have h3:=h.upd (w':=w') (i:=i) (e:=.gone) G rfl (Tc:= [g]) Y (fun b I=>⟨_,.inl d,by simp at I;exact I.symm⟩) trivial (fun j hj=>by cases hj) (by intro _ _ _ h;cases h);have t: ∀(j:Nat) (e:Ent T.U),(H.set i .gone)[j]?=some e->e.live=true->j≠i/\H[j]?=some e:=by
  intro j e m J;by_cases l:j=i
  ·subst l;have M:=(X2.1 m).1;rw [Q0 (by simpa using M)] at m;simp only [X0] at m;subst m;cases J
  ·rw [Z5 (Ne.symm l)] at m;exact ⟨l,m⟩
 have h4:=h3.less (g:=g) (fun j f N J a E m=>by
  obtain ⟨l,N⟩:=t j f N J;exact h.apart j i f _ N G J rfl l a _ E (.inl d) m) (h.lives i _ G rfl _ (.inl d)).2
 have O:CR T w (S.filter fun b=> !Nat.beq b g) (.list (.int .u8)) xs (.slice (φ i).ad (φ i).n (φ i).cap):=jp8 p (fun b I=>(W0.1 I).1) (fun a E hm=>by
  rw [d] at E;simp only [X0] at E;subst E;have:=(W0.1 hm).2;simp [V7] at this)
 refine WR.val (v:=.slice (φ i).ad (φ i).n (φ i).cap) Z ?_ (K _ _ ⟨_,φ,h4.slot (a:=.cell ⟨.list (.int .u8),xs⟩) (O.same Y.size fun a v hv=>(r a).trans hv) (zo0 rfl (by intro _ _ _ _ e;cases e))⟩);cases o;simp only at u;subst u;show ((convert s s (evD F' x)) >>= fun y=>pure (Next.value y)).run P w=_;rw [k8 h1,Sem.run_bind,hr];rfl
def qu5 {s d e x} (m:dec ops k n F'=some o) (c:o.op=.convert s d x) {b} (p:aev T F x=some (.cell ⟨.str,b⟩)) (q:P.underlying s=some .string) (g:P.underlying d=some (.slice e)) (r:P.underlying e=some (.int .u8))
  (h:Sim T w0 S0 ⟨F,H⟩ F' w S φ) (K:zp6 P ops Q (k+1) n ds w0 S0 (⟨za9 T F o.dst (.cell ⟨.list (.int .u8),zu5 b⟩),H⟩:St T)):WR P ops Q k n ds F' w:=by
 obtain ⟨X,t,i⟩:=v8 h.fr p;have i:CR T w S .str b X:=i;cases i;have l:=run_bytes_of_string (P:=P) w s d e b q g r;generalize f:grownCap w b.size 0 e=cap at l;have j:b.size<=cap:=by rw [<-f];exact grownCap_ge w b.size 0 e
 have u:Chg [] w (w.drew.alloc (.cells (bytesRow b cap) e ((bytesRow b cap).size,(bytesRow b cap).size+1))):=(Chg.drew w).pure (Chg.alloc _ _);refine WR.val (v:=.slice (some ⟨w.heap.size,0,none⟩) b.size cap) m ?_ (K _ _ ⟨S,φ,(h.pure u).slot (a:=.cell ⟨.list (.int .u8),zu5 b⟩) (ke2 (heap_alloc_new w.drew _) j fun z=>Nat.lt_irrefl _ (h.own _ z).2) (zo0 rfl (by intro _ _ _ _ e;cases e))⟩);cases o;simp only at c;subst c;show ((convert s d (evD F' x)) >>= fun y=>pure (Next.value y)).run P w=_;rw [k8 t,Sem.run_bind,l];rfl
def ja7 {t:TypeId} {len:Nat} {ps:Array (Nat×Operand)} (hd:dec ops k n F'=some o) (hop:o.op=.buildSlice t len ps) {l:List (Nat×AV T.U)} (hl:zs0 T F ps.toList=some l) {e:TypeId} {sz:Nat} {cs:List (AV T.U)} (hb:yt1 T P t len l=some (e,sz,cs))
  (h:Sim T w0 S0 ⟨F,H⟩ F' w S φ) {av:AV T.U} (hav: ∀(g:Nat) (w':World) (S':List Nat) (φ':Nat->RA),φ' H.length=⟨some ⟨g,0,none⟩,len,len,[]⟩->VR T w' S' φ' av (.slice (some ⟨g,0,none⟩) len len)) (hok:okA (H++ [.blk e cs]) av) (K:zp6 P ops Q (k+1) n ds w0 S0 (⟨za9 T F o.dst av,H++ [.blk e cs]⟩:St T)):WR P ops Q k n ds F' w:=by
 unfold yt1 at hb;split at hb
 ·rename_i et s1 by_ zc he;split at hb
  ·rename_i hok;simp only [X3] at hok;have hs1:=Y1 hok.1;have h16:=Y1 hok.2;split at hb
   ·rename_i cs1 hcs;split at hb
    case h_2=>cases hb
    rename_i hna;simp only [X0,X7] at hb;obtain ⟨rfl,rfl,rfl⟩:=hb;obtain ⟨i,zv,hu,hin,hzv,hsi,_,hzc,hzl⟩:=zd2 he;subst hzc;obtain ⟨e1,e2⟩:=zy4 h.fr hl;have hz0:VRL T w S φ ((List.range (len*s1)).map fun j=>yi9 T (zv.cells[j%s1]!)) ((Array.range (len*i.size)).map (zv.cells[· %zv.cells.size]!)).toList:=by
     rw [hsi,hzl,M7,T5];generalize List.range (len*s1)=rr;induction rr with
     |nil=>trivial
     |cons a r ih=>exact ⟨ye2 T _,ih⟩
    obtain ⟨c',g1,g2⟩:=yb8 hz0 e1 e2 hcs;have hbs:zx2 P t len (ps.toList.map fun p=>(p.1,evD F' p.2))=some (et,c'):=by
     unfold zx2;rw [hu];simp only [hin];rw [hsi,W3 h16];simp only;rw [hsi] at g1;have hfin:Instr.fill (fun j=>some (j*s1,s1)) ((Array.range (len*s1)).map (zv.cells[· %zv.cells.size]!)) (ps.toList.map fun p=>(p.1,evD F' p.2))=some c':=g1;cases hz:Nat.beq (len*s1) 0 with
     |true=>
      have:=X1 hz;simp only;rw [this] at hfin⊢;have hr0:Array.range 0= #[]:=rfl;rw [hr0] at hfin⊢;have em: ∀f:Nat->Value,Array.map f #[]= #[]:=fun f=>by simp
      rw [em] at hfin⊢;rw [hfin]
     |false=>simp only [hzv,hfin]
    have hpi: ∀i∈u0 cs1,i<H.length:=yl9 hcs (fun i hi=>by
     obtain ⟨a,ha,hia⟩:=zm0 hi;obtain ⟨j,_,rfl⟩:=U0.1 ha;rw [yk3] at hia;cases hia) (yr3 h hl)
    refine WR.bslice c' (jk2 hd hop hbs) fun g w' hN=>?_;have hS: ∀b∈g::S,b∈S\/w.heap.size<=b:=by
     intro b hb;rcases Z0.1 hb with rfl|hb
     ·exact .inr hN.fresh
     ·exact .inl hb
    have hadd:=h.add (r:=⟨some ⟨g,0,none⟩,len,len,[]⟩) hN.chg hN.fresh hN.blk.lt (fun a ha=>ya0 ha) (e:=.blk et cs1)
     ⟨g,c',by rw [k7],hN.blk,by simp,BR.of T ((g2.chg T hN.chg (by simp) hS).phi fun i hi=>zc9 (by have:=hpi i hi;omega)) hna⟩ (by intro j hj;have:=hpi j hj;omega)
    exact K _ _ ⟨_,_,hadd.slot (a:=av) (hav _ _ _ _ k7) hok⟩
   ·cases hb
  ·cases hb
 ·cases hb
def qu1 {t:TypeId} {len:Nat} {ps:Array (Nat×Operand)} (hd:dec ops k n F'=some o) (hop:o.op=.buildSlice t len ps) {l:List (Nat×AV T.U)} (hl:zs0 T F ps.toList=some l) {e:TypeId} {sz:Nat} {cs:List (AV T.U)} (hb:yt1 T P t len l=some (e,sz,cs))
  (h:Sim T w0 S0 ⟨F,H⟩ F' w S φ) (K:zp6 P ops Q (k+1) n ds w0 S0 (⟨za9 T F o.dst (.sl H.length sz 0 len),H++ [.blk e cs]⟩:St T)):WR P ops Q k n ds F' w:=
 ja7 hd hop hl hb h (fun g w' S' φ' hp=>by
  rw [VR,hp];exact ⟨some ⟨g,0,none⟩,rfl,by simp,.inr ⟨g,rfl,by simp⟩,fun h=>(by cases h),fun _=>rfl⟩) ⟨by intro i hi;simp [AV.ids] at hi;subst hi;simp,trivial⟩ K
def jj3 {v} (a:dec ops k n F'=some o) (b:(execOp (evD F') o).run P w=.ok (.value v) w') (K:WR P ops Q (k+1) n ds (upd F' o.dst v) w'):WR P ops Q k n ds F' w:=WR.val a b K
def wb9 {t a z} (b:wp3 P t H a=some z) (h:Sim T w0 S0 ⟨F,H⟩ F' w S φ) {v} (y:VR T w S φ a v) (ty) {d} (f:Same φ (qe2 [a]) w d):(Builtin.len_ #[t] ty #[v]).run P d=.ok (.int .i64 z) d:=by
 unfold wp3 at b;split at b<;>try (cases b;done)
 rename_i J K A;split at b<;>try (cases b;done)
 rename_i i;split at b<;>try (cases b;done)
 rename_i B ty es D;simp only [X0] at b;subst b;obtain ⟨g,q,rfl⟩:=y;obtain ⟨L,l,E,j,u,M,G,N⟩:=h.ents i _ D;rw [q] at j;simp only [X0,Addr.mk.injEq,and_true] at j;subst j;have m:d.heap[g]?=some (.map l E):=(f i (by simp [qe2]) _ q u.lt).trans u;have c: ∀ {es:List (Int×den T.U ty)} {l:List MapEntry},TR T w S B ty es l->es.length=l.length:=by
  intro es;induction es with
  |nil=>intro l h;cases l with|nil=>rfl|cons _ _=>exact h.elim
  |cons p r I=>intro l h;obtain ⟨x,a⟩:=p;cases l with|nil=>exact h.elim|cons e s=>simp [I h.2.2]
 have:=c G;simp [Builtin.len_,run_underlying A,MapKept.run_getObj_map m,Result.andThen,this,goInt]
def vo2 {m z A t at2 R x c} (V:dec ops k n F'=some o) (j:o.op=.call c) (W:c.callee=.builtin .delete) (ha:c.args.toList= [z,A]) (B:c.argTypes.toList=t::at2) (hm:aev T F z=some m) (hk:aev T F A=some (cI T R x))
  {H1} (b:gb3 T P t H m R x=some H1) (h:Sim T w0 S0 ⟨F,H⟩ F' w S φ) (K:zp6 P ops Q (k+1) n ds w0 S0 (⟨za9 T F o.dst (.tup []),H1⟩:St T)):WR P ops Q k n ds F' w:=by
 obtain ⟨M,Y,Z⟩:=v8 h.fr hm;obtain ⟨X,h3,h4⟩:=v8 h.fr hk;have e:=za3 h4;subst e;unfold gb3 at b;split at b<;>try (cases b;done)
 rename_i i kd kt et u;have d:c.args= #[z,A]:=by rw [<-Array.toArray_toList (xs:=c.args),ha]
 have p:c.argTypes=(t::at2).toArray:=by rw [<-B]
 split at b<;>try (cases b;done)
 ·rename_i D es f;split at b<;>try (cases b;done)
  rename_i q;rw [X3] at q;have E:=za8 q.1;have G:=za8 q.2;subst E;subst G;simp only [X0] at b;subst b;obtain ⟨g,y,rfl⟩:=Z;obtain ⟨g',l,cl,r,I,J,L,N⟩:=h.ents i _ f;rw [y] at r;simp only [X0,Addr.mk.injEq,and_true] at r;subst r;obtain ⟨w',s,O⟩:=ge8 (x:=x) (ty':=o.type) (at2:=at2) u h f y I J L N;refine jj3 (v:=.tuple #[]) V (w':=w') ?_ (K _ _ ⟨S,φ,O.slot (a:=.tup []) ⟨#[],rfl,trivial⟩ ⟨fun i b=>(by cases b),trivial⟩⟩);rw [<-p] at s;cases o;simp only at j s;subst j;simp [execOp,resolve,W,invoke,builtin,d,k8 Y,k8 h3,s]
 ·rename_i D ty es f;split at b<;>try (cases b;done)
  rename_i q;rw [X3] at q;have E:=za8 q.1;have G:=za8 q.2;subst E;subst G;simp only [X0] at b;subst b;obtain ⟨g,y,rfl⟩:=Z;obtain ⟨g',l,cl,r,I,J,L,N⟩:=h.ents i _ f;rw [y] at r;simp only [X0,Addr.mk.injEq,and_true] at r;subst r;obtain ⟨w',s,O⟩:=kn5 (x:=x) (ty':=o.type) (at2:=at2) u h f y I J L N;refine jj3 (v:=.tuple #[]) V (w':=w') ?_ (K _ _ ⟨S,φ,O.slot (a:=.tup []) ⟨#[],rfl,trivial⟩ ⟨fun i b=>(by cases b),trivial⟩⟩);rw [<-p] at s;cases o;simp only at j s;subst j;simp [execOp,resolve,W,invoke,builtin,d,k8 Y,k8 h3,s]
def ke5 {R:Type} {r:R} {x:Operand} {t:TypeId} {c:Call} (hd:dec ops k n F'=some o) (hop:o.op=.call c) (hc:c.callee=.builtin .clear) (ha:c.args.toList= [x]) (hat:c.argTypes.toList= [t]) {s:AV T.U} (hx:aev T F x=some s)
  {K0:AV T.U->List (Ent T.U)->Option R} (hK0:yn7 T P t H s K0=some r) (h:Sim T w0 S0 ⟨F,H⟩ F' w S φ) (K: ∀b H1,K0 b H1=some r->zp6 P ops Q (k+1) n ds w0 S0 (⟨za9 T F o.dst b,H1⟩:St T)):WR P ops Q k n ds F' w:=by
 obtain ⟨X,h1,h2⟩:=v8 h.fr hx;unfold yn7 at hK0;split at hK0<;>try (cases hK0;done)
 ·rename_i i;split at hK0<;>try (cases hK0;done)
  rename_i kd ty es kt et hi hu;obtain ⟨g,hg,rfl⟩:=h2;obtain ⟨g',l,cl,a1,a2,a3,a4,a5⟩:=h.ents i _ hi;rw [hg] at a1;simp only [X0,Addr.mk.injEq,and_true] at a1;subst a1;have hb:w.heap[g]?=some (.map l cl):=a2;have hargs:c.args= #[x]:=zf8 ha;have hatt:c.argTypes= #[t]:=zf8 hat;refine jj3 (v:=.tuple #[]) hd (w':= {w with heap:=w.heap.setIfInBounds g (.map #[] cl)}) ?_ (K _ _ hK0 _ _ ⟨S,φ,(yk8 (l':= #[]) (c':=cl) (es':= []) h hi hg a2 a3 (by simp only [TR]) (MapKept.stamped_empty cl)).slot (a:=.tup []) ⟨#[],rfl,trivial⟩ ⟨fun i hi=>(by cases hi),trivial⟩⟩);cases o;simp only at hop;subst hop;simp [execOp,resolve,hc,invoke,builtin,hargs,hatt,k8 h1,Builtin.clear_,run_underlying hu,MapKept.run_getObj_map hb,MapKept.run_setObj_map _ hb,Result.andThen]
 rename_i i sz o1 m;split at hK0<;>try (cases hK0;done)
 rename_i e ty xs hi;split at hK0<;>try (cases hK0;done)
 rename_i et s1 by_ zc he;split at hK0<;>try (cases hK0;done)
 rename_i z hsz hz;simp only [X3] at hsz;have:=X1 hsz.1;subst this;have:=X1 hsz.2;subst this;split at hK0<;>try (cases hK0;done)
 rename_i x0 hx0;obtain ⟨hle,hK⟩:=u9 hK0;obtain ⟨ii,zv,hu,hin,hzv,hsi,_,hzc,hzl⟩:=zd2 he;subst hzc;obtain ⟨ad,rfl,hcap,hn,hnil,_⟩:=h2;have hargs:c.args= #[x]:=zf8 ha;have hatt:c.argTypes= #[t]:=zf8 hat;have hval: ∀w',(Builtin.clear_ #[t] o.type #[Value.slice ad m ((φ i).cap-o1)]).run P w=.ok (.tuple #[]) w'->(execOp (evD F') o).run P w=.ok (.value (.tuple #[])) w':=by
  intro w' hr;have:execOp (evD F') o=(do return Next.value (<-Builtin.clear_ #[t] o.type #[Value.slice ad m ((φ i).cap-o1)])):=by
   cases o;simp only at hop;subst hop;simp only [execOp,resolve,hc,invoke,builtin,hargs,hatt,Array.map_singleton,k8 h1]<;>rfl
  rw [this];simp only [Sem.run_bind,hr,Result.andThen_ok];rfl
 have hi':H[i]?=some (.row e ty xs):=hi;by_cases hm:m=0
 ·subst hm;have hsame:H.set i (.row e ty (xs.take o1++(List.replicate 0 x0++xs.drop (o1+0))))=H:=by
   rw [List.replicate_zero,U6,M3,Q8];obtain ⟨hlt,hg⟩:=X2.1 hi';rw [<-hg,T6]
  rw [hsame] at hK;have hrun:(Builtin.clear_ #[t] o.type #[Value.slice ad 0 ((φ i).cap-o1)]).run P w=.ok (.tuple #[]) w:=by
   unfold Builtin.clear_;cases ad<;>simp [run_underlying hu,Sem.run_bind,Sem.run_pure,Result.andThen_ok]
  exact jq1 hd (hval w hrun) h (a:=.tup []) ⟨#[],rfl,trivial⟩ ⟨fun i hi=>(by cases hi),trivial⟩ (K _ _ hK)
 ·rcases hn with hn|⟨g,hg1,hg2⟩
  ·exact absurd hn hm
  ·subst hg2;obtain ⟨g',carr,B,vals,a1,a2,a3,a4,a5,a6,a7,a8,a9,a10,a11,a12⟩:=jd9 h hi (by omega);rw [hg1] at a1;simp only [X0,Addr.mk.injEq,and_true] at a1;subst a1;have hzlen:(Builtin.zeroCells zv.cells m).toList.length=m*szT T ty:=by simp [Builtin.zeroCells,hzl]
   have hmul:(o1+m)*szT T ty<=xs.length*szT T ty:=Q9 _ hle;have hmul2:xs.length*szT T ty<=(φ i).cap*szT T ty:=Q9 _ a11;rw [V5] at hmul;have hz1:CellsR T w S (zb5 T ty x0) zv.cells.toList:=by rw [zo8 T hx0];exact ye9 hz
   have hzc:CellsR T w S ((List.replicate m x0).flatMap (zb5 T ty)) (Builtin.zeroCells zv.cells m).toList:=by
    refine ⟨by rw [za7 (za2 T ty),Z9,hzlen],fun j c v h1 h2=>?_⟩;have hj:=(X2.1 h1).1;rw [za7 (za2 T ty),Z9] at hj;rw [zv5 (za2 T ty x0) _ _ hj] at h1;refine hz1.2 _ c v h1 ?_;have hpos:0<szT T ty:=by
     rcases N0 (szT T ty) with h0|h0
     ·rw [h0] at hj;omega
     ·exact h0
    rw [<-hzl] at hpos;unfold Builtin.zeroCells at h2;simp only [M7,T5,W2] at h2;rw [hzl,List.getElem?_range hj] at h2;simp only [Z8,X0] at h2;subst h2;rw [<-hzl,Array.getElem?_toList,Z6 (Nat.mod_lt _ hpos)];congr 1;rw [getElem!_pos zv.cells _ (Nat.mod_lt _ hpos)]
   have hone: ∀v∈(Builtin.zeroCells zv.cells m).toList,v.oneCell'=true:=hzc.one;obtain ⟨w',r1,r2,r3⟩:=zi8 P e g (Builtin.zeroCells zv.cells m).toList (0+o1*szT T ty) 0 carr w a4 (by rw [hzlen];omega) hone;have hrun:(Builtin.clear_ #[t] o.type #[Value.slice (some ⟨g,0+o1*szT T ty,none⟩) m ((φ i).cap-o1)]).run P w=.ok (.tuple #[]) w':=by
    unfold Builtin.clear_;cases m with
    |zero=>exact absurd rfl hm
    |succ m=>
     have hzr:(zeroValue et).run P w=.ok zv w:=by simp [zeroValue,typeInfo,hin,hzv,Sem.run_bind,Sem.run_pure,Result.andThen_ok]
     have r1':=r1;rw [W8] at r1';simp [run_underlying hu,Sem.run_bind,Sem.run_pure,Result.andThen_ok,hzr,r1']
   refine jj3 hd (hval w' hrun) ?_;refine K _ _ hK _ _ ⟨S,φ,(h.upd (e:=.row e ty (xs.take o1++(List.replicate m x0++xs.drop (o1+m)))) hi rfl r3 (fun b hb=>?_) ⟨B,(yg2 carr (0+o1*szT T ty+0) (Builtin.zeroCells zv.cells m).toList).toList.take (xs.length*szT T ty),?_,?_,W7 a10 r3.size,?_,?_⟩ ?_ ?_).slot (a:=.tup []) ⟨#[],rfl,trivial⟩ ⟨fun i hi=>(by cases hi),trivial⟩⟩
   ·simp at hb;subst hb;exact ⟨_,.inl hg1,rfl⟩
   ·rw [hg1,a2];exact Own.ofBlk r2 a9 a11 (by have:=a12;unfold maxLen at this;omega) (by rw [yn0];exact a5) _ rfl
   ·rw [a2];simp;omega
   ·have hxs:xs=xs.take o1++((xs.drop o1).take m++xs.drop (o1+m)):=by
     rw [<-List.drop_drop,Q8,Q8]
    have hnew:(xs.take o1++(List.replicate m x0++xs.drop (o1+m))).flatMap (zb5 T ty)=zj2 (xs.flatMap (zb5 T ty)) (o1*szT T ty) ((List.replicate m x0).flatMap (zb5 T ty)):=by
     conv=>rhs;rw [hxs]
     have hp:=yk4 ((List.replicate m x0).flatMap (zb5 T ty)) ((xs.take o1).flatMap (zb5 T ty)) (((xs.drop o1).take m).flatMap (zb5 T ty)) ((xs.drop (o1+m)).flatMap (zb5 T ty)) 0
      (by rw [za7 (za2 T ty),za7 (za2 T ty),Z9,Y6,Q7,V9 (by omega),W8];exact W6 _)
     rw [za7 (za2 T ty),Y6,V9 (by omega),M3] at hp;rw [J0,J0,J0,J0,<-List.append_assoc ((xs.take o1).flatMap (zb5 T ty)) (((xs.drop o1).take m).flatMap (zb5 T ty)),hp,Q2];congr 2;have hl2:((xs.drop o1).take m).length=m:=by rw [Y6,Q7];omega
     have: ∀(l cs:List (Cell T.U)),l.length=cs.length->zj2 cs 0 l=l:=by
      have gen: ∀(l pre cs:List (Cell T.U)),l.length=cs.length->zj2 (pre++cs) pre.length l=pre++l:=by
       intro l;induction l with
       |nil=>intro pre cs h;cases cs with|nil=>rfl|cons _ _=>simp at h
       |cons a r ih=>
        intro pre cs h;cases cs with
        |nil=>simp at h
        |cons b q=>
         rw [zj2,List.set_append_right _ _ (W6 _),Nat.sub_self,List.set_cons_zero];have:=ih (pre++ [a]) q (by simpa using h);simpa using this
      intro l cs h;simpa using gen l [] cs h
     rw [this _ _ (by rw [za7 (za2 T ty),za7 (za2 T ty),Z9,hl2])]
    rw [hnew,yc4,ym9,M3,W8,a6];exact (CellsR.put hzc a7).chg T r3 (by intro b hb;simp at hb;subst hb;exact a8) (fun b hb=>.inl hb)
   ·intro a ha;rw [hg1] at ha;simp only [X0] at ha;subst ha;exact a8
   ·intro q hq;cases hq
   ·intro e1 t1 zs he;simp only [Ent.row.injEq] at he;obtain ⟨rfl,rfl,hh⟩:=he;have:=eq_of_heq hh;subst this;exact ⟨e,xs,rfl,by simp;omega⟩
end
end Go.X
namespace Go.X
open Go.RowKit Go.V
section
variable {T:Tab} {P:Program} {C:Ctx T} {w w':World} {S S':List Nat} {φ φ':Nat->RA} {w0:World} {S0:Ow} {F:AF T} {H:List (Ent T.U)} {F':PF}
variable {ops:Array Oper} {Q:Exit->Act->World->Prop} {k n:Nat} {ds:List Deferred} {o:Oper}
def zq3 {F:AF T}: ∀ {l:List Operand} {aS:List (AV T.U)},zv9 T F l=some aS->l.length=aS.length
 | [],aS,h=>by simp only [zv9,X0] at h;subst h;rfl
 |x::r,aS,h=>by
  unfold zv9 at h;split at h
  ·rename_i a l ha hl;simp only [X0] at h;subst h;simp [zq3 hl]
  ·cases h
def gj5 {Z:Prop} {R:Type} {r:R} (hd:dec ops k n F'=some o) {K0:AV T.U->Option R} (hs:zs1 P o ⟨F,H⟩ K0=some r) (h:Sim T w0 S0 ⟨F,H⟩ F' w S φ)
  (K: ∀a v,K0 a=some r->QR P F' o S φ (qy3 o F) w v->VR T w S φ a v->okA H a->Z):Z:=by
 unfold zs1 at hs;simp only at hs;split at hs
 ·rename_i a ha;split at hs
  ·rename_i hm;obtain ⟨v,h1,h2⟩:=vr7 (P:=P) ha h.fr o rfl;exact K _ v hs (fun w1 _ _=>h1 w1) h2 (kh8 h ha hm)
  ·cases hs
 ·split at hs
  ·rename_i hop;split at hs
   ·rename_i hc hx hy;exact wc5 hd hop hc hx hy hs h K
   ·cases hs
  ·rename_i hop;split at hs
   ·rename_i hx hy;exact wr6 hd hop hx hy hs h K
   ·cases hs
  ·rename_i hop;split at hs
   ·rename_i p hx;split at hs
    ·rename_i a hl;exact kq9 hd hop hx hl h (fun i hi=>by unfold qy3;rw [hop];simp only [hx];exact hi) fun v=>K _ v hs
    ·cases hs
   ·cases hs
  ·rename_i hop;split at hs
   ·rename_i hs1 hd1 ha;split at hs
    ·rename_i he;exact vn9 hop ha hs1 hd1 he hs (fun i hi=>by simp only [qy3,hop,ha];exact hi) h K
    ·cases hs
   ·cases hs
  ·rename_i t0 x0 y0 hop;split at hs
   ·rename_i s0 j0 hu hx hy;unfold qg1 at hs;split at hs
    ·rename_i b hb;obtain ⟨X,h1,h2⟩:=v8 h.fr hx;obtain ⟨Y,h3,h4⟩:=v8 h.fr hy;have e1:=zq4 h2;have e2:=za3 h4;subst e1;subst e2;refine K _ (.int .u8 b.toNat) hs (fun w1 _ _=>?_) (VR.int _ _) (jq3 _ _);simp only [execOp,hop,k8 h1,k8 h3,Instr.index,asIntOf,Sem.run_bind,Sem.run_pure,Result.andThen_ok,run_underlying hu];rw [hb];rfl
    ·cases hs
   ·cases hs
  ·rename_i hop;split at hs
   ·rename_i hx hy;exact gd7 hd hop hx hy hs h K
   ·cases hs
  ·rename_i hop;split at hs
   ·rename_i hx hlo hhi;split at hs
    ·cases hs
    ·rename_i hne;refine gk2 hd hop hx hlo hhi ?_ hs h K
     grind
   ·cases hs
  ·rename_i x0 xt0 at0 ok0 hop;split at hs
   ·rename_i a hx;split at hs
    ·rename_i b hb;split at hs
     ·rename_i hne;obtain ⟨v,h1,h2⟩:=v8 h.fr hx;obtain ⟨u,h3,h4⟩:=qg9 (xt:=xt0) hb h2;refine K _ u hs (fun w1 _ _=>?_) h4 (zd4 hne fun i hi=>(zc5 h hx).1 i (qg8 hb i hi));simp [execOp,hop,k8 h1,h3]
     ·cases hs
    ·cases hs
   ·cases hs
  ·rename_i c hop;split at hs
   ·cases hs
   ·rename_i aS has;have h5:=yc8 h.fr has;split at hs
    ·rename_i hc;split at hs
     ·rename_i a t hat;split at hs
      ·rename_i z hz;have e1:=zf8 hat;have hv: ∃v,(c.args.map (evD F'))= #[v]/\VR T w S φ a v:=by
        have h6:VRL T w S φ [a] (c.args.toList.map (evD F')):=h5
        match hm:c.args.toList.map (evD F'),h6 with
        | [v],h6=>exact ⟨v,zf8 (by simpa using hm),h6.1⟩
       obtain ⟨v,hv1,hv2⟩:=hv;exact K _ _ hs (fun w1 _ _=>by simp [execOp,hop,resolve,hc,invoke,hv1,e1,builtin,vp5 hz h hv2]) (VR.int _ _) (jq3 _ _)
      ·split at hs
       ·rename_i z hz;have e1:=zf8 hat;have hv: ∃v,(c.args.map (evD F'))= #[v]/\VR T w S φ a v:=by
         have h6:VRL T w S φ [a] (c.args.toList.map (evD F')):=h5
         match hm:c.args.toList.map (evD F'),h6 with
         | [v],h6=>exact ⟨v,zf8 (by simpa using hm),h6.1⟩
        obtain ⟨v,hv1,hv2⟩:=hv;refine K _ _ hs (fun w1 _ hsm=>?_) (VR.int _ _) (jq3 _ _);have hsm':Same φ (qe2 [a]) w w1:=fun i hi=>hsm i (by unfold qy3;rw [hop];simp only [hc,has];exact hi);simp [execOp,hop,resolve,hc,invoke,hv1,e1,builtin,wb9 hz h hv2 _ hsm']
       ·cases hs
     ·cases hs
    ·rename_i hc;split at hs
     ·rename_i a ha;obtain ⟨v,h1,h2,h3⟩:=kg4 (P:=P) (H:=H) ha h5 c.argTypes o.type;have h1': ∀w,(Builtin.min_ c.argTypes o.type (c.args.map (evD F'))).run P w=.ok v w:=fun w=>by simpa [<-Array.toList_map] using h1 w
      exact K _ v hs (fun w1 _ _=>by simp [execOp,hop,resolve,hc,invoke,builtin,h1']) h2 h3
     ·cases hs
    ·rename_i hc;split at hs
     ·rename_i a ha;obtain ⟨v,h1,h2,h3⟩:=kg2 (P:=P) (H:=H) ha h5 c.argTypes o.type;have h1': ∀w,(Builtin.max_ c.argTypes o.type (c.args.map (evD F'))).run P w=.ok v w:=fun w=>by simpa [<-Array.toList_map] using h1 w
      exact K _ v hs (fun w1 _ _=>by simp [execOp,hop,resolve,hc,invoke,builtin,h1']) h2 h3
     ·cases hs
    ·cases hs
  ·cases hs
def qv1 {t b sz} (a:zg3 P t=some (b,sz)) (h:kw9 P t=true): ∃e d,P.underlying t=some (.array b e)/\P.underlying e=some d/\zz9 d=false:=by
 obtain ⟨e,f,c,_,_,_⟩:=zj3 a;unfold kw9 at h;rw [c] at h;simp only at h;split at h
 ·rename_i d g;exact ⟨e,d,c,g,by simpa using h⟩
 ·cases h
def kv3 {Z:Prop} {R:Type} {r:R} (q:dec ops k n F'=some o) {I:AV T.U->Option R} (c:zy6 P o ⟨F,H⟩ I=some r) (h:Sim T w0 S0 ⟨F,H⟩ F' w S φ)
  (K: ∀a v,I a=some r->QR P F' o S φ (qy3 o F) w v->VR T w S φ a v->okA H a->Z):Z:=by
 unfold zy6 at c;split at c
 ·unfold yn1 at c;simp only at c;split at c
  ·rename_i b;split at c
   ·rename_i f g z;exact kf3 q b f g z c h K
   ·cases c
  ·rename_i b;split at c
   ·rename_i f g z A;obtain ⟨e,d,M,N,O⟩:=qv1 f A;exact kf4 b f M N O g z c h K
   ·cases c
  ·rename_i b;split at c
   ·rename_i f g B D;exact km9 q b f g B D c h K
   ·cases c
  ·rename_i b;split at c
   ·rename_i f g;exact ga3 b f g c h K
   ·cases c
  ·rename_i t x b;split at c
   ·rename_i n0 sz p f g;have j: ∀i∈p.ids,i∈qy3 o F:=fun i s=>by unfold qy3;rw [b];simp only [g];exact s
    refine ge4 q b f (fun l=>?_) g c h j K fun V=>?_
    ·unfold zv7;split at l
     ·rename_i W u;rw [u];exact congrArg some (X1 l)
     ·cases l
    ·obtain ⟨a,X,y⟩:=zb9 V;exact kq9 q b g X h j fun v=>K _ v y
   ·cases c
  ·rename_i b;split at c
   ·rename_i a g;split at c
    ·rename_i E;obtain ⟨v,Y,J⟩:=v8 h.fr g;exact K _ v c (vu7 b E Y J) J (zc5 h g)
    ·cases c
   ·cases c
  ·rename_i b;split at c
   ·rename_i m kx x L hk;have j: ∀i∈m.ids,i∈qy3 o F:=fun i s=>by unfold qy3;rw [b];simp only [L];exact s
    refine ge5 q b L hk c h j fun a v y hq hv s=>?_;split at y
    ·rename_i G;exact K _ v y hq hv (zd4 G s)
    ·cases y
   ·cases c
  ·cases c
 ·exact gj5 q c h K
def vv3 {R:Type} {r:R} (hE:zb2 T P C.E) {c:Call} (hd:dec ops k n F'=some o) (hop:o.op=.call c) {K:AV T.U->List (Ent T.U)->Option R} {Kp:AV T.U->List (Ent T.U)->Option R} (hs:yl5 P C c ⟨F,H⟩ K Kp=some r) (h:Sim T w0 S0 ⟨F,H⟩ F' w S φ)
  (HK: ∀b H1,K b H1=some r->zp6 P ops Q (k+1) n ds w0 S0 (⟨za9 T F o.dst b,H1⟩:St T)) (HP: ∀b H1,Kp b H1=some r->yp7 Q n ds w0 S0 b (⟨F,H1⟩:St T)):WR P ops Q k n ds F' w:=by
 unfold yl5 at hs;split at hs
 ·cases hs
 ·rename_i aS has;have h5:=yc8 h.fr has;split at hs
  ·rename_i f hc;split at hs
   ·rename_i g first caps hf
    split at hs
    ·rename_i cs he hcs;split at hs
     ·rename_i hall;exact ke3 hd hop hc hf has he (hE g cs hcs).1 hall hs h HK HP
     ·cases hs
    ·cases hs
   ·cases hs
  ·rename_i hc;split at hs
   ·rename_i s x t t' hat;split at hs
    ·rename_i e htt he;have:=X1 htt;subst this
     match hl:c.args.toList,has with
     | [x0,y0],has=>
      unfold zv9 at has;split at has
      ·rename_i a1 l1 hx hl1;simp only [X0,List.cons.injEq] at has;obtain ⟨rfl,rfl⟩:=has;unfold zv9 at hl1;split at hl1
       ·rename_i a2 l2 hy hl2;simp only [X0,List.cons.injEq] at hl1;obtain ⟨rfl,rfl⟩:=hl1;exact vm8 hd hop hc hl hat hx hy hs h HK
       ·cases hl1
      ·cases has
     | [],has=>exact absurd (zq3 has) (by simp)
     | [x0],has=>exact absurd (zq3 has) (by simp)
     |x0::y0::z0::r0,has=>exact absurd (zq3 has) (by simp)
    ·cases hs
   ·cases hs
  ·rename_i hc;split at hs
   ·rename_i s t hat
    match hl:c.args.toList,has with
    | [x0],has=>
     unfold zv9 at has;split at has
     ·rename_i a1 l1 hx hl1;simp only [X0,List.cons.injEq] at has;obtain ⟨rfl,rfl⟩:=has;exact ke5 hd hop hc hl hat hx hs h HK
     ·cases has
    | [],has=>exact absurd (zq3 has) (by simp)
    |x0::y0::r0,has=>exact absurd (zq3 has) (by simp)
   ·cases hs
  ·rename_i hc;split at hs
   ·rename_i m kx x t at2 hat;split at hs
    ·rename_i H1 hdl
     match hl:c.args.toList,has with
     | [x0,y0],has=>
      unfold zv9 at has;split at has
      ·rename_i a1 l1 hx hl1;simp only [X0,List.cons.injEq] at has;obtain ⟨rfl,rfl⟩:=has;unfold zv9 at hl1;split at hl1
       ·rename_i a2 l2 hy hl2;simp only [X0,List.cons.injEq] at hl1;obtain ⟨rfl,rfl⟩:=hl1;exact vo2 hd hop hc hl hat hx hy hdl h (HK _ _ hs)
       ·cases hl1
      ·cases has
     | [],has=>exact absurd (zq3 has) (by simp)
     | [x0],has=>exact absurd (zq3 has) (by simp)
     |x0::y0::z0::r0,has=>exact absurd (zq3 has) (by simp)
    ·cases hs
   ·cases hs
  ·cases hs
def zg5 {R:Type} {r:R} (hE:zb2 T P C.E) (j:dec ops k n F'=some o) {K:St T->Option R} {Kp:AV T.U->St T->Option R} (c:stepA P C o ⟨F,H⟩ K Kp=some r) (h:Sim T w0 S0 ⟨F,H⟩ F' w S φ)
  (p: ∀st,K st=some r->zp6 P ops Q (k+1) n ds w0 S0 st) (HP: ∀a st,Kp a st=some r->yp7 Q n ds w0 S0 a st):WR P ops Q k n ds F' w:=by
 have m:zy6 P o ⟨F,H⟩ (fun a=>K ⟨za9 T F o.dst a,H⟩)=some r->WR P ops Q k n ds F' w:=fun c=>
  kv3 j c h fun a v hK hq B O=>jq1 j (hq w (Chg.refl _ _) fun _ _ _ _ _=>rfl) h B O (p _ hK)
 unfold stepA at c;simp only at c;split at c
 ·rename_i f;split at c
  ·rename_i cs hz;split at c
   ·rename_i cs' D;exact vm6 j f hz D h (p _ c)
   ·cases c
  ·cases c
 ·rename_i f;split at c
  ·rename_i a V;split at c
   ·rename_i cs q;obtain ⟨g1,g2⟩:=ke0 q;exact wa9 j f V (fun _ _ _ _ B=>g2 B) g1 h (p _ c)
   ·cases c
  ·cases c
 ·rename_i f;split at c
  ·rename_i kd kt et G _;exact kg6 j f G h (p _ c)
  ·rename_i kd kt et ty G _;exact vq9 j f G h (p _ c)
  ·cases c
 ·rename_i f;split at c
  ·rename_i g W z B;split at c
   ·rename_i H1 Y I;exact jt6 j (.inl f) g W z B I h (p _ c)
   ·cases c
  ·cases c
 ·rename_i f;split at c
  ·rename_i g W z B;split at c
   ·rename_i H1 Y I;exact jt6 j (.inr f) g W z B I h (p _ c)
   ·cases c
  ·cases c
 ·rename_i f;split at c
  ·rename_i g z Z;split at c
   ·rename_i H1 D;exact kn1 j f g z Z D h (p _ c)
   ·cases c
  ·cases c
 ·rename_i f;split at c
  ·rename_i z Z he;exact ge6 j f z Z c h fun a H1 V=>p _ V
  ·cases c
 ·rename_i f;split at c
  ·rename_i l ty D he;split at c
   ·rename_i e xs q;exact vn4 j f D q h (p _ c)
   ·cases c
  ·rename_i l D he;split at c
   ·rename_i e sz cs q;exact qu1 j f D q h (p _ c)
   ·cases c
  ·cases c
 ·rename_i f;split at c
  ·exact m c
  ·exact vv3 hE j f c h (fun b H1 q=>p _ q) fun b H1 q=>HP _ _ q
 ·rename_i s d x f;split at c
  ·rename_i e b N J h3;split at c
   ·rename_i h4;exact qu5 j f h3 N J h4 h (p _ c)
   ·cases c
  ·rename_i e i N J h3;split at c
   ·rename_i y xs q _ h4 A;have:=X1 q;subst this
    replace A:(match H[i]? with|some (.row _ ty' xs)=>if h:ty'=.int .u8 then some (h▸xs:List (den T.U (.int .u8))) else none|_=>none)=some (y::xs):=A
    split at A<;>try (cases A;done)
    rename_i et ty' zs I;split at A<;>try (cases A;done)
    rename_i ht;subst ht;have A:zs=y::xs:=X5 A;subst A;exact vn8 j f h3 J h4 I (by simp) h (p _ c)
   ·cases c
  ·exact m c
 ·rename_i x f;split at c
  ·rename_i t a z;obtain ⟨X,N,u,rfl,J⟩:=v8 h.fr z;have L:(execOp (evD F') o).run P w=.halt (.panic (.iface t u)) w:=by
    simp [execOp,f,k8 N,Instr.panic,goPanic]
   exact .throw j L fun act M=>HP _ _ c F' w S φ (.iface t u) h ⟨u,rfl,J⟩ (zc5 h z) act M
  ·cases c
 ·exact m c
end
end Go.X
namespace Go.X
open Go.RowKit Go.V
def zu2 (i:Nat):List Nat->Bool| []=>false|j::r=>match Nat.beq j i with|true=>true|false=>zu2 i r
def ve7 (l:List Nat):List Nat->List Nat| []=>l|i::r=>match zu2 i l with|true=>ve7 l r|false=>ve7 (l++ [i]) r
def qv9 (i:Nat):List Nat->Nat| []=>0|j::r=>match Nat.beq j i with|true=>0|false=>qv9 i r+1
def zd5:List Nat->Bool| []=>true|i::r=> !zu2 i r&&zd5 r
def zb7 {i}: ∀ {l},zu2 i l=true↔i∈l
 | []=>by simp [zu2]
 |j::r=>by
  unfold zu2;split
  ·rename_i h;have:=X1 h;subst this;simp
  ·rename_i h;have a:j≠i:=fun e=>by subst e;simp at h
   rw [zb7];simp [Ne.symm a]
def yc0 {i}: ∀ {l},i∈l->qv9 i l<l.length/\l[qv9 i l]?=some i
 | [],h=>by cases h
 |j::r,h=>by
  unfold qv9;split
  ·rename_i a;have:=X1 a;subst this;simp
  ·rename_i a;have b:j≠i:=fun e=>by subst e;simp at a
   have c:i∈r:=by
    rcases Z0.1 h with rfl|h
    ·exact absurd rfl b
    ·exact h
   obtain ⟨d,f⟩:=yc0 c;exact ⟨by simpa using d,by rw [List.getElem?_cons_succ];exact f⟩
def yf8: ∀ {l},zd5 l=true-> ∀ {a b x:Nat},l[a]?=some x->l[b]?=some x->a=b
 | [],_,a,b,x,c,_=>by simp at c
 |i::r,h,a,b,x,c,d=>by
  unfold zd5 at h;simp only [X3,V4] at h;have e:i∉r:=fun f=>by have:=zb7.2 f;rw [h.1] at this;cases this
  cases a with
  |zero=>
   cases b with
   |zero=>rfl
   |succ b=>
    simp at c d;subst c;exact absurd (X6 d) e
  |succ a=>
   cases b with
   |zero=>
    simp at c d;subst d;exact absurd (X6 c) e
   |succ b=>
    simp at c d;rw [yf8 h.2 c d]
section
variable (T:Tab)
def zv4 (H:List (Ent T.U)):List Nat->List (Ent T.U)
 | []=>H
 |i::r=>zv4 (H.set i .gone) r
def wp6 {U:Nat->Type}:Cell U->Option ((t:Ty)×List (den U t))|⟨.list t,ys⟩=>some ⟨t,ys⟩|_=>none
def kr6 {U:Nat->Type} (e:TypeId) (c:Cell U):Option ((t:Ty)×List (den U t)):=match Nat.beq e 0 with|true=>none|false=>wp6 c
def zd6:List TypeId->List (Cell T.U)->Nat->List (AV T.U)×List (Ent T.U)
 |_,[],_=>([],[])
 |fe,c::r,n=>match kr6 (fe.headD 0) c with
  |some ⟨t,ys⟩=>(.own n::(zd6 fe.tail r (n+1)).1,.row (fe.headD 0) t ys::(zd6 fe.tail r (n+1)).2)
  |none=>(.cell c::(zd6 fe.tail r n).1,(zd6 fe.tail r n).2)
def elD (d:Nat) (xs:List (T.U d)) (a:Nat):List (Cell T.U):=T.cells d (xs.getD a (T.d d))
def yi6 (H:List (Ent T.U)) (k:Nat) (e:TypeId) (d:Nat) (fe:List TypeId) (xs:List (T.U d)) (a:Nat):List (Ent T.U):=
 H.set k (.drow e d fe xs (some (a,(zd6 T fe (elD T d xs a) H.length).1)))++(zd6 T fe (elD T d xs a) H.length).2
def va9 (H:List (Ent T.U)) (t:Ty) (e:TypeId) (a:AV T.U):Option (Cell T.U×List Nat):=
 match a with
 | .own j=>match H[j]?,t with
  |some (.row f d ys),.list b=>(match Nat.beq f e&& !(Nat.beq e 0) with|true=>if d=b then some (⟨.list d,ys⟩,[j]) else none|false=>none)
  |_,_=>none
 | .raw (.slice none 0 0)=>match t with| .list b=>some (⟨.list b,[]⟩,[])|_=>none
 | .cell c=>match c.t.scal||Nat.beq e 0 with|true=>some (c,[])|false=>none
 |_=>none
def zx4 (H:List (Ent T.U)):List Ty->List TypeId->List (AV T.U)->Option (List (Cell T.U)×List Nat)
 | [],_,[]=>some ([],[])
 |t::ts,fe,a::aS=>match va9 T H t (fe.headD 0) a,zx4 H ts fe.tail aS with|some (c,l),some (cs,ls)=>some (c::cs,l++ls)|_,_=>none
 |_,_,_=>none
def zp0 (H:List (Ent T.U)) (k:Nat):List (Ent T.U):=
 match H[k]? with
 |some (.drow e d fe xs (some (a,cs)))=>match zx4 T H (va3 T d) fe cs with
  |some (l,ids)=>match zd5 ids,T.pack d l with
   |true,some y=>zv4 T (H.set k (.drow e d fe (xs.set a y) none)) ids
   |_,_=>H
  |none=>H
 |_=>H
def closeL:List Nat->List (Ent T.U)->List (Ent T.U)
 | [],H=>H
 |k::r,H=>closeL r (zp0 T H k)
end
section
variable {T:Tab} {P:Program} {w w':World} {S S':List Nat} {φ φ':Nat->RA} {w0:World} {S0:Ow} {F:AF T} {H:List (Ent T.U)} {F':PF}
def zr0 {i j f} (h:(H.set i .gone)[j]?=some f) (c:f.live=true):j≠i/\H[j]?=some f:=by
 by_cases a:j=i
 ·subst a;have b:=(X2.1 h).1;rw [Q0 (by simpa using b)] at h;simp only [X0] at h;subst h;cases c
 ·rw [Z5 (Ne.symm a)] at h;exact ⟨a,h⟩
def jt0: ∀ {ids H j f},(zv4 T H ids)[j]?=some f->f.live=true->j∉ids/\H[j]?=some f
 | [],H,j,f,h,_=>⟨by simp,h⟩
 |i::r,H,j,f,h,a=>by
  obtain ⟨b,c⟩:=jt0 (ids:=r) h a;obtain ⟨d,e⟩:=zr0 c a;exact ⟨by simp [d,b],e⟩
def yz3: ∀(ids H),(zv4 T H ids).length=H.length
 | [],H=>rfl
 |i::r,H=>by rw [zv4,yz3 r];simp
def vq4 {c:Cell T.U} {p:(t:Ty)×List (den T.U t)} (h:wp6 c=some p):c=⟨.list p.1,p.2⟩:=by
 obtain ⟨t,x⟩:=c;cases t<;>first|(cases h;done)|(simp only [wp6,X0] at h;subst h;rfl)
def wo9 {e} (h:Nat.beq e 0=false):e≠0:=fun a=>by subst a;cases h
def vq3 {e:TypeId} {c:Cell T.U} {p:(t:Ty)×List (den T.U t)} (h:kr6 e c=some p):Nat.beq e 0=false/\c=⟨.list p.1,p.2⟩:=by
 unfold kr6 at h;split at h
 ·cases h
 ·rename_i a;exact ⟨a,vq4 h⟩
def vq2 {e c} (h:kr6 e c=none) (v):(DC T w S e c v->yl2 T w S c v)/\zx3 T e c v= []:=by
 unfold kr6 at h;split at h
 ·rename_i b;have:=X1 b;subst this;obtain ⟨t,x⟩:=c;refine ⟨fun a=>?_,rfl⟩;cases t<;>first|exact a.1 rfl|exact a
 ·rename_i b;obtain ⟨t,x⟩:=c;refine ⟨fun a=>?_,?_⟩
  ·cases t<;>first|(cases h;done)|exact a
  ·unfold zx3;rw [b];cases t<;>first|(cases h;done)|rfl
def vx0 (fe:List TypeId):fe.getD 0 0=fe.headD 0:=by cases fe<;>rfl
def qv5 (fe:List TypeId) (f:Nat):fe.getD (f+1) 0=fe.tail.getD f 0:=by cases fe<;>simp
def Sim.ghost (h:Sim T w0 S0 ⟨F,H⟩ F' w S φ) {H'} (d:H.length<=H'.length) (x: ∀i,i<H.length->RSame (φ' i) (φ i))
  (n: ∀(i:Nat) (e:TypeId) (t:Ty) (xs:List (den T.U t)),i<H.length->H'[i]?=some (.row e t xs)->H[i]?=some (.row e t xs))
  (q: ∀(i:Nat) (e:Ent T.U),H'[i]?=some e->e.live=true-> ∀a,At (φ' i) a-> ∃j f b,H[j]?=some f/\f.live=true/\At (φ j) b/\b.block=a.block)
  (o: ∀(i:Nat) (e:Ent T.U),H'[i]?=some e->EntR T w S φ' i e) (p: ∀(i:Nat) (e:Ent T.U),H'[i]?=some e-> ∀j∈e.cellIds,j<H'.length)
  (s: ∀(i j:Nat) (e z:Ent T.U),H'[i]?=some e->H'[j]?=some z->e.live=true->z.live=true->i≠j-> ∀a b,At (φ' i) a->At (φ' j) b->a.block≠b.block):Sim T w0 S0 ⟨F,H'⟩ F' w S φ':=by
 refine ⟨fun i a m=>?_,fun i a m=>?_,h.chg,h.own,h.ex,fun i e A B a m=>?_,fun k r C=>?_,o,p,s⟩
 ·obtain ⟨v,g,l⟩:=h.fr i a m;exact ⟨v,g,l.phiS fun j u=>x j ((h.ids i a m).1 j u)⟩
 ·obtain ⟨g,l⟩:=h.ids i a m;refine ⟨fun j u=>V1 (g j u) d,?_⟩;cases a with
  |eptr y sz k c=>intro e t xs D;exact l e t xs (n y e t xs (g y (by simp [AV.ids])) D)
  |_=>trivial
 ·obtain ⟨j,f,b,g,l,E,G⟩:=q i e A B a m;rw [<-G];exact h.lives j f g l b E
 ·obtain ⟨g,l⟩:=h.pins k r C;exact ⟨(x k l).trans g,V1 l d⟩
def jg9: ∀(fe cs n),(zd6 T fe cs n).1.length=cs.length
 |_,[],_=>by simp [zd6]
 |fe,c::r,n=>by
  unfold zd6;split<;>simp [jg9 fe.tail r]
def yj5: ∀ {cs fe vs} (n),cs.length=vs.length->(∀f c v,cs[f]?=some c->vs[f]?=some v->DC T w S (fe.getD f 0) c v)->
  ∃(rs:List RA) (p:Nat->Nat),rs.length=(zd6 T fe cs n).2.length/\(∀φ':Nat->RA,(∀r d,rs[r]?=some d->φ' (n+r)=d)->VRL T w S φ' (zd6 T fe cs n).1 vs)/\
   (∀r e,(zd6 T fe cs n).2[r]?=some e-> ∃d,rs[r]?=some d/\e.cellIds= []/\ ∀φ':Nat->RA,φ' (n+r)=d->(∀a,d.ad=some a->a.block∈S)->EntR T w S φ' (n+r) e)/\
   (∀r d,rs[r]?=some d->d.xs= []/\ ∃c v,cs[p r]?=some c/\vs[p r]?=some v/\zx3 T (fe.getD (p r) 0) c v=zc7 d.ad)/\(∀r g,p r=p g->r=g)/\ ∀i∈u0 (zd6 T fe cs n).1,n<=i/\i<n+rs.length
 | [],fe,[],n,_,_=>⟨[],id,rfl,fun _ _=>by simp [zd6,VRL],fun r e h=>by simp [zd6] at h,fun r d h=>by simp at h,fun _ _ h=>h,fun i j=>by simp [zd6,u0] at j⟩
 | [],_,_::_,_,h,_=>by simp at h
 |_::_,_,[],_,h,_=>by simp at h
 |c::r,fe,v::vs,n,O,M=>by
  have k:DC T w S (fe.headD 0) c v:=by have:=M 0 c v rfl rfl;rwa [vx0] at this
  have l: ∀f c v,r[f]?=some c->vs[f]?=some v->DC T w S (fe.tail.getD f 0) c v:=fun f c' m Q R=>by
   have:=M (f+1) c' m (by simpa using Q) (by simpa using R);rwa [qv5] at this
  have o:r.length=vs.length:=by simpa using O
  cases hc:kr6 (fe.headD 0) c with
  |none=>
   obtain ⟨rs,p,C,D,E,G,I,J⟩:=yj5 (fe:=fe.tail) n o l;refine ⟨rs,fun r=>p r+1,?_,fun φ' b=>?_,fun r e h=>?_,fun r d h=>?_,fun r g h=>I r g (Nat.succ.inj h),fun i j=>?_⟩
   ·simp only [zd6,hc];exact C
   ·simp only [zd6,hc];exact ⟨(vq2 hc v).1 k,D φ' b⟩
   ·simp only [zd6,hc] at h;exact E r e h
   ·obtain ⟨s,c',m,u,x,K⟩:=G r d h;exact ⟨s,c',m,by simpa using u,by simpa using x,by rw [qv5];exact K⟩
   ·simp only [zd6,hc,u0,AV.ids,U6] at j;exact J i j
  |some q=>
   obtain ⟨t,ys⟩:=q;obtain ⟨y,z⟩:=vq3 hc;simp only at z;subst z;obtain ⟨B,ad,cap,A,rfl,V,W,X⟩:=k.2 (wo9 y);obtain ⟨rs,p,C,D,E,G,I,J⟩:=yj5 (fe:=fe.tail) (n+1) o l;refine ⟨⟨ad,List.length (α:=den T.U t) ys,cap,[]⟩::rs,fun r=>match r with|0=>0|r+1=>p r+1,?_,fun φ' b=>?_,fun r e h=>?_,fun r d h=>?_,fun r g h=>?_,fun i j=>?_⟩
   ·simp only [zd6,hc,U5,C]
   ·simp only [zd6,hc];refine ⟨?_,D φ' fun r d h=>?_⟩
    ·have:=b 0 _ rfl;rw [M3] at this;rw [VR,this]
    ·have:=b (r+1) d (by simpa using h);rwa [show n+(r+1)=n+1+r by omega] at this
   ·simp only [zd6,hc] at h;cases r with
    |zero=>
     simp only [Y4,X0] at h;subst h;refine ⟨_,rfl,rfl,fun φ' b L=>?_⟩;rw [M3] at b⊢;refine ⟨B,A,by rw [b];exact V,by rw [b],W,X,fun a N=>L a (by rw [b] at N;exact N)⟩
    |succ r=>
     simp at h;obtain ⟨d,s,u,x⟩:=E r e h;refine ⟨d,by simpa using s,u,fun φ' b L=>?_⟩;rw [show n+(r+1)=n+1+r by omega] at b⊢;exact x φ' b L
   ·cases r with
    |zero=>
     simp only [Y4,X0] at h;subst h;exact ⟨rfl,_,_,rfl,rfl,by show zx3 T (fe.getD 0 0) _ _=_;rw [vx0];unfold zx3;rw [y]⟩
    |succ r=>
     obtain ⟨s,c',m,u,x,K⟩:=G r d (by simpa using h);exact ⟨s,c',m,by simpa using u,by simpa using x,by show zx3 T (fe.getD (p r+1) 0) _ _=_;rw [qv5];exact K⟩
   ·cases r with
    |zero=>cases g with
     |zero=>rfl
     |succ g=>simp at h
    |succ r=>cases g with
     |zero=>simp at h
     |succ g=>have:=I r g (by simpa using h);omega
   ·simp only [zd6,hc,u0,AV.ids,M9,U6,Z0] at j;simp only [U5];rcases j with rfl|j
    ·omega
    ·have:=J i j;omega
def qj9 {α b:Type} {f:α->List b} {sz:Nat} (c: ∀y,(f y).length=sz) {l:List α} {a:Nat} {x:α} (d:l[a]?=some x) {q:Nat} (e:q<sz):(l.flatMap f)[a*sz+q]?=(f x)[q]?:=by
 rw [<-yh3 c d,Z3,if_pos e,Q6]
def Sim.openD (h:Sim T w0 S0 ⟨F,H⟩ F' w S φ) {k e d fe xs a} (W:H[k]?=some (.drow e d fe xs none)) (ha:a<xs.length):
  ∃φ',(∀i,i<H.length->RSame (φ' i) (φ i))/\Sim T w0 S0 ⟨F,yi6 T H k e d fe xs a⟩ F' w S φ':=by
 obtain ⟨B,D,o1,o2,o3,o4,o5⟩:=h.ents k _ W;have hkl:=(X2.1 W).1;have hxa:xs[a]?=some (xs.getD a (T.d d)):=zn5 (T.d d) ha;have hvl:D.length=xs.length*T.size d:=by rw [o1.len,o2]
 have hle:a*T.size d+T.size d<=xs.length*T.size d:=by rw [<-Nat.succ_mul];exact Q9 _ ha
 let cs:=elD T d xs a
 let vs:=(D.drop (a*T.size d)).take (T.size d)
 have Z:cs.length=T.size d:=T.len _ _;have hvsl:vs.length=T.size d:=by simp [vs];omega
 have K: ∀f c,cs[f]?=some c->f<T.size d/\(xs.flatMap (T.cells d))[a*T.size d+f]?=some c:=fun f c o=>by
  have:=(X2.1 o).1;exact ⟨by omega,by rw [qj9 (T.len d) hxa (by omega)];exact o⟩
 have N: ∀f v,vs[f]?=some v->D[a*T.size d+f]?=some v:=fun f v o=>by
  simp only [vs,Z3] at o;split at o
  ·rw [Q6] at o;exact o
  ·cases o
 have hdc: ∀f c v,cs[f]?=some c->vs[f]?=some v->DC T w S (fe.getD f 0) c v/\ ∀b∈zx3 T (fe.getD f 0) c v,b∈(φ k).xs/\ ∀a,(φ k).ad=some a->a.block≠b:=fun f c v E G=>by
  obtain ⟨h3,h4⟩:=K f c E;have:=o5.cl _ c v h4 (N f v G) (fun q=>q);rwa [show (a*T.size d+f)%T.size d=f by rw [Nat.mul_comm,Nat.mul_add_mod,R6 h3]] at this
 obtain ⟨rs,p,k1,k2,k3,k4,k5,k6⟩:=yj5 (fe:=fe) (S:=S) (w:=w) H.length (Z.trans hvsl.symm) fun f c v E G=>(hdc f c v E G).1
 let OB:=rs.flatMap fun l=>zc7 l.ad
 have hob: ∀ {b:Nat},b∈OB-> ∃(r:Nat) (l:RA),rs[r]?=some l/\b∈zc7 l.ad:=fun {b} A=>by
  obtain ⟨l,E,G⟩:=V6.1 A;obtain ⟨r,M⟩:=Y9.1 E;exact ⟨r,l,M,G⟩
 let φ':Nat->RA:=fun i=>if i<H.length then (if i=k then ⟨(φ k).ad,(φ k).n,(φ k).cap,(φ k).xs.filter fun b=> !OB.contains b⟩ else φ i) else rs.getD (i-H.length) ⟨none,0,0,[]⟩
 have pk:φ' k=⟨(φ k).ad,(φ k).n,(φ k).cap,(φ k).xs.filter fun b=> !OB.contains b⟩:=by show (if k<H.length then _ else _)=_;rw [if_pos hkl,if_pos rfl]
 have X: ∀i,i<H.length->i≠k->φ' i=φ i:=fun i hi hne=>by show (if i<H.length then _ else _)=_;rw [if_pos hi,if_neg hne]
 have Y: ∀r l,rs[r]?=some l->φ' (H.length+r)=l:=fun r l M=>by
  show (if H.length+r<H.length then _ else _)=_;rw [if_neg (by omega),N7,Y2,M];rfl
 have hs: ∀i,i<H.length->RSame (φ' i) (φ i):=fun i hi=>by
  by_cases he:i=k
  ·subst he;rw [pk];exact ⟨rfl,rfl,rfl⟩
  ·rw [X i hi he];exact .of rfl
 have C: ∀ {x},At (φ' k) x->At (φ k) x/\x.block∉OB:=fun {x} g=>by
  rw [pk] at g;have notOB: ∀ {b},b∈OB->b∈(φ k).xs/\ ∀a,(φ k).ad=some a->a.block≠b:=fun {b} A=>by
   obtain ⟨r,l,M,A⟩:=hob A;obtain ⟨_,c,v,m,u,q4⟩:=k4 r l M;exact (hdc _ c v m u).2 b (q4▸A)
  rcases g with g|g
  ·exact ⟨.inl g,fun A=>(notOB A).2 x g rfl⟩
  ·obtain ⟨E,G⟩:=W0.1 g;exact ⟨.inr E,fun A=>absurd A (by simpa using G)⟩
 have s: ∀ {r l x},rs[r]?=some l->At l x->x.block∈(φ k).xs/\x.block∈OB/\ ∃c v,cs[p r]?=some c/\vs[p r]?=some v/\x.block∈zx3 T (fe.getD (p r) 0) c v:=fun {r l x} M g=>by
  obtain ⟨V,c,v,m,u,q4⟩:=k4 r l M;have had:l.ad=some x:=by
   rcases g with g|g
   ·exact g
   ·rw [V] at g;cases g
  have A:x.block∈zc7 l.ad:=by rw [had];simp [zc7]
  exact ⟨((hdc _ c v m u).2 _ (q4▸A)).1,V6.2 ⟨l,X6 M,A⟩,c,v,m,u,q4▸A⟩
 have L: ∀(i:Nat) (f:Ent T.U),(yi6 T H k e d fe xs a)[i]?=some f->(i=k/\f=.drow e d fe xs (some (a,(zd6 T fe cs H.length).1)))\/(i<H.length/\i≠k/\H[i]?=some f)\/ ∃r l,i=H.length+r/\rs[r]?=some l/\(zd6 T fe cs H.length).2[r]?=some f:=by
  intro i f o;unfold yi6 at o;by_cases hi:i<H.length
  ·rw [X8 (by simpa using hi)] at o;by_cases he:i=k
   ·subst he;rw [Q0 hkl] at o;exact .inl ⟨rfl,(X5 o).symm⟩
   ·rw [Z5 (Ne.symm he)] at o;exact .inr (.inl ⟨hi,he,o⟩)
  ·rw [Z2 (by simp;omega)] at o;simp only [Q1] at o;obtain ⟨l,M,_⟩:=k3 _ f o;exact .inr (.inr ⟨i-H.length,l,by omega,M,o⟩)
 have hlen:(yi6 T H k e d fe xs a).length=H.length+rs.length:=by unfold yi6;simp only [X9,Q1];rw [k1]
 refine ⟨φ',hs,h.ghost (by omega) hs (fun i e1 t ys hi g=>?_) (fun i f o hl x g=>?_) (fun i f o=>?_) (fun i f o j hj=>?_) (fun i j f f' o hf' hl hl' O x y g I=>?_)⟩
 ·rcases L i _ g with ⟨_,q⟩|⟨_,_,q⟩|⟨r,_,q,_⟩
  ·cases q
  ·exact q
  ·omega
 ·rcases L i f o with ⟨rfl,rfl⟩|⟨V,m,u⟩|⟨r,l,rfl,m,u⟩
  ·exact ⟨i,_,x,W,rfl,(C g).1,rfl⟩
  ·rw [X i V m] at g;exact ⟨i,f,x,u,hl,g,rfl⟩
  ·rw [Y r l m] at g;exact ⟨k,_,⟨x.block,0,none⟩,W,rfl,.inr (s m g).1,rfl⟩
 ·rcases L i f o with ⟨rfl,rfl⟩|⟨V,m,u⟩|⟨r,l,rfl,m,u⟩
  ·refine ⟨B,D,by rw [pk];exact o1,by rw [pk];exact o2,o3,fun z hz=>o4 z (by rw [pk] at hz;exact hz),fun j c v E G h3=>?_,fun j j' c c' v v' hj E G _ h4 h5 _=>o5.ap j j' c c' v v' hj E G (fun q=>q) h4 h5 fun q=>q,fun a0 cs0 hop=>?_⟩
   ·obtain ⟨g1,g2⟩:=o5.cl j c v E G (fun q=>q);refine ⟨g1,fun b A=>?_⟩;rw [pk];refine ⟨W0.2 ⟨(g2 b A).1,?_⟩,(g2 b A).2⟩;cases hq:OB.contains b with
    |false=>rfl
    |true=>
     obtain ⟨r,l,M,hb'⟩:=hob (T7.1 hq);obtain ⟨_,c',v',m,u,q4⟩:=k4 r l M;obtain ⟨q5,q6⟩:=K _ c' m;have J:(a*T.size d+p r)%T.size d=p r:=by rw [Nat.mul_comm,Nat.mul_add_mod,R6 q5]
     refine absurd (q4▸hb') (J▸o5.ap j _ c c' v v' (fun e=>h3 ?_) E G (fun q=>q) q6 (N _ v' u) (fun q=>q) b A);subst e;exact ⟨by omega,by omega⟩
   ·simp only [X0,X7] at hop;obtain ⟨rfl,rfl⟩:=hop;refine ⟨ha,(jg9 _ _ _).trans Z,fun f x g=>?_⟩;obtain ⟨v,E,G⟩:=(k2 φ' Y).get T g;exact ⟨v,N f v E,G⟩
  ·refine (h.ents i f u).phiE (X i V m) fun j hj=>hs j (h.eids i f u j hj)
  ·obtain ⟨Q,g1,g2,g3⟩:=k3 r f u;rw [m] at g1;obtain rfl:=X5 g1;refine g3 φ' (Y r l m) fun x g=>?_;have:=(s m (.inl g)).1;exact zf5 h W rfl (a:=⟨x.block,0,none⟩) (.inr this)
 ·rw [hlen];rcases L i f o with ⟨rfl,rfl⟩|⟨V,m,u⟩|⟨r,l,rfl,m,u⟩
  ·have:=k6 j hj;omega
  ·have:=h.eids i f u j hj;simp only at this;omega
  ·obtain ⟨Q,g1,g2,g3⟩:=k3 r f u;rw [g2] at hj;cases hj
 ·rcases L i f o with ⟨rfl,rfl⟩|⟨V,m,u⟩|⟨r,l,rfl,m,u⟩<;>rcases L j f' hf' with ⟨rfl,rfl⟩|⟨u1,R,u3⟩|⟨r',Q,rfl,R,u3⟩
  ·exact absurd rfl O
  ·rw [X j u1 R] at I;exact h.apart i j _ _ W u3 rfl hl' O x y (C g).1 I
  ·rw [Y r' Q R] at I;exact fun e=>(C g).2 (e▸(s R I).2.1)
  ·rw [X i V m] at g;exact h.apart i j _ _ u W hl rfl O x y g (C I).1
  ·rw [X i V m] at g;rw [X j u1 R] at I;exact h.apart i j _ _ u u3 hl hl' O x y g I
  ·rw [X i V m] at g;rw [Y r' Q R] at I;exact h.apart i k _ _ u W hl rfl m x ⟨y.block,0,none⟩ g (.inr (s R I).1)
  ·rw [Y r l m] at g;exact fun e=>(C I).2 (e▸(s m g).2.1)
  ·rw [Y r l m] at g;rw [X j u1 R] at I;exact h.apart k j _ _ W u3 rfl hl' (Ne.symm R) ⟨x.block,0,none⟩ y (.inr (s m g).1) I
  ·rw [Y r l m] at g;rw [Y r' Q R] at I;obtain ⟨_,_,c,v,g1,g2,g3⟩:=s m g;obtain ⟨_,_,c',v',g1',g2',g3'⟩:=s R I;intro e;have J: ∀ {f:Nat},f<T.size d->(a*T.size d+f)%T.size d=f:=fun {f} o=>by rw [Nat.mul_comm,Nat.mul_add_mod,R6 o]
   have hap:=o5.ap _ _ c c' v v' (fun q=>O ?_) (K _ c g1).2 (N _ v g2) (fun q=>q) (K _ c' g1').2 (N _ v' g2') (fun q=>q)
   ·rw [J (K _ c g1).1,J (K _ c' g1').1] at hap;exact absurd (e▸g3') (hap _ g3)
   rw [k5 r r' (by omega)]
end
end Go.X
namespace Go.X
open Go.RowKit Go.V
section
variable {T:Tab} {P:Program} {w w':World} {S S':List Nat} {φ φ':Nat->RA} {w0:World} {S0:Ow} {F:AF T} {H:List (Ent T.U)} {F':PF}
def nodup_cons {i r} (h:zd5 (i::r)=true):i∉r/\zd5 r=true:=by
 unfold zd5 at h;simp only [X3,V4] at h;exact ⟨fun a=>(by have:=zb7.2 a;rw [h.1] at this;cases this),h.2⟩
def CellsR.nilC:CellsR T w S [] []:=⟨rfl,fun j c v h=>by simp at h⟩
def qh1 (h:Sim T w0 S0 ⟨F,H⟩ F' w S φ) {t e a c l} (b:va9 T H t e a=some (c,l)) {v} (g:VR T w S φ a v):
  DC T w S e c v/\((l= []/\zx3 T e c v= []/\ ∀j,a≠.own j)\/ ∃j q r ys,l= [j]/\a=.own j/\H[j]?=some (.row q r ys)/\zx3 T e c v=zc7 (φ j).ad):=by
 unfold va9 at b;split at b
 ·rename_i j;split at b<;>try (cases b;done)
  rename_i D E ys s f;split at b<;>try (cases b;done)
  rename_i k;simp only [X3,V4] at k;obtain ⟨k,d⟩:=k;have:=X1 k;subst this;split at b<;>try (cases b;done)
  rename_i u;subst u;simp only [X0,X7] at b;obtain ⟨rfl,rfl⟩:=b;rw [VR] at g;subst g;obtain ⟨B,i,o,p,y,z,G⟩:=h.ents j _ f;refine ⟨⟨fun A=>absurd A (wo9 d),fun _=>⟨B,(φ j).ad,(φ j).cap,i,by rw [p],by rw [p] at o;exact o,y,z⟩⟩,.inr ⟨j,_,_,ys,rfl,rfl,f,by unfold zx3;rw [d]⟩⟩
 ·split at b<;>try (cases b;done)
  rename_i s;simp only [X0,X7] at b;obtain ⟨rfl,rfl⟩:=b;rw [VR] at g;subst g;exact ⟨⟨fun _=>CR.nilS,fun _=>⟨0,none,0,[],rfl,Own.nil _ _ _ _,U3 _,CellsR.nilC⟩⟩,.inl ⟨rfl,by unfold zx3;cases Nat.beq e 0<;>rfl,by intro j f;cases f⟩⟩
 ·split at b<;>try (cases b;done)
  rename_i C _ m;obtain ⟨t,x⟩:=C;cases d:Nat.beq e 0 with
  |true=>
   have:=X1 d;subst this;simp only [X0,X7] at b;obtain ⟨rfl,rfl⟩:=b;refine ⟨?_,.inl ⟨rfl,rfl,by intro j f;cases f⟩⟩;cases t<;>first|exact ⟨fun _=>g,fun h=>absurd rfl h⟩|exact g
  |false=>
   rw [d,Bool.or_false] at m;have n:zx3 T e (⟨t,x⟩:Cell T.U) v= []:=by unfold zx3;rw [d];cases t<;>first|(cases m;done)|rfl
   simp only [X0,X7] at b;obtain ⟨rfl,rfl⟩:=b;refine ⟨?_,.inl ⟨rfl,n,by intro j f;cases f⟩⟩;cases t<;>first|(cases m;done)|exact g
 ·cases b
def ys0 (h:Sim T w0 S0 ⟨F,H⟩ F' w S φ): ∀ {ts:List Ty} {fe:List TypeId} {aS:List (AV T.U)} {cs:List (Cell T.U)} {ids:List Nat} {vs:List Value},zx4 T H ts fe aS=some (cs,ids)->VRL T w S φ aS vs->
  cs.length=aS.length/\(∀(f:Nat) (c:Cell T.U) (v:Value),cs[f]?=some c->vs[f]?=some v->DC T w S (fe.getD f 0) c v)/\(∀(f:Nat) (c:Cell T.U) (v:Value) (b:Nat),cs[f]?=some c->vs[f]?=some v->b∈zx3 T (fe.getD f 0) c v-> ∃(j:Nat) (ad:Addr),aS[f]?=some (AV.own j:AV T.U)/\j∈ids/\(φ j).ad=some ad/\ad.block=b)/\
   (∀j∈ids,∃e t ys,H[j]?=some (.row e t ys))/\(∀(f j:Nat),aS[f]?=some (AV.own j:AV T.U)->j∈ids)/\(zd5 ids=true-> ∀(f f' j:Nat),aS[f]?=some (AV.own j:AV T.U)->aS[f']?=some (AV.own j:AV T.U)->f=f')
 | [],fe,[],cs,ids,vs,hc,_=>by
  simp only [zx4,X0,X7] at hc;obtain ⟨rfl,rfl⟩:=hc;exact ⟨rfl,fun f c v h=>by simp at h,fun f c v b h=>by simp at h,by simp,fun f j h=>by simp at h,fun _ f f' j h=>by simp at h⟩
 | [],_,_::_,_,_,_,hc,_=>by simp [zx4] at hc
 |_::_,_,[],_,_,_,hc,_=>by simp [zx4] at hc
 |_::_,_,_::_,_,_,[],_,hv=>hv.elim
 |t::ts,fe,a::aS,cs,ids,v::vs,hc,hv=>by
  unfold zx4 at hc;split at hc<;>try (cases hc;done)
  rename_i c l cs1 ls h1 h2;simp only [X0,X7] at hc;obtain ⟨rfl,rfl⟩:=hc;obtain ⟨g1,g2⟩:=qh1 h h1 hv.1;obtain ⟨k1,k2,k3,k4,k5,k6⟩:=ys0 h h2 hv.2;refine ⟨by simp [k1],fun f c' v' q1 q2=>?_,fun f c' v' b q1 q2 q3=>?_,fun j hj=>?_,fun f j hf=>?_,fun hn f f' j q1 q2=>?_⟩
  ·cases f with
   |zero=>
    simp only [Y4,X0] at q1 q2;subst q1;subst q2;rw [vx0];exact g1
   |succ f=>rw [qv5];exact k2 f c' v' (by simpa using q1) (by simpa using q2)
  ·cases f with
   |zero=>
    simp only [Y4,X0] at q1 q2;subst q1;subst q2;rw [vx0] at q3;rcases g2 with ⟨_,u2,_⟩|⟨j,_,_,_,rfl,rfl,_,u4⟩
    ·rw [u2] at q3;cases q3
    ·rw [u4] at q3;unfold zc7 at q3;split at q3
     ·rename_i ad had;simp only [Q5] at q3;exact ⟨j,ad,rfl,by simp,had,q3.symm⟩
     ·cases q3
   |succ f=>
    rw [qv5] at q3;obtain ⟨j,ad,u1,u2,u3,u4⟩:=k3 f c' v' b (by simpa using q1) (by simpa using q2) q3;exact ⟨j,ad,by simpa using u1,X4.2 (.inr u2),u3,u4⟩
  ·rcases X4.1 hj with hj|hj
   ·rcases g2 with ⟨rfl,_⟩|⟨j',_,_,_,rfl,_,u3,_⟩
    ·cases hj
    ·simp only [Q5] at hj;subst hj;exact ⟨_,_,_,u3⟩
   ·exact k4 j hj
  ·cases f with
   |zero=>
    simp only [Y4,X0] at hf;rcases g2 with ⟨_,_,u⟩|⟨j',_,_,_,rfl,rfl,_,_⟩
    ·exact absurd hf (u j)
    ·cases hf;simp
   |succ f=>exact X4.2 (.inr (k5 f j (by simpa using hf)))
  ·have hls:zd5 ls=true/\ ∀j,a=.own j->j∉ls:=by
    rcases g2 with ⟨rfl,_,u⟩|⟨j',_,_,_,rfl,rfl,_,_⟩
    ·exact ⟨hn,fun j hj=>absurd hj (u j)⟩
    ·obtain ⟨n1,n2⟩:=nodup_cons hn;exact ⟨n2,fun j hj=>by cases hj;exact n1⟩
   cases f with
   |zero=>
    simp only [Y4,X0] at q1;cases f' with
    |zero=>rfl
    |succ f'=>exact absurd (k5 f' j (by simpa using q2)) (hls.2 j q1)
   |succ f=>
    cases f' with
    |zero=>
     simp only [Y4,X0] at q2;exact absurd (k5 f j (by simpa using q1)) (hls.2 j q2)
    |succ f'=>rw [k6 hls.1 f f' j (by simpa using q1) (by simpa using q2)]
def yk5 {α}: ∀(l cs:List α) (o j:Nat),o+l.length<=cs.length->(zj2 cs o l)[j]?=if o<=j/\j<o+l.length then l[j-o]? else cs[j]?
 | [],cs,o,j,_=>by rw [zj2,if_neg (by simp only [N5];omega)]
 |a::r,cs,o,j,h=>by
  simp only [U5] at h;have d:o+1+r.length<=(cs.set o a).length:=by rw [Q1];omega
  rw [zj2,yk5 r _ _ _ d];simp only [U5];by_cases b:o+1<=j/\j<o+1+r.length
  ·rw [if_pos b,if_pos (by omega),show j-o=(j-(o+1))+1 by omega,List.getElem?_cons_succ]
  ·rw [if_neg b];by_cases c:j=o
   ·subst c;rw [if_pos (by omega),Q0 (by omega),Nat.sub_self,Y4]
   ·rw [if_neg (by omega),Z5 (Ne.symm c)]
def vu6 {α e:Type} {f:α->List e} {sz:Nat} (b: ∀y,(f y).length=sz) {l:List α} {a:Nat} {y:α} (d:a<l.length) (j:Nat):((l.set a y).flatMap f)[j]?=if a*sz<=j/\j<a*sz+sz then (f y)[j-a*sz]? else (l.flatMap f)[j]?:=by
 have g:l[a]?=some l[a]:=Y0 d;have h:a*sz+sz<=l.length*sz:=by rw [<-Nat.succ_mul];exact Q9 _ d
 rw [yj2 b g (y:=y) (l:=f y) (c:=0) (by rw [yw6 _ _ (by rw [b,b];exact W6 _),b,M4 (by rw [b];exact W6 _),J7]) (by rw [b];omega),yk5 _ _ _ _ (by rw [b,za7 b];omega),b,M3]
def Sim.closeD (h:Sim T w0 S0 ⟨F,H⟩ F' w S φ) {k:Nat} {e:TypeId} {d:Nat} {fe:List TypeId} {xs:List (T.U d)} {a:Nat} {aS:List (AV T.U)} {l:List (Cell T.U)} {ids:List Nat} {y:T.U d} (hk:H[k]?=some (.drow e d fe xs (some (a,aS)))) (hc:zx4 T H (va3 T d) fe aS=some (l,ids)) (hn:zd5 ids=true) (hp:T.pack d l=some y):
  ∃φ',(∀i,RSame (φ' i) (φ i))/\Sim T w0 S0 ⟨F,zv4 T (H.set k (.drow e d fe (xs.set a y) none)) ids⟩ F' w S φ':=by
 obtain ⟨B,vals,o1,o2,o3,o4,o5⟩:=h.ents k _ hk;have hkl:=(X2.1 hk).1;obtain ⟨ha,hal,hop⟩:=o5.opn _ _ rfl;have hvl:vals.length=xs.length*T.size d:=by rw [o1.len,o2]
 have hle:a*T.size d+T.size d<=xs.length*T.size d:=by rw [<-Nat.succ_mul];exact Q9 _ ha
 let vs:=(vals.drop (a*T.size d)).take (T.size d)
 have hvsl:vs.length=T.size d:=by simp [vs];omega
 have hvs: ∀f,f<T.size d->vs[f]?=vals[a*T.size d+f]?:=fun f hf=>by simp only [vs,Z3,if_pos hf,Q6]
 have hvrl:VRL T w S φ aS vs:=by
  have key: ∀(aS:List (AV T.U)) (vs:List Value),aS.length=vs.length->(∀(f:Nat) (x:AV T.U),aS[f]?=some x-> ∃v,vs[f]?=some v/\VR T w S φ x v)->VRL T w S φ aS vs:=by
   intro aS;induction aS with
   |nil=>intro vs hl _;cases vs with
    |nil=>trivial
    |cons _ _=>simp at hl
   |cons x r ih=>
    intro vs hl hx;cases vs with
    |nil=>simp at hl
    |cons v s=>
     obtain ⟨v',h1,h2⟩:=hx 0 x rfl;simp only [Y4,X0] at h1;subst h1;exact ⟨h2,ih s (by simpa using hl) fun f z hz=>by simpa using hx (f+1) z (by simpa using hz)⟩
  refine key aS vs (hal.trans hvsl.symm) fun f x hx=>?_;have hf:f<T.size d:=by have:=(X2.1 hx).1;omega
  rw [hvs f hf];exact hop f x hx
 obtain ⟨k1,k2,k3,k4,k5,k6⟩:=ys0 h hc hvrl;have hy:T.cells d y=l:=T.packed _ _ _ hp;have hki:k∉ids:=fun hm=>by obtain ⟨_,_,_,q⟩:=k4 k hm;rw [hk] at q;cases q
 let φ':Nat->RA:=fun i=>if i=k then ⟨(φ k).ad,(φ k).n,(φ k).cap,(φ k).xs++ids.flatMap fun j=>(φ j).all⟩ else φ i
 have pk:φ' k=⟨(φ k).ad,(φ k).n,(φ k).cap,(φ k).xs++ids.flatMap fun j=>(φ j).all⟩:=if_pos rfl;have po: ∀i,i≠k->φ' i=φ i:=fun i hi=>if_neg hi;have hs: ∀i,RSame (φ' i) (φ i):=fun i=>by
  by_cases he:i=k
  ·subst he;rw [pk];exact ⟨rfl,rfl,rfl⟩
  ·rw [po i he];exact .of rfl
 have hatk: ∀ {x},At (φ' k) x->At (φ k) x\/ ∃j∈ids,∃z,At (φ j) z/\z.block=x.block:=fun {x} hx=>by
  rw [pk] at hx;rcases hx with hx|hx
  ·exact .inl (.inl hx)
  ·rcases X4.1 hx with hx|hx
   ·exact .inl (.inr hx)
   ·obtain ⟨j,hj,hx⟩:=V6.1 hx;exact .inr ⟨j,hj,zr4.1 hx⟩
 have get: ∀(i:Nat) (f:Ent T.U),(zv4 T (H.set k (.drow e d fe (xs.set a y) none)) ids)[i]?=some f->f.live=true->(i=k/\f=.drow e d fe (xs.set a y) none)\/(i∉ids/\i≠k/\H[i]?=some f):=by
  intro i f hf hl;obtain ⟨g1,g2⟩:=jt0 hf hl;by_cases he:i=k
  ·subst he;rw [Q0 hkl] at g2;exact .inl ⟨rfl,(X5 g2).symm⟩
  ·rw [Z5 (Ne.symm he)] at g2;exact .inr ⟨g1,he,g2⟩
 have hlen:(zv4 T (H.set k (.drow e d fe (xs.set a y) none)) ids).length=H.length:=by rw [yz3];simp
 have hcl: ∀ {f:Ent T.U},f=.gone\/f.live=true:=fun {f}=>by cases f<;>first|exact .inl rfl|exact .inr rfl
 have cells: ∀j c v,((xs.set a y).flatMap (T.cells d))[j]?=some c->vals[j]?=some v->(∃f,j=a*T.size d+f/\f<T.size d/\l[f]?=some c/\vs[f]?=some v)\/((xs.flatMap (T.cells d))[j]?=some c/\ ¬jz1 T (T.size d) (some (a,aS)) j):=by
  intro j c v h1 h2;rw [vu6 (T.len d) ha] at h1;split at h1
  ·rename_i hj;rw [hy] at h1;refine .inl ⟨j-a*T.size d,by omega,by omega,h1,?_⟩;rw [hvs _ (by omega),show a*T.size d+(j-a*T.size d)=j by omega];exact h2
  ·rename_i hj;exact .inr ⟨h1,hj⟩
 refine ⟨φ',hs,h.ghost (by omega) (fun i _=>hs i) (fun i e1 t ys _ hx=>?_) (fun i f hf hl x hx=>?_) (fun i f hf=>?_) (fun i f hf j hj=>?_) (fun i j f f' hf hf' hl hl' hij x z hx hz=>?_)⟩
 ·rcases get i _ hx rfl with ⟨_,q⟩|⟨_,_,q⟩
  ·cases q
  ·exact q
 ·rcases get i f hf hl with ⟨rfl,rfl⟩|⟨_,q2,q3⟩
  ·rcases hatk hx with hx|⟨j,hj,z,hz,he⟩
   ·exact ⟨i,_,x,hk,rfl,hx,rfl⟩
   ·obtain ⟨_,_,_,q⟩:=k4 j hj;exact ⟨j,_,z,q,rfl,hz,he⟩
  ·rw [po i q2] at hx;exact ⟨i,f,x,q3,hl,hx,rfl⟩
 ·rcases hcl (f:=f) with rfl|hl
  ·trivial
  rcases get i f hf hl with ⟨rfl,rfl⟩|⟨_,q2,q3⟩
  ·refine ⟨B,vals,by rw [pk];exact o1,by rw [pk,Q1];exact o2,o3,fun z hz=>o4 z (by rw [pk] at hz;exact hz),fun j c v h1 h2 _=>?_,fun j j' c c' v v' hj h1 h2 _ h4 h5 _ b hb hb'=>?_,fun a0 cs0 hq=>by cases hq⟩
   ·rcases cells j c v h1 h2 with ⟨f,rfl,hf,u1,u2⟩|⟨u1,u2⟩
    ·rw [show (a*T.size d+f)%T.size d=f by rw [Nat.mul_comm,Nat.mul_add_mod,R6 hf]];refine ⟨k2 f c v u1 u2,fun b hb=>?_⟩;obtain ⟨j,ad,g1,g2,g3,rfl⟩:=k3 f c v b u1 u2 hb;obtain ⟨_,_,_,q⟩:=k4 j g2;rw [pk];refine ⟨X4.2 (.inr (V6.2 ⟨j,g2,zr4.2 ⟨ad,.inl g3,rfl⟩⟩)),fun z hz=>?_⟩;exact h.apart i j _ _ hk q rfl rfl (fun e=>hki (e▸g2)) z ad (.inl hz) (.inl g3)
    ·obtain ⟨g1,g2⟩:=o5.cl j c v u1 h2 u2;refine ⟨g1,fun b hb=>?_⟩;rw [pk];exact ⟨X4.2 (.inl (g2 b hb).1),(g2 b hb).2⟩
   ·have hmod: ∀ {f:Nat},f<T.size d->(a*T.size d+f)%T.size d=f:=fun {f} hf=>by rw [Nat.mul_comm,Nat.mul_add_mod,R6 hf]
    have mixed: ∀ {f:Nat} {c:Cell T.U} {v:Value} {j':Nat} {c':Cell T.U} {v':Value},l[f]?=some c->vs[f]?=some v->(xs.flatMap (T.cells d))[j']?=some c'->vals[j']?=some v'-> ¬jz1 T (T.size d) (some (a,aS)) j'->b∈zx3 T (fe.getD f 0) c v->b∈zx3 T (fe.getD (j'%T.size d) 0) c' v'->False:=by
     intro f c v j' c' v' u1 u2 u3 u4 u5 u6 u7;obtain ⟨j,ad,g1,g2,g3,rfl⟩:=k3 f c v b u1 u2 u6;obtain ⟨_,_,_,q⟩:=k4 j g2;have:=((o5.cl j' c' v' u3 u4 u5).2 _ u7).1;exact h.apart i j _ _ hk q rfl rfl (fun e=>hki (e▸g2)) ⟨ad.block,0,none⟩ ad (.inr this) (.inl g3) rfl
    rcases cells j c v h1 h2 with ⟨f,rfl,hf,u1,u2⟩|⟨u1,u2⟩<;>rcases cells j' c' v' h4 h5 with ⟨f',rfl,hf',u1',u2'⟩|⟨u1',u2'⟩
    ·rw [hmod hf] at hb;rw [hmod hf'] at hb';obtain ⟨j,ad,g1,g2,g3,rfl⟩:=k3 f c v b u1 u2 hb;obtain ⟨j',ad',g1',g2',g3',g4'⟩:=k3 f' c' v' _ u1' u2' hb';obtain ⟨_,_,_,q⟩:=k4 j g2;obtain ⟨_,_,_,q'⟩:=k4 j' g2';by_cases hjj:j=j'
     ·subst hjj;exact hj (by rw [k6 hn f f' j g1 g1'])
     ·exact h.apart j j' _ _ q q' rfl rfl hjj ad ad' (.inl g3) (.inl g3') g4'.symm
    ·rw [hmod hf] at hb;exact mixed u1 u2 u1' h5 u2' hb hb'
    ·rw [hmod hf'] at hb';exact mixed u1' u2' u1 h2 u2 hb' hb
    ·exact o5.ap j j' c c' v v' hj u1 h2 u2 u1' h5 u2' b hb hb'
  ·exact (h.ents i f q3).phiE (po i q2) fun j _=>hs j
 ·rw [hlen];rcases hcl (f:=f) with rfl|hl
  ·cases hj
  rcases get i f hf hl with ⟨rfl,rfl⟩|⟨_,q2,q3⟩
  ·cases hj
  ·exact h.eids i f q3 j hj
 ·have mixed: ∀ {i f x z},i∉ids->i≠k->H[i]?=some f->f.live=true->At (φ' k) x->At (φ' i) z->x.block≠z.block:=by
   intro i f x z u1 u2 u3 u4 u5 u6;rw [po i u2] at u6;rcases hatk u5 with hx|⟨j,hj,z',hz',he⟩
   ·exact h.apart k i _ _ hk u3 rfl u4 (Ne.symm u2) x z hx u6
   ·obtain ⟨_,_,_,q⟩:=k4 j hj;rw [<-he];exact h.apart j i _ _ q u3 rfl u4 (fun e=>u1 (e▸hj)) z' z hz' u6
  rcases get i f hf hl with ⟨rfl,rfl⟩|⟨q1,q2,q3⟩<;>rcases get j f' hf' hl' with ⟨rfl,rfl⟩|⟨u1,u2,u3⟩
  ·exact absurd rfl hij
  ·exact mixed u1 u2 u3 hl' hx hz
  ·exact (mixed q1 q2 q3 hl hz hx).symm
  ·rw [po i q2] at hx;rw [po j u2] at hz;exact h.apart i j _ _ q3 u3 hl hl' hij x z hx hz
def ja8 {k:Nat} (h:Sim T w0 S0 ⟨F,H⟩ F' w S φ): ∃φ',Sim T w0 S0 ⟨F,zp0 T H k⟩ F' w S φ'/\(∀i,RSame (φ' i) (φ i))/\(zp0 T H k).length=H.length:=by
 unfold zp0;split
 ·rename_i hk;split
  ·rename_i hc;split
   ·rename_i hn hp;obtain ⟨φ',h1,h2⟩:=h.closeD hk hc hn hp;exact ⟨φ',h2,h1,by rw [yz3];simp⟩
   ·exact ⟨φ,h,fun _=>.of rfl,rfl⟩
  ·exact ⟨φ,h,fun _=>.of rfl,rfl⟩
 ·exact ⟨φ,h,fun _=>.of rfl,rfl⟩
def ya1 {k} (h:zc1 T w0 S0 ⟨F,H⟩ F' w):zc1 T w0 S0 ⟨F,zp0 T H k⟩ F' w:=by
 obtain ⟨S,φ,h⟩:=h;obtain ⟨φ',a,_⟩:=ja8 (k:=k) h;exact ⟨S,φ',a⟩
def zu9: ∀(l) {H},zc1 T w0 S0 ⟨F,H⟩ F' w->zc1 T w0 S0 ⟨F,closeL T l H⟩ F' w
 | [],H,h=>h
 |k::r,H,h=>zu9 r (ya1 h)
def VRL.phiS {aS:List (AV T.U)} {vs:List Value} (h:VRL T w S φ aS vs) (hi: ∀i∈u0 aS,RSame (φ' i) (φ i)):VRL T w S φ' aS vs:=by
 have:=VRL.renS T (ρ:=id) (φ':=φ') hi h;rwa [zr6] at this
def Sim.closeL: ∀(l) {H φ},Sim T w0 S0 ⟨F,H⟩ F' w S φ-> ∃φ',Sim T w0 S0 ⟨F,closeL T l H⟩ F' w S φ'/\(∀i,RSame (φ' i) (φ i))/\(Go.X.closeL T l H).length=H.length
 | [],H,φ,h=>⟨φ,h,fun _=>.of rfl,rfl⟩
 |k::r,H,φ,h=>by
  obtain ⟨b,c,d,e⟩:=ja8 (k:=k) h;obtain ⟨a,f,g,j⟩:=Sim.closeL r c;exact ⟨a,f,fun i=>(g i).trans (d i),j.trans e⟩
def DC.frz {e c v} (h:DC T w S e c v) (j: ∀b∈S',b∈S) (k: ∀b∈zx3 T e c v,b∈S/\b∉S'):yl2 T w S' c v:=by
 obtain ⟨t,x⟩:=c;cases t with
 |list t=>
  cases hez:Nat.beq e 0 with
  |true=>exact CR.sub0 (h.1 (X1 hez)) j
  |false=>
  obtain ⟨B,ad,cap,d,rfl,l,m,n⟩:=h.2 (wo9 hez);have f: ∀a,ad=some a->a.block∈S/\a.block∉S':=fun a g=>k _ (by subst g;simp [zx3,hez,zc7]);have:=jp8 (T:=T) (w:=w) (S:=S) (S':=S') (φ:=fun _=>⟨ad,List.length (α:=den T.U t) x,cap,[]⟩) (i:=0) (e:=e) (t:=t) (xs:=x) ⟨B,d,l,rfl,m,n,fun a g=>(f a g).1⟩ j fun a g=>(f a g).2;exact this
 |_=>exact CR.sub0 h j
def Sim.seal1 (h:Sim T w0 S0 ⟨F,H⟩ F' w S φ) (hF: ∀i a,F.get T i=some a->zh9 a=true) {k e d fe xs} (C:H[k]?=some (.drow e d fe xs none)):
  ∃S' φ',Sim T w0 S0 ⟨F,H.set k (.row e (.user d) xs)⟩ F' w S' φ':=by
 obtain ⟨B,L,o1,o2,o3,o4,o5⟩:=h.ents k _ C;have W:=(X2.1 C).1
 let S':=S.filter fun b=> !(φ k).xs.contains b||(zc7 (φ k).ad).contains b
 let φ':Nat->RA:=fun i=>if i=k then ⟨(φ k).ad,(φ k).n,(φ k).cap,[]⟩ else φ i
 have M:φ' k=⟨(φ k).ad,(φ k).n,(φ k).cap,[]⟩:=if_pos rfl;have E: ∀i,i≠k->φ' i=φ i:=fun i X=>if_neg X;have Y: ∀i,RSame (φ' i) (φ i):=fun i=>by
  by_cases J:i=k
  ·subst J;rw [M];exact ⟨rfl,rfl,rfl⟩
  ·rw [E i J];exact .of rfl
 have o: ∀b∈S',b∈S:=fun b l=>(W0.1 l).1;have z: ∀ {b},b∈S->(b∉(φ k).xs\/ ∃a,(φ k).ad=some a/\a.block=b)->b∈S':=fun {b} l Z=>by
  refine W0.2 ⟨l,?_⟩;rcases Z with G|⟨a,G,N⟩
  ·have:(φ k).xs.contains b=false:=by
    cases V:(φ k).xs.contains b with
    |false=>rfl
    |true=>exact absurd (T7.1 V) G
   rw [this];rfl
  ·have:(zc7 (φ k).ad).contains b=true:=T7.2 (by rw [G,<-N];simp [zc7]);rw [this,Bool.or_true]
 have I: ∀ {b},b∈S'->b∈(φ k).xs-> ∃a,(φ k).ad=some a/\a.block=b:=fun {b} l O=>by
  have:=(W0.1 l).2;rw [T7.2 O,M8,Bool.false_or] at this;have:=T7.1 this;unfold zc7 at this;split at this
  ·rename_i a g;exact ⟨a,g,(Q5.1 this).symm⟩
  ·cases this
 have t: ∀(i:Nat) (f:Ent T.U),(H.set k (.row e (.user d) xs))[i]?=some f->(i=k/\f=.row e (.user d) xs)\/(i≠k/\H[i]?=some f):=by
  intro i f m;by_cases J:i=k
  ·subst J;rw [Q0 W] at m;exact .inl ⟨rfl,(X5 m).symm⟩
  ·rw [Z5 (Ne.symm J)] at m;exact .inr ⟨J,m⟩
 have D: ∀ {i f a},i≠k->H[i]?=some f->f.live=true->At (φ i) a->a.block∈S':=fun {i f a} X m x g=>
  z (zf5 h m x g) (.inl fun O=>h.apart k i _ f C m rfl x (Ne.symm X) ⟨a.block,0,none⟩ a (.inr O) g rfl)
 have u: ∀ {a},At (φ' k) a->(φ k).ad=some a:=fun {a} g=>by
  rw [M] at g;rcases g with g|g
  ·exact g
  ·cases g
 refine ⟨S',φ',fun i a g=>?_,fun i a g=>⟨fun j R=>by simpa using (h.ids i a g).1 j R,?_⟩,h.chg,fun b l=>h.own b (o b l),fun b l p s=>?_,fun i f m x a g=>?_,fun q r V=>⟨(Y q).trans (h.pins q r V).1,by simpa using (h.pins q r V).2⟩,fun i f m=>?_,fun i f m j R=>?_,fun i j f f' m hf' x Q A a b g l=>?_⟩
 ·obtain ⟨v,G,N⟩:=h.fr i a g;exact ⟨v,G,(N.chg T (Chg.refl [] w) (by simp) fun b l=>.inl (o b l)).phiS fun j _=>Y j⟩
 ·have:=hF i a g;cases a<;>first|trivial|cases this
 ·refine z (h.ex b l p s) (.inl fun O=>?_);rcases (h.lives k _ C rfl ⟨b,0,none⟩ (.inr O)).2 with K|K
  ·exact p K
  ·have K:w0.heap.size<=b:=K;omega
 ·rcases t i f m with ⟨rfl,rfl⟩|⟨p,s⟩
  ·have g:=u g;exact ⟨z (o4 a g) (.inr ⟨a,g,rfl⟩),(h.lives i _ C rfl a (.inl g)).2⟩
  ·rw [E i p] at g;exact ⟨D p s x g,(h.lives i f s x a g).2⟩
 ·rcases t i f m with ⟨rfl,rfl⟩|⟨p,s⟩
  ·refine ⟨B,L,by rw [M];exact o1,by rw [M];exact o2,o3,⟨?_,fun j c v G N=>?_⟩,fun a g=>?_⟩
   ·rw [o1.len,o2];exact za7 (f:=zb5 T (.user d)) (sz:=T.size d) (fun y=>T.len d y) xs
   ·obtain ⟨g1,g2⟩:=o5.cl j c v G N (fun q=>q);refine g1.frz o fun b l=>⟨zf5 h C rfl (a:=⟨b,0,none⟩) (.inr (g2 b l).1),fun K=>?_⟩;obtain ⟨a,g,hab⟩:=I K (g2 b l).1;exact (g2 b l).2 a g hab
   ·rw [M] at g;exact z (o4 a g) (.inr ⟨a,g,rfl⟩)
  ·exact ((h.ents i f s).chg T (Chg.refl [] w) (by simp) (fun b l=>.inl (o b l)) fun x a g=>⟨by simp,D p s x g⟩).phiE (E i p) fun j _=>Y j
 ·rw [Q1];rcases t i f m with ⟨rfl,rfl⟩|⟨p,s⟩
  ·cases R
  ·exact h.eids i f s j R
 ·rcases t i f m with ⟨rfl,rfl⟩|⟨p,s⟩<;>rcases t j f' hf' with ⟨rfl,rfl⟩|⟨u1,u2⟩
  ·exact absurd rfl A
  ·rw [E j u1] at l;exact h.apart i j _ f' C u2 rfl Q A a b (.inl (u g)) l
  ·rw [E i p] at g;exact h.apart i j f _ s C x rfl A a b g (.inl (u l))
  ·rw [E i p] at g;rw [E j u1] at l;exact h.apart i j f f' s u2 x Q A a b g l
def vy0 (F:AF T):Bool:=F.all fun p=>zh9 p.2
def jg7: ∀ {F},vy0 F=true-> ∀i a,F.get T i=some a->zh9 a=true
 | [],_,i,a,h=>by simp [AF.get] at h
 |(j,b)::r,hF,i,a,h=>by
  unfold vy0 at hF;rw [J6,X3] at hF;simp only [AF.get] at h;split at h
  ·simp only [X0] at h;subst h;exact hF.1
  ·exact jg7 (F:=r) hF.2 i a h
def kv8 (H:List (Ent T.U)) (k:Nat):List (Ent T.U):=match H[k]? with|some (.drow e d _ xs none)=>H.set k (.row e (.user d) xs)|_=>H
def kz0:List Nat->List (Ent T.U)->List (Ent T.U)
 | [],H=>H
 |k::r,H=>kz0 r (kv8 H k)
def jb4 (hF: ∀i a,F.get T i=some a->zh9 a=true): ∀(l) {H},zc1 T w0 S0 ⟨F,H⟩ F' w->zc1 T w0 S0 ⟨F,kz0 l H⟩ F' w
 | [],H,h=>h
 |k::r,H,h=>by
  refine jb4 hF r ?_;unfold kv8;split
  ·rename_i b;obtain ⟨S,φ,h⟩:=h;obtain ⟨S',φ',c⟩:=h.seal1 hF b;exact ⟨S',φ',c⟩
  ·exact h
def dzS:Nat->St T->St T
 |0,st=>st
 |1,st=>⟨st.F,closeL T (List.range st.H.length) st.H⟩
 |_,st=>match vy0 st.F with|true=>⟨st.F,kz0 (List.range st.H.length) (closeL T (List.range st.H.length) st.H)⟩|false=>st
def js7: ∀(m) {st},zc1 T w0 S0 st F' w->zc1 T w0 S0 (dzS m st) F' w
 |0,_,h=>h
 |1,⟨F,H⟩,h=>zu9 _ h
 |_+2,⟨F,H⟩,h=>by
  cases hF:vy0 F with
  |true=>simp only [dzS,hF];exact jb4 (jg7 hF) _ (zu9 _ h)
  |false=>simp only [dzS,hF];exact h
end
end Go.X
namespace Go.X
open Go.RowKit Go.V
section
variable {T:Tab} (P:Program) (C:Ctx T) {R:Type}
def qk0:AV T.U->Bool| .cell c=>c.t.scal|_=>false
def kr7:AV T.U->Bool| .agg cs=>cs.all qk0|a=>qk0 a
def yr0 (t:TypeId) (H:List (Ent T.U)) (k sz a c:Nat) (e:TypeId) (d:Nat) (fe:List TypeId) (xs:List (T.U d)) (f:Option (Nat×List (AV T.U))) (K:AV T.U->List (Ent T.U)->Option R):Option R:=
 match Nat.beq sz (T.size d) with
 |false=>none
 |true=>match f with
  |none=>match zt5 T P t ((elD T d xs a).map .cell) c with
   |some v=>match kr7 v with
    |true=>if a<xs.length then K v H else none
    |false=>match zt5 T P t (zd6 T fe (elD T d xs a) H.length).1 c with
     |some u=>(match zh9 u with|true=>if a<xs.length then K u (yi6 T H k e d fe xs a) else none|false=>none)
     |none=>none
   |none=>none
  |some (b,cs)=>match zt5 T P t cs c with
   |some u=>(match zh9 u with|true=>if a=b then K u H else none|false=>none)
   |none=>none
def ye8 (t:TypeId) (H:List (Ent T.U)) (k sz a c:Nat) (e:TypeId) (d:Nat) (fe:List TypeId) (xs:List (T.U d)) (f:Option (Nat×List (AV T.U))) (v:AV T.U) (K:List (Ent T.U)->Option R):Option R:=
 match Nat.beq sz (T.size d)&&jn8 T P t c (T.size d) v with
 |false=>none
 |true=>match f with
  |none=>if a<xs.length then K ((yi6 T H k e d fe xs a).set k (.drow e d fe xs (some (a,yi7 T (zd6 T fe (elD T d xs a) H.length).1 c (ze9 T v))))) else none
  |some (b,cs)=>if a=b then K (H.set k (.drow e d fe xs (some (b,yi7 T cs c (ze9 T v))))) else none
variable (T) in
def kz2 (t:Ty) (v:Value):Option (Cell T.U):=
 match t,v with
 | .list a,.slice none 0 0=>some ⟨.list a,[]⟩
 |_,v=>match qb5 T (yi9 T v) with|some c=>(match c.t.scal with|true=>some c|false=>none)|none=>none
variable (T) in
def yu4:List Ty->List Value->Option (List (Cell T.U))
 | [],[]=>some []
 |t::a,v::vs=>match kz2 T t v,yu4 a vs with|some c,some l=>some (c::l)|_,_=>none
 |_,_=>none
def jr2 (d:Nat) (fe:List TypeId) (t:TypeId) (H:List (Ent T.U)) (l c:Int) (K:AV T.U->List (Ent T.U)->Option R):Option R:=
 match zp5 P t with
 |some (e,sz,a,b)=>match Nat.beq sz (T.size d),yu4 T (va3 T d) b.toList with
  |true,some z=>match T.pack d z with
   |some f=>if 0<=l/\l<=c/\a*c.toNat<=281474976710656/\c<=9223372036854775807 then K (.own H.length) (H++ [.drow e d fe (List.replicate l.toNat f) none]) else none
   |none=>none
  |_,_=>none
 |none=>none
def uf7 (n:Nat) (j:Int) (x:Nat->Option R):Option R:=if 0<=j/\j<((n:Nat):Int) then x j.toNat else none
def zo2 (o:Oper) (st:St T) (K:St T->Option R):Option (Option R):=
 match o.op with
 | .makeSlice t x y=>match C.dr t with
  |some (d,fe)=>some (match aev T st.F x,aev T st.F y with|some (.cell ⟨.int _,l⟩),some (.cell ⟨.int _,c⟩)=>jr2 P d fe t st.H l c (fun a H=>K ⟨za9 T st.F o.dst a,H⟩)|_,_=>none)
  |none=>none
 | .indexAddr t x y=>match aev T st.F x with
  |some (.own k)=>match st.H[k]? with
   |some (.drow _ d _ xs _)=>some (match aev T st.F y,yt2 T P t (.user d) with
    |some (.cell ⟨.int _,j⟩),true=>uf7 xs.length j fun a=>K ⟨za9 T st.F o.dst (.eptr k (T.size d) a 0),st.H⟩
    |_,_=>none)
   |_=>none
  |_=>none
 | .load t x=>match aev T st.F x with
  |some (.eptr k sz a c)=>match st.H[k]? with
   |some (.drow e d fe xs b)=>some (yr0 P t st.H k sz a c e d fe xs b fun v H=>K ⟨za9 T st.F o.dst v,H⟩)
   |_=>none
  |_=>none
 | .store t x y=>match aev T st.F x with
  |some (.eptr k sz a c)=>match st.H[k]? with
   |some (.drow e d fe xs b)=>some (match o.dst,aev T st.F y with|none,some v=>ye8 P t st.H k sz a c e d fe xs b v fun H=>K ⟨st.F,H⟩|_,_=>none)
   |_=>none
  |_=>none
 |_=>none
end
section
variable {T:Tab} {P:Program} {C:Ctx T} {w w':World} {S S':List Nat} {φ φ':Nat->RA} {w0:World} {S0:Ow} {F:AF T} {H:List (Ent T.U)} {F':PF}
variable {ops:Array Oper} {Q:Exit->Act->World->Prop} {k n:Nat} {ds:List Deferred} {o:Oper}
def jt5 {R:Type} {r:R} {m:Nat} {j:Int} {x:Nat->Option R} (h:uf7 m j x=some r):(0<=j/\j<((m:Nat):Int))/\x j.toNat=some r:=u9 h
def ju7 {i e0} (c:H[i]?=some e0) (e d fe xs a):(yi6 T H i e d fe xs a)[i]?=some (.drow e d fe xs (some (a,(zd6 T fe (elD T d xs a) H.length).1))):=by
 have b:=(X2.1 c).1;unfold yi6;rw [X8 (by simpa using b),Q0 b]
def yv0 (h:Sim T w0 S0 ⟨F,H⟩ F' w S φ) {i:Nat} {e:TypeId} {d:Nat} {fe:List TypeId} {xs:List (T.U d)} {op:Option (Nat×List (AV T.U))} (hi:H[i]?=some (.drow e d fe xs op)) {a:Nat} (ha:a<xs.length):
  ∃g c B vals,(φ i).ad=some ⟨g,0,none⟩/\(φ i).n=xs.length/\Own w B e (T.size d) (φ i).ad xs.length (φ i).cap vals/\Blk w g c e/\(φ i).cap*T.size d<=c.size/\c.toList.take (xs.length*T.size d)=vals/\g∈S/\B<=g/\B<=w.heap.size/\xs.length<=(φ i).cap/\(φ i).cap<=maxLen/\DRel T w S φ (φ i) d fe xs op vals/\
   vals.length=xs.length*T.size d/\a*T.size d+T.size d<=xs.length*T.size d/\Rg w (some ⟨g,0+a*T.size d,none⟩) ((vals.drop (a*T.size d)).take (T.size d)):=by
 obtain ⟨B,vals,h1,h2,h3,h4,h5⟩:=h.ents i _ hi;rw [h2] at h1;rcases h1.cases with ⟨_,hn,_⟩|⟨c,had,hB,hb,hle,hm,hs,ht⟩
 ·omega
 ·refine ⟨bk (φ i).ad,c,B,vals,had,h2,h1,hb,hs,ht,h4 _ had,hB,h3,hle,hm,h5,h1.len,?_,?_⟩
  ·rw [<-Nat.succ_mul];exact Q9 _ ha
  ·have hr:=h1.rg;rw [had] at hr;exact hr.sub (a*T.size d) (T.size d) _ (fun _=>rfl)
def ql4 {Z:Prop} {rd:List Nat} {t:TypeId} {x:Operand} (p:dec ops k n F'=some o) (q:o.op=.load t x) {b o0 c:Nat} {cs:List (AV T.U)} {e:List Value} {a:AV T.U} (B:ev F' x=some (.pointer (some ⟨b,o0+c,none⟩)))
  (z: ∀h,Chg S w h->Same φ rd w h->Rg h (some ⟨b,o0,none⟩) e) (r:VRL T w S φ cs e) (D:zt5 T P t cs c=some a)
  (K: ∀v,QR P F' o S φ rd w v->VR T w S φ a v->(∀i∈a.ids,i∈u0 cs)->Z):Z:=by
 obtain ⟨i,d,E,s,f⟩:=jg0 D;have l: ∀i∈a.ids,i∈u0 cs:=jk1 f;have g:=zx5 p q;rw [k8 B] at g;cases hag:zz9 d with
 |false=>
  rw [hag] at f;obtain ⟨v,G,I⟩:=r.get T (show cs[c]?=some a from f);have u:zi3 P t=true:=by unfold zi3;rw [s];cases d<;>simp_all [zz9]
  refine K v (QR.load1 p g u v ?_) I l;exact fun h f y=>(z h f y c v G).2
 |true=>
  rw [hag] at f;unfold jn4 at f;simp only at f;split at f
  ·rename_i m;simp only [X0] at f;subst f;have u:zi3 P t=false:=by unfold zi3;rw [s];cases d<;>simp_all [zz9]
   have A:=r.len T;have m:=Y1 m;refine K _ (QR.loadA (ad:=some ⟨b,o0,none⟩) (j:=c) (cs:=e) (sz:=i.size) p z g u (by rw [s];rfl) (by unfold zv7;rw [E];rfl) ((e.drop c).take i.size) (by rw [Y6,Q7];omega) rfl) ⟨_,rfl,?_⟩ l;simpa using (r.drop T c).take T i.size
  ·cases f
def kw3: ∀(aS:List (AV T.U)) (vs:List Value),aS.length=vs.length->(∀(f:Nat) (x:AV T.U),aS[f]?=some x-> ∃v,vs[f]?=some v/\VR T w S φ x v)->VRL T w S φ aS vs
 | [],[],_,_=>trivial
 | [],_::_,h,_=>by simp at h
 |_::_,[],h,_=>by simp at h
 |x::r,v::s,hl,hx=>by
  obtain ⟨v',h1,h2⟩:=hx 0 x rfl;simp only [Y4,X0] at h1;subst h1;exact ⟨h2,kw3 r s (by simpa using hl) fun f z hz=>by simpa using hx (f+1) z (by simpa using hz)⟩
def ql8:List (Cell T.U)->List Value->List (AV T.U)
 |c::r,v::s=>(match c.t.scal with|true=>.cell c|false=>.raw v)::ql8 r s
 |_,_=> []
def ql9: ∀ {cs vs},cs.length=vs.length->(∀(f:Nat) (c:Cell T.U) (v:Value),cs[f]?=some c->vs[f]?=some v->c.t.scal=true->yl2 T w S c v)->VRL T w S φ (ql8 cs vs) vs
 | [],[],_,_=>trivial
 | [],_::_,h,_=>by simp at h
 |_::_,[],h,_=>by simp at h
 |c::r,v::s,b,a=>by
  refine ⟨?_,ql9 (by simpa using b) fun f c' d e g=>a (f+1) c' d (by simpa using e) (by simpa using g)⟩;cases hc:c.t.scal with
  |true=>exact a 0 c v rfl rfl hc
  |false=>show VR T w S φ (.raw v) v;rw [VR]
def jl4: ∀ {cs vs},cs.length=vs.length->(ql8 cs vs).length=cs.length/\(∀(f:Nat) (c:Cell T.U),cs[f]?=some c->c.t.scal=true->(ql8 cs vs)[f]?=some (.cell c))/\u0 (ql8 cs vs)= []
 | [],[],_=>⟨rfl,fun f c h=>by simp at h,rfl⟩
 | [],_::_,h=>by simp at h
 |_::_,[],h=>by simp at h
 |c::r,v::s,d=>by
  obtain ⟨e,g,i⟩:=jl4 (cs:=r) (vs:=s) (by simpa using d);refine ⟨by simp [ql8,e],fun f c' a b=>?_,?_⟩
  ·cases f with
   |zero=>simp only [Y4,X0] at a;subst a;simp [ql8,b]
   |succ f=>simpa [ql8] using g f c' (by simpa using a) b
  ·rw [ql8,u0,i];cases c.t.scal<;>rfl
def vq8 {t cs vs} (g:cs.length=vs.length) {c v} (h:zt5 T P t (cs.map .cell) c=some v) (b:kr7 v=true):zt5 T P t (ql8 cs vs) c=some v:=by
 obtain ⟨e,f,_⟩:=jl4 g;unfold zt5 at h⊢;split at h<;>try (cases h;done)
 rename_i i d q r;unfold jn4 at h⊢;cases hag:zz9 d with
 |false=>
  rw [hag] at h;simp only at h⊢;rw [W2] at h;cases hc:cs[c]? with
  |none=>rw [hc] at h;cases h
  |some a=>
   rw [hc] at h;simp only [Z8,X0] at h;subst h;exact f c a hc b
 |true=>
  rw [hag] at h;simp only [W9] at h⊢;rw [e];split at h<;>try (cases h;done)
  rename_i l;simp only [X0] at h;subst h;simp only [X0];congr 1;apply R7;intro j;simp only [Z3,Q6,W2];split
  ·rename_i m;cases hc:cs[c+j]? with
   |none=>
    rw [Y5 (by rw [e];exact List.getElem?_eq_none_iff.1 hc)];rfl
   |some a=>
    have p:a.t.scal=true:=by
     have:=Y8.1 b (.cell a) (Y9.2 ⟨j,by simp only [Z3,if_pos m,Q6,W2,hc];rfl⟩);exact this
    rw [f _ a hc p];rfl
  ·rfl
def gk0 {c v e} (a:c.t.scal=true) (h:DC T w S e c v):yl2 T w S c v:=by
 obtain ⟨t,x⟩:=c;cases t<;>first|(cases a;done)|exact h
def kh3 {φ d fe xs b cs a r} (h:DRel T w S φ r d fe xs (some (b,cs)) a) (g:a.length=xs.length*T.size d):VRL T w S φ cs ((a.drop (b*T.size d)).take (T.size d)):=by
 obtain ⟨i,m,j⟩:=h.opn _ _ rfl;have l:b*T.size d+T.size d<=xs.length*T.size d:=by rw [<-Nat.succ_mul];exact Q9 _ i
 refine kw3 _ _ (by simp;omega) fun f x e=>?_;have c:f<T.size d:=by have:=(X2.1 e).1;omega
 rw [Z3,if_pos c,Q6];exact j f x e
def kf6 {R:Type} {r:R} {t:TypeId} {x:Operand} (Y:dec ops k n F'=some o) (V:o.op=.load t x) {i sz a c:Nat} {e:TypeId} {d:Nat} {fe:List TypeId} {xs:List (T.U d)} {op:Option (Nat×List (AV T.U))} (hx:aev T F x=some (.eptr i sz a c)) (z:H[i]?=some (.drow e d fe xs op))
  {K0:AV T.U->List (Ent T.U)->Option R} (l:yr0 P t H i sz a c e d fe xs op K0=some r) (h:Sim T w0 S0 ⟨F,H⟩ F' w S φ) (HK: ∀v H1,K0 v H1=some r->zp6 P ops Q (k+1) n ds w0 S0 (⟨za9 T F o.dst v,H1⟩:St T)):WR P ops Q k n ds F' w:=by
 unfold yr0 at l;split at l<;>try (cases l;done)
 rename_i hsz;have:=X1 hsz;subst this;obtain ⟨X,h1,A,E,rfl⟩:=v8 h.fr hx;have m: ∀ {H:List (Ent T.U)} {φ:Nat->RA} {b:Nat} {cs:List (AV T.U)} {u:AV T.U},Sim T w0 S0 ⟨F,H⟩ F' w S φ->(φ i).ad=some ⟨A,0,none⟩->H[i]?=some (.drow e d fe xs (some (b,cs)))->a=b->zt5 T P t cs c=some u->zh9 u=true->K0 u H=some r->WR P ops Q k n ds F' w:=by
  intro H φ b cs u h E z G hl p I;subst G;obtain ⟨_,_,_,_,hdr⟩:=h.ents i _ z;have hb:=(hdr.2.2.opn _ _ rfl).1;obtain ⟨g,cc,B,D,J,a2,a3,a4,a5,a6,a7,a8,a9,a10,a11,K,W,a14,L⟩:=yv0 h z hb;rw [E] at J;simp only [X0,Addr.mk.injEq,and_true] at J;subst J;refine ql4 (rd:= [i]) Y V (b:=A) (o0:=0+a*T.size d) (c:=c) (by rw [h1,U9]) (fun w1 _ s=>Rg.same L (show w1.heap[A]?=w.heap[A]? from s i (by simp) ⟨A,0,none⟩ E a4.lt)) (kh3 K W) hl fun v M N O=>?_;exact jq1 Y (M w (Chg.refl _ _) fun _ _ _ _ _=>rfl) h N (zd4 p fun j hj=>h.eids i _ z j (O j hj)) (HK _ _ I)
 split at l
 ·split at l<;>try (cases l;done)
  rename_i v hl;split at l
  ·rename_i hn;obtain ⟨Z,I⟩:=u9 l;obtain ⟨g,cc,B,D,J,a2,a3,a4,a5,a6,a7,a8,a9,a10,a11,K,W,a14,L⟩:=yv0 h z Z;rw [E] at J;simp only [X0,Addr.mk.injEq,and_true] at J;subst J;have hxa:xs[a]?=some (xs.getD a (T.d d)):=zn5 (T.d d) Z;have y:(elD T d xs a).length=((D.drop (a*T.size d)).take (T.size d)).length:=by
    unfold elD;rw [T.len,Y6,Q7];omega
   have hm:=ql9 (w:=w) (S:=S) (φ:=φ) y fun f c0 v0 M N O=>by
    have hf:f<T.size d:=by have:=(X2.1 M).1;unfold elD at this;rw [T.len] at this;exact this
    rw [Z3,if_pos hf,Q6] at N;exact gk0 O (K.cl _ c0 v0 (by rw [qj9 (T.len d) hxa hf];exact M) N fun q=>q).1
   refine ql4 (rd:= [i]) Y V (b:=A) (o0:=0+a*T.size d) (c:=c) (by rw [h1,U9]) (fun w1 _ s=>Rg.same L (show w1.heap[A]?=w.heap[A]? from s i (by simp) ⟨A,0,none⟩ E a4.lt)) hm (vq8 y hl hn) fun u M N O=>?_;rw [(jl4 y).2.2] at O;refine jq1 Y (M w (Chg.refl _ _) fun _ _ _ _ _=>rfl) h N (zd4 ?_ fun j hj=>by cases O j hj) (HK _ _ I);cases v<;>first|rfl|cases hn
  ·split at l<;>try (cases l;done)
   rename_i u hu;split at l<;>try (cases l;done)
   rename_i p;obtain ⟨Z,I⟩:=u9 l;obtain ⟨φ',s,h'⟩:=h.openD z Z;exact m h' ((s i (X2.1 z).1).1.trans E) (ju7 z e d fe xs a) rfl hu p I
 ·split at l<;>try (cases l;done)
  rename_i u hu;split at l<;>try (cases l;done)
  rename_i p;obtain ⟨G,I⟩:=u9 l;exact m h E z G hu p I
def yr4: ∀(l cs o0),yi7 T cs o0 l=zj2 cs o0 l
 | [],_,_=>rfl
 |a::r,cs,o0=>by rw [yi7,zj2,yr4 r]
def ys8 {t:TypeId} {x y:Operand} (hd:dec ops k n F'=some o) (hop:o.op=.store t x y) (hdst:o.dst=none) {i a c:Nat} {e:TypeId} {d:Nat} {fe:List TypeId} {xs:List (T.U d)} {cs:List (AV T.U)} {v0:AV T.U} {H:List (Ent T.U)} {φ:Nat->RA} {g0:Nat} (h1:ev F' x=some (.pointer (some ⟨g0,0+(a*T.size d+c),none⟩))) (h2:(φ i).ad=some ⟨g0,0,none⟩) (hy:aev T F y=some v0) (hi:H[i]?=some (.drow e d fe xs (some (a,cs))))
  (hf:jn8 T P t c (T.size d) v0=true) (h:Sim T w0 S0 ⟨F,H⟩ F' w S φ) (K:zp6 P ops Q (k+1) n ds w0 S0 (⟨F,H.set i (.drow e d fe xs (some (a,yi7 T cs c (ze9 T v0))))⟩:St T)):WR P ops Q k n ds F' w:=by
 obtain ⟨v,h3,h4⟩:=v8 h.fr hy;obtain ⟨_,_,_,_,hdr⟩:=h.ents i _ hi;obtain ⟨hb,hcl,_⟩:=hdr.2.2.opn _ _ rfl;obtain ⟨g,carr,B,vals,a1,a2,a3,a4,a5,a6,a7,a8,a9,a10,a11,a12,a13,a14,a15⟩:=yv0 h hi hb;rw [h2] at a1;simp only [X0,Addr.mk.injEq,and_true] at a1;subst a1;obtain ⟨ii,hii,f1,f2,f3,f4⟩:=yb9 hf;have hds:=yj1 hd hop hdst;rw [k8 h1,k8 h3] at hds;have hle2:xs.length*T.size d<=carr.size:=W7 (Q9 _ a10) a5;have hst:=qg2 hf h4 (c:=carr) (p:=0+a*T.size d) (by omega);rw [U9] at hst;have hcr:=zj5 f1 h4;have hul:v.cells.toList.length=ii.size:=by rw [<-hcr.len T,f2]
 have hcl2:c+(ze9 T v0).length<=T.size d:=by rw [f2];exact f3
 refine WR.store a4 hds _ hst fun w' hb' hc=>K _ _ ⟨S,φ,h.upd hi rfl hc ?_ ⟨B,(yg2 carr (0+(a*T.size d+c)) v.cells.toList).toList.take (xs.length*T.size d),?_,a2,W7 a9 hc.size,?_,?_⟩ ?_ ?_⟩
 ·intro b hb;simp at hb;subst hb;exact ⟨_,.inl h2,rfl⟩
 ·rw [h2,a2];exact Own.ofBlk hb' a8 a10 (by have:=a11;unfold maxLen at this;omega) (by rw [yn0];exact a5) _ rfl
 ·intro z hz;rw [h2] at hz;simp only [X0] at hz;subst hz;exact a7
 ·rw [yc4,ym9,W8,a6];have hT: ∀b∈ [g0],b∈S:=by intro b hb;simp at hb;subst hb;exact a7
  have hin: ∀j,¬jz1 T (T.size d) (some (a,cs)) j->(zj2 vals (a*T.size d+c) v.cells.toList)[j]?=vals[j]?:=fun j hj=>by
   rw [yk5 _ _ _ _ (by omega),if_neg (fun q=>hj ⟨by omega,by omega⟩)]
  have hD:=a12.chg (T:=T) (S':=S) hc hT (fun b hb=>.inl hb) fun b _ hne hm=>by
   simp at hm;subst hm;exact hne _ h2 rfl
  refine ⟨fun j c1 v1 q1 q2 q3=>hD.cl j c1 v1 q1 (by rw [<-hin j q3];exact q2) q3,fun j j' c1 c2 v1 v2 hj q1 q2 q3 q4 q5 q6=>hD.ap j j' c1 c2 v1 v2 hj q1 (by rw [<-hin j q3];exact q2) q3 q4 (by rw [<-hin j' q6];exact q5) q6,fun a0 cs0 hq=>?_⟩;simp only [X0,X7] at hq;obtain ⟨rfl,rfl⟩:=hq;refine ⟨hb,by rw [yr4,qm8];exact hcl,fun f x hx=>?_⟩;rw [yr4,yk5 _ _ _ _ (by omega)] at hx;rw [yk5 _ _ _ _ (by omega)];split at hx
  ·rename_i hfr;rw [if_pos (by rw [hul];omega),show a*T.size d+f-(a*T.size d+c)=f-c by omega];obtain ⟨v',g1,g2⟩:=hcr.get T hx;exact ⟨v',g1,g2.chg T hc hT fun b hb=>.inl hb⟩
  ·rename_i hfr;rw [if_neg (by rw [hul];omega)];exact (hD.opn _ _ rfl).2.2 f x hx
 ·intro j hj;rcases yz8 (T:=T) j hj with hj|hj
  ·exact h.eids i _ hi j hj
  ·rw [yf1 f1] at hj;exact (zc5 h hy).1 j hj
 ·intro _ _ _ he;cases he
def vv4 {R:Type} {r:R} {t:TypeId} {x y:Operand} (s:dec ops k n F'=some o) (g:o.op=.store t x y) (b:o.dst=none) {i sz a c:Nat} {e:TypeId} {d:Nat} {fe:List TypeId} {xs:List (T.U d)} {u:Option (Nat×List (AV T.U))} {v:AV T.U} (J:aev T F x=some (.eptr i sz a c)) (z:aev T F y=some v) (j:H[i]?=some (.drow e d fe xs u))
  {A:List (Ent T.U)->Option R} (f:ye8 P t H i sz a c e d fe xs u v A=some r) (h:Sim T w0 S0 ⟨F,H⟩ F' w S φ) (B: ∀H1,A H1=some r->zp6 P ops Q (k+1) n ds w0 S0 (⟨F,H1⟩:St T)):WR P ops Q k n ds F' w:=by
 unfold ye8 at f;split at f<;>try (cases f;done)
 rename_i D;rw [X3] at D;obtain ⟨l,E⟩:=D;have:=X1 l;subst this;obtain ⟨X,G,M,I,rfl⟩:=v8 h.fr J;split at f
 ·obtain ⟨K,m⟩:=u9 f;obtain ⟨φ',p,L⟩:=h.openD j K;exact ys8 s g b G ((p i (X2.1 j).1).1.trans I) z (ju7 j e d fe xs a) E L (B _ m)
 ·obtain ⟨q,m⟩:=u9 f;subst q;exact ys8 s g b G I z j E h (B _ m)
def vv6 {t v c} (h:kz2 T t v=some c) (e):DC T w S e c v/\zx3 T e c v= []:=by
 have b: ∀ {c:Cell T.U} {v:Value},(match c.t,v with| .list _,.slice ad _ _=>zc7 ad|_,_=>([]:List Nat))= []->zx3 T e c v= []:=fun h=>by unfold zx3;cases Nat.beq e 0;exact h;rfl
 unfold kz2 at h;split at h
 ·simp only [X0] at h;subst h;exact ⟨⟨fun _=>CR.nilS,fun _=>⟨0,none,0,[],rfl,Own.nil _ _ _ _,U3 _,CellsR.nilC⟩⟩,b rfl⟩
 ·split at h<;>try (cases h;done)
  rename_i a d;split at h<;>try (cases h;done)
  rename_i f;simp only [X0] at h;subst h;have g:cellsOf T ([v].map (yi9 T))=some [a]:=by simp only [U2,List.map_nil,cellsOf,d]
  have i:=(ye9 (w:=w) (S:=S) g).2 0 a v rfl rfl;obtain ⟨t,x⟩:=a;cases t<;>first|(cases f;done)|exact ⟨i,b rfl⟩
def jj5: ∀ {d vs cs},yu4 T d vs=some cs->cs.length=vs.length/\ ∀(f:Nat) (c:Cell T.U) (v:Value) (e:TypeId),cs[f]?=some c->vs[f]?=some v->DC T w S e c v/\zx3 T e c v= []
 | [],[],cs,h=>by simp only [yu4,X0] at h;subst h;exact ⟨rfl,fun f c v e h=>by simp at h⟩
 | [],_::_,_,h=>by simp [yu4] at h
 |_::_,[],_,h=>by simp [yu4] at h
 |t::d,v::vs,cs,h=>by
  unfold yu4 at h;split at h<;>try (cases h;done)
  rename_i c l g i;simp only [X0] at h;subst h;obtain ⟨j,m⟩:=jj5 i;refine ⟨by simp [j],fun f c' p e a b=>?_⟩;cases f with
  |zero=>simp only [Y4,X0] at a b;subst a;subst b;exact vv6 g e
  |succ f=>exact m f c' p e (by simpa using a) (by simpa using b)
def kg1 {R:Type} {r:R} {x y:Operand} {t:TypeId} (hd:dec ops k n F'=some o) (Z:o.op=.makeSlice t x y) {d:Nat} {fe:List TypeId} {k1 k2:IntKind} {l c:Int} (hx:aev T F x=some (cI T k1 l)) (hy:aev T F y=some (cI T k2 c))
  {K0:AV T.U->List (Ent T.U)->Option R} (f:jr2 P d fe t H l c K0=some r) (h:Sim T w0 S0 ⟨F,H⟩ F' w S φ) (K: ∀b H1,K0 b H1=some r->zp6 P ops Q (k+1) n ds w0 S0 (⟨za9 T F o.dst b,H1⟩:St T)):WR P ops Q k n ds F' w:=by
 obtain ⟨X,D,u⟩:=v8 h.fr hx;obtain ⟨Y,h3,h4⟩:=v8 h.fr hy;have e1:=za3 u;have e2:=za3 h4;subst e1;subst e2;unfold jr2 at f;split at f<;>try (cases f;done)
 rename_i e sz by_ zc he;split at f<;>try (cases f;done)
 rename_i z A hz;have A:=X1 A;subst A;split at f<;>try (cases f;done)
 rename_i O hx0;obtain ⟨⟨g1,g2,g3,g4⟩,hK⟩:=u9 f;have E:=jf1 hd Z;rw [k8 D,k8 h3] at E;obtain ⟨i,zv,_,_,_,_,_,_,G⟩:=zd2 he;refine WR.make E he l.toNat c.toNat (by omega) (by omega) (by omega) g3 (by omega) fun g w' I=>?_;have J:=Own.made (m:=l.toNat) (m':=c.toNat) I (by omega) (by omega);have hc0:T.cells d O=z:=T.packed _ _ _ hx0;have p: ∀j s v,((List.replicate l.toNat O).flatMap (T.cells d))[j]?=some s->((madeCells zc (c.toNat*T.size d)).toList.take (l.toNat*T.size d))[j]?=some v->DC T w' (g::S) (fe.getD (j%T.size d) 0) s v/\zx3 T (fe.getD (j%T.size d) 0) s v= []:=by
  intro j s v D u;have B:=(X2.1 D).1;rw [za7 (T.len d),Z9] at B;rw [zv5 (T.len d O) _ _ B,hc0] at D;rw [Z3,if_pos B] at u;refine (jj5 (w:=w') (S:=g::S) hz).2 _ s v _ D ?_;have q:0<T.size d:=by
   rcases N0 (T.size d) with h0|h0
   ·rw [h0] at B;omega
   ·exact h0
  rw [<-G] at q;have hlc:l.toNat*T.size d<=c.toNat*T.size d:=Q9 _ (by omega);unfold madeCells at u;simp only [M7,T5,W2] at u;rw [List.getElem?_range (by omega)] at u;simp only [Z8,X0] at u;subst u;rw [<-G,Array.getElem?_toList,Z6 (Nat.mod_lt _ q)];congr 1;rw [getElem!_pos zc _ (Nat.mod_lt _ q)]
 have L:=h.add (r:=⟨some ⟨g,0,none⟩,l.toNat,c.toNat,[]⟩) I.chg I.fresh I.blk.lt (fun a M=>ya0 M) (e:=.drow e d fe (List.replicate l.toNat O) none)
  ⟨w.heap.size,_,by rw [k7];exact J,by rw [k7,Z9],I.chg.size,fun a M=>by rw [k7] at M;simp only [X0] at M;subst M;simp,
   ⟨fun j s v V W _=>⟨(p j s v V W).1,fun b N=>(by rw [(p j s v V W).2] at N;cases N)⟩,fun j j' s c2 v v' _ V W _ _ _ _ b N=>(by rw [(p j s v V W).2] at N;cases N),fun a cs hq=>(by cases hq)⟩⟩ (by intro j B;cases B)
 refine K _ _ hK _ _ ⟨_,_,L.slot (a:=.own H.length) (by rw [VR,k7]) ⟨by intro i hi;simp [AV.ids] at hi;subst hi;simp,trivial⟩⟩
def vo9 {t x y} (f:dec ops k n F'=some o) (l:o.op=.indexAddr t x y) {i z j e d fe xs A} (p:aev T F x=some (.own i)) (D:aev T F y=some (cI T z j)) (q:H[i]?=some (.drow e d fe xs A))
  (m:yt2 T P t (.user d)=true) (L:0<=j/\j<((xs.length:Nat):Int)) (h:Sim T w0 S0 ⟨F,H⟩ F' w S φ) (K:zp6 P ops Q (k+1) n ds w0 S0 (⟨za9 T F o.dst (.eptr i (T.size d) j.toNat 0),H⟩:St T)):WR P ops Q k n ds F' w:=by
 obtain ⟨X,E,r⟩:=v8 h.fr p;obtain ⟨Y,G,I⟩:=v8 h.fr D;have s:=za3 I;subst s;have b:=ja9 f l;rw [k8 E,k8 G] at b;obtain ⟨g,M,B,u,v,J,_⟩:=yv0 h q (a:=j.toNat) (by omega);rw [VR] at r;subst r;rw [v,J] at b;refine jq1 f ((QR.indexS (S:=S) (φ:=φ) (rd:= []) (w:=w) f b _ (zz4 m) j.toNat (by omega) (by omega)) w (Chg.refl _ _) fun _ _ _ _ _=>rfl) h (a:=.eptr i (T.size d) j.toNat 0) ⟨g,v,by simp [szT]⟩ ⟨(zc5 h p).1,?_⟩ K;intro s N ys c;rw [q] at c;cases c
def jb7 {R:Type} {r:R} (s:dec ops k n F'=some o) {K:St T->Option R} {z:Option R} (b:zo2 P C o ⟨F,H⟩ K=some z) (g:z=some r) (h:Sim T w0 S0 ⟨F,H⟩ F' w S φ)
  (u: ∀st,K st=some r->zp6 P ops Q (k+1) n ds w0 S0 st):WR P ops Q k n ds F' w:=by
 unfold zo2 at b;split at b<;>try (cases b;done)
 ·rename_i t x y f;split at b<;>try (cases b;done)
  obtain rfl:=X5 b;split at g<;>try (cases g;done)
  rename_i l m;exact kg1 s f l m g h fun a H1 D=>u _ D
 ·rename_i t x y f;split at b<;>try (cases b;done)
  rename_i i l;split at b<;>try (cases b;done)
  rename_i e d fe xs I p;obtain rfl:=X5 b;split at g<;>try (cases g;done)
  rename_i J j m A;obtain ⟨E,G⟩:=jt5 g;exact vo9 s f l m p A E h (u _ G)
 ·rename_i t x f;split at b<;>try (cases b;done)
  rename_i i sz a c l;split at b<;>try (cases b;done)
  rename_i p;obtain rfl:=X5 b;exact kf6 s f l p g h fun v H1 B=>u _ B
 ·rename_i t x y f;split at b<;>try (cases b;done)
  rename_i i sz a c l;split at b<;>try (cases b;done)
  rename_i p;obtain rfl:=X5 b;split at g<;>try (cases g;done)
  rename_i v q m;exact vv4 s f q l m p g h fun H1 B=>u _ B
end
end Go.X
namespace Go.X
open Go.RowKit Go.V
section
variable (T:Tab)
def qv4 {R:Type} (t:Ty) (x:Operand) (st:St T) (K:St T->Option R):Option R:=
 match x with
 | .tmp s=>match st.F.get T s with
  |some a=>rdF T st.H t a fun y=>K ⟨(s,zo3 T t y)::st.F,zv4 T st.H a.ids⟩
  |none=>none
 |_=>none
def gb7 {R:Type}:List (Nat×Ty)->List (AV T.U)->List (Ent T.U)->(List (AV T.U)->List (Ent T.U)->Option R)->Option R
 | [],aS,H,K=>K aS H
 |(j,t)::r,aS,H,K=>match aS[j]? with
  |some a=>rdF T H t a fun y=>gb7 r (aS.set j (zo3 T t y)) (zv4 T H a.ids) K
  |none=>none
def vh3 (ty:Ty) (c:Nat) (a:AV T.U):Option Ty:=
 match a with
 | .agg _=>match Nat.beq c 0 with|true=>some ty|false=>none
 |_=>match (zb5 T ty (zz2 T ty))[c]? with|some x=>some x.t|none=>none
def jz9 (H:List (Ent T.U)) (p a:AV T.U):Option Ty:=
 match p with
 | .eptr i _ _ c=>match H[i]? with|some (.row _ ty _)=>vh3 T ty c a|_=>none
 | .aptr i o _ _ _ c=>match H[i]? with
  |some (.blk _ cs)=>match yx7 T cs o with
   |some (b::_)=>match ja5 b with|some ⟨ty,_,_⟩=>vh3 T ty c a|none=>none
   |_=>none
  |_=>none
 |_=>none
def yv6 {R:Type} (b:Ty):List (Nat×Operand)->St T->(St T->Option R)->Option R
 | [],st,K=>K st
 |(_,x)::r,st,K=>match aev T st.F x with
  |some a=>match cellsOf T (ze9 T a) with
   |some _=>yv6 b r st K
   |none=>qv4 T b x st fun st=>yv6 b r st K
  |none=>none
end
section
variable {T:Tab} (P:Program) (C:Ctx T) {R:Type}
def qw7:Operand->Operand->Bool| .tmp s,.tmp q=> !(Nat.beq s q)|_,_=>true
def zm7 (o:Oper) (st:St T) (K:St T->Option R) (b:AV T.U->St T->Option R):Option R:=
 match o.op with
 | .store _ x y=>match aev T st.F x,aev T st.F y with
  |some p,some a=>match cellsOf T (ze9 T a),jz9 T st.H p a with
   |none,some c=>(match qw7 y x with|true=>qv4 T c y st fun st=>stepA P C o st K b|false=>none)
   |_,_=>stepA P C o st K b
  |_,_=>none
 | .buildSlice t _ ps=>match C.ty t,zv9 T st.F (ps.toList.map Prod.snd) with
  |some c,some _=>yv6 T c ps.toList st fun st=>stepA P C o st K b
  |_,_=>stepA P C o st K b
 | .mapUpdate t m x v=>match C.ty t,aev T st.F v with
  |some c,some a=>(match cellsOf T (ze9 T a) with
   |none=>(match qw7 v m&&qw7 v x with|true=>qv4 T c v st fun st=>stepA P C o st K b|false=>none)
   |some _=>stepA P C o st K b)
  |_,_=>stepA P C o st K b
 |_=>stepA P C o st K b
end
section
variable {T:Tab} {P:Program} {C:Ctx T} {w w':World} {S S':List Nat} {φ φ':Nat->RA} {w0:World} {S0:Ow} {F:AF T} {H:List (Ent T.U)} {F':PF}
variable {ops:Array Oper} {Q:Exit->Act->World->Prop} {k n:Nat} {ds:List Deferred} {o:Oper}
def Sim.seen (h:Sim T w0 S0 ⟨F,H⟩ F' w S φ) {d a v} (g:F'.get d=some v) (j:VR T w S φ a v) (e:okA H a):Sim T w0 S0 ⟨(d,a)::F,H⟩ F' w S φ:=by
 have f: ∀i b,AF.get T ((d,a)::F) i=some b->(i=d/\b=a)\/F.get T i=some b:=by
  intro i b c;simp only [AF.get] at c;split at c
  ·rename_i l;have:=X1 l;subst this;exact .inl ⟨rfl,(X5 c).symm⟩
  ·exact .inr c
 refine ⟨fun i b c=>?_,fun i b c=>?_,h.chg,h.own,h.ex,h.lives,h.pins,h.ents,h.eids,h.apart⟩
 ·rcases f i b c with ⟨rfl,rfl⟩|c
  ·exact ⟨v,g,j⟩
  ·exact h.fr i b c
 ·rcases f i b c with ⟨rfl,rfl⟩|c
  ·exact e
  ·exact h.ids i b c
def Sim.frz1 (h:Sim T w0 S0 ⟨F,H⟩ F' w S φ) {i e} (J:H[i]?=some e) (K:e.live=true):
  Sim T w0 S0 ⟨F,H.set i .gone⟩ F' w (S.filter fun b=> !(φ i).all.contains b) φ:=by
 have p: ∀b∈S.filter (fun b=> !(φ i).all.contains b),b∈S:=fun b g=>(W0.1 g).1;have s: ∀ {b:Nat},b∈S->(∀a,At (φ i) a->a.block≠b)->b∈S.filter fun b=> !(φ i).all.contains b:=by
  intro b g q;refine W0.2 ⟨g,?_⟩;cases hq:(φ i).all.contains b with
  |false=>rfl
  |true=>
   obtain ⟨a,m,u⟩:=zr4.1 (T7.1 hq);exact absurd u (q a m)
 refine ⟨?_,?_,h.chg,fun b g=>h.own b (p b g),?_,?_,?_,?_,?_,?_⟩
 ·intro j a m;obtain ⟨v,B,D⟩:=h.fr j a m;exact ⟨v,B,D.chg T (Chg.refl [] w) (by simp) fun b g=>.inl (p b g)⟩
 ·intro j a m;obtain ⟨B,D⟩:=h.ids j a m;refine ⟨fun x z=>by simpa using B x z,?_⟩;cases a with
  |eptr y sz k c=>intro e t xs z;exact D e t xs (zr0 z rfl).2
  |_=>trivial
 ·intro b g M O;refine s (h.ex b g M O) fun a m u=>?_;rcases (h.lives i e J K a m).2 with N|N
  ·exact M (u▸N)
  ·omega
 ·intro j f A l a m;obtain ⟨q,d⟩:=zr0 A l;exact ⟨s (h.lives j f d l a m).1 fun b g u=>h.apart i j e f J d K l (Ne.symm q) b a g m u,(h.lives j f d l a m).2⟩
 ·intro k r V;obtain ⟨B,D⟩:=h.pins k r V;exact ⟨B,by simpa using D⟩
 ·intro j f A;by_cases l:f.live=true
  ·obtain ⟨q,d⟩:=zr0 A l;exact (h.ents j f d).chg T (Chg.refl [] w) (by simp) (fun b g=>.inl (p b g)) fun E a m=>⟨by simp,s (zf5 h d E m) fun b g u=>h.apart i j e f J d K E (Ne.symm q) b a g m u⟩
  ·cases f<;>first|exact trivial|exact absurd rfl l
 ·intro j f A x z;cases f with
  |hid=>cases z
  |gone=>cases z
  |_=>have:=h.eids j _ (zr0 A rfl).2 x z;simpa using this
 ·intro j k f W A d G I L;exact h.apart j k f W (zr0 A G).2 (zr0 d I).2 G I L
def Sim.frzL: ∀(ids) {H S},Sim T w0 S0 ⟨F,H⟩ F' w S φ->
  ∃S',(∀b∈S',b∈S)/\(∀i∈ids,∀e,H[i]?=some e->e.live=true-> ∀a,At (φ i) a->a.block∉S')/\Sim T w0 S0 ⟨F,zv4 T H ids⟩ F' w S' φ
 | [],H,S,h=>⟨S,fun _ h=>h,by simp,h⟩
 |i::r,H,S,h=>by
  have step: ∃S1,(∀b∈S1,b∈S)/\(∀e,H[i]?=some e->e.live=true-> ∀a,At (φ i) a->a.block∉S1)/\Sim T w0 S0 ⟨F,H.set i .gone⟩ F' w S1 φ:=by
   cases hi:H[i]? with
   |none=>
    refine ⟨S,fun _ h=>h,by simp,?_⟩;rw [List.set_eq_of_length_le (by simpa using hi)];exact h
   |some e=>
    cases f:e.live with
    |true=>
     refine ⟨_,fun b m=>(W0.1 m).1,fun u c _ a g l=>?_,h.frz1 hi f⟩;have:=(W0.1 l).2;simp at this;exact this (zr4.2 ⟨a,g,rfl⟩)
    |false=>
     have:e=.gone:=by cases e<;>first|rfl|cases f
     subst this;refine ⟨S,fun _ h=>h,fun u c p=>?_,?_⟩
     ·simp only [X0] at c;subst c;cases p
     ·have v:H.set i .gone=H:=by
       obtain ⟨x,y⟩:=X2.1 hi;rw [<-y,T6]
      rw [v];exact h
  obtain ⟨S1,z,A,B⟩:=step;obtain ⟨D,s,E,G⟩:=Sim.frzL r B;refine ⟨D,fun b m=>z b (s b m),fun j q e t f a g l=>?_,G⟩;by_cases d:j=i
  ·subst d;exact A e t f a g (s _ l)
  ·rcases Z0.1 q with rfl|q
   ·exact d rfl
   ·exact E j q e (by rw [Z5 (Ne.symm d)];exact t) f a g l
def kg9 {t a x} (h:jo3 T t a=some x):a.ids= []:=by
 cases a with
 |cell c=>rfl
 |raw v=>rfl
 |agg cs=>
  cases t<;>simp only [jo3,reduceCtorEq] at h;split at h
  ·rename_i l b;rw [zs9 b,AV.ids,yq6]
  ·cases h
 |_=>cases t<;>cases h
def gj3 {R:Type} {r:R} {t:Ty} {a:AV T.U} {K:den T.U t->Option R} (h:rdN T H t a K=some r): ∀i∈a.ids,∃e,H[i]?=some e/\e.live=true:=by
 unfold rdN at h;split at h
 ·intro i b;cases b
 ·intro i b;cases b
 ·intro j c;simp only [AV.ids,Q5] at c;subst c;split at h
  ·rename_i b;exact ⟨_,b,rfl⟩
  ·cases h
 ·cases h
def qr4 {R:Type} {r:R} {t:Ty} {a:AV T.U} {K:den T.U t->Option R} (h:jp2 T H t a K=some r): ∀i∈a.ids,∃e,H[i]?=some e/\e.live=true:=by
 unfold jp2 at h;split at h
 ·intro j b;simp only [AV.ids,Q5] at b;subst b;split at h
  ·rename_i c;exact ⟨_,c,rfl⟩
  ·cases h
 ·intro j b;simp only [AV.ids,Q5] at b;subst b;split at h
  ·rename_i c;exact ⟨_,c,rfl⟩
  ·cases h
 ·intro j b;simp only [AV.ids,Q5] at b;subst b;split at h
  ·rename_i c;exact ⟨_,c,rfl⟩
  ·cases h
 ·split at h
  ·rename_i x d;rw [kg9 d];intro i c;cases c
  ·exact gj3 h
def qr2 {R:Type} {r:R}: ∀ {ts:List Ty} {aS:List (AV T.U)} {K:List (Cell T.U)->Option R},qr0 T H ts aS K=some r-> ∀i∈u0 aS,∃e,H[i]?=some e/\e.live=true
 | [],[],K,h=>by intro i hi;cases hi
 | [],_::_,_,h=>by cases h
 |_::_,[],_,h=>by cases h
 |t::ts,a::aS,K,h=>by
  have h:(match t.one with|true=>jp2 T H t a (fun x=>qr0 T H ts aS fun l=>K (⟨t,x⟩::l))|false=>none)=some r:=h;split at h<;>try (cases h;done)
  intro i hi;rw [u0] at hi;rcases X4.1 hi with hi|hi
  ·exact qr4 h i hi
  ·obtain ⟨x,h1,h2⟩:=jm5 h;exact qr2 h1 i hi
def vk4 {R:Type} {r:R} {t:Ty} {a:AV T.U} {K:den T.U t->Option R} (h:rdF T H t a K=some r): ∀i∈a.ids,∃e,H[i]?=some e/\e.live=true:=by
 unfold rdF at h;split at h
 ·intro i b;rw [AV.ids] at b;exact qr2 h i b
 ·exact qr4 h
def jx4 (t x):(zo3 T t x).ids= []:=by
 cases t with
 |user i=>show u0 ((T.cells i x).map AV.cell)= [];exact yq6 _
 |_=>rfl
def zx6 {R:Type} {r:R} {t:Ty} {x:Operand} {st:St T} {K:St T->Option R} (h:qv4 T t x st K=some r) (d:Sim T w0 S0 st F' w S φ): ∃b S',K b=some r/\Sim T w0 S0 b F' w S' φ/\ ∀t,(st.F.get T t).isSome=true->(b.F.get T t).isSome=true:=by
 obtain ⟨F,H⟩:=st;unfold qv4 at h;split at h<;>try (cases h;done)
 rename_i s;split at h<;>try (cases h;done)
 rename_i a j;obtain ⟨v,l,m⟩:=d.fr s a j;obtain ⟨S',p,u,z⟩:=Sim.frzL a.ids d;obtain ⟨y,A,B⟩:=jm6 (S':=S') h (fun i c D f _=>d.ents i D f) m φ p fun i c ad g=>by
  obtain ⟨e,E,G⟩:=vk4 h i c;exact u i c e E G ad (.inl g)
 refine ⟨_,S',A,z.seen l B (zd4 ?_ ?_),fun q I=>?_⟩
 ·cases t<;>rfl
 ·rw [jx4];intro i c;cases c
 ·simp only [AF.get];split
  ·rfl
  ·exact I
def zz5 {R:Type} {r:R} {d:Ty}: ∀ {ps:List (Nat×Operand)} {st:St T} {K:St T->Option R} {S:List Nat},yv6 T d ps st K=some r->Sim T w0 S0 st F' w S φ-> ∃a S',K a=some r/\Sim T w0 S0 a F' w S' φ/\ ∀t,(st.F.get T t).isSome=true->(a.F.get T t).isSome=true
 | [],st,K,S,h,b=>⟨st,S,h,b,fun _ h=>h⟩
 |(_,x)::ps,st,K,S,h,b=>by
  unfold yv6 at h;split at h<;>try (cases h;done)
  split at h
  ·exact zz5 h b
  ·obtain ⟨a,S',e,f,g⟩:=zx6 h b;obtain ⟨c,i,j,l,m⟩:=zz5 e f;exact ⟨c,i,j,l,fun t p=>m t (g t p)⟩
def qj2 {R:Type} {r:R} (c:zb2 T P C.E) (d:dec ops k n F'=some o) {K:St T->Option R} {j:AV T.U->St T->Option R} (b:zm7 P C o ⟨F,H⟩ K j=some r) (h:Sim T w0 S0 ⟨F,H⟩ F' w S φ)
  (e: ∀st,K st=some r->zp6 P ops Q (k+1) n ds w0 S0 st) (f: ∀a st,j a st=some r->yp7 Q n ds w0 S0 a st):WR P ops Q k n ds F' w:=by
 unfold zm7 at b;split at b
 ·split at b<;>try (cases b;done)
  split at b
  ·split at b<;>try (cases b;done)
   obtain ⟨⟨l,H2⟩,m,g,i,_⟩:=zx6 b h;exact zg5 c d g i e f
  ·exact zg5 c d b h e f
 ·split at b
  ·obtain ⟨⟨l,H2⟩,m,g,i,_⟩:=zz5 b h;exact zg5 c d g i e f
  ·exact zg5 c d b h e f
 ·split at b
  ·split at b
   ·split at b<;>try (cases b;done)
    obtain ⟨⟨l,H2⟩,m,g,i,_⟩:=zx6 b h;exact zg5 c d g i e f
   ·exact zg5 c d b h e f
  ·exact zg5 c d b h e f
 ·exact zg5 c d b h e f
def yq4 {R:Type} {r:R} {w0:World} {S0:Ow} {F:AF T} {F':PF} {w:World} {φ:Nat->RA}: ∀(l:List (Nat×Ty)) {aS:List (AV T.U)} {us:List Value} {H:List (Ent T.U)} {S:List Nat} {K:List (AV T.U)->List (Ent T.U)->Option R},gb7 T l aS H K=some r->Sim T w0 S0 ⟨F,H⟩ F' w S φ->VRL T w S φ aS us->
  ∃aS' H' S',K aS' H'=some r/\Sim T w0 S0 ⟨F,H'⟩ F' w S' φ/\VRL T w S' φ aS' us
 | [],aS,us,H,S,K,h,hs,hv=>⟨aS,H,S,h,hs,hv⟩
 |(j,t)::l,aS,us,H,S,K,h,hs,hv=>by
  unfold gb7 at h;split at h<;>try (cases h;done)
  rename_i a ha;obtain ⟨v,h1,h2⟩:=hv.get T ha;obtain ⟨S',k1,k2,k3⟩:=Sim.frzL a.ids hs;obtain ⟨y,h3,h4⟩:=jm6 (S':=S') h (fun i hi en hen _=>hs.ents i en hen) h2 φ k1 fun i hi ad had=>by
   obtain ⟨e,he,hl⟩:=vk4 h i hi;exact k2 i hi e he hl ad (.inl had)
  have hv':=(hv.chg T (Chg.refl [] w) (by simp) fun b hb=>.inl (k1 b hb)).set T j h4;rw [show us.set j v=us by
   obtain ⟨hlt,hg⟩:=X2.1 h1;rw [<-hg,T6]] at hv'
  exact yq4 l h3 k3 hv'
end
end Go.X
namespace Go.X
open Go.RowKit Go.V
section
variable {T:Tab} {w w':World} {S S':List Nat} {φ φ':Nat->RA} {w0:World} {S0:Ow} {F:AF T} {H:List (Ent T.U)} {F':PF}
def Sim.addG2 (h:Sim T w0 S0 ⟨F,H⟩ F' w S φ) {Tc} (M:Chg Tc w w') (hT: ∀b∈Tc,b∈S) (D: ∀b∈Tc,b∈S0.chg\/w0.heap.size<=b) (s: ∀(j:Nat) (e:Ent T.U),H[j]?=some e->e.live=true-> ∀a,At (φ j) a->a.block∉Tc) (u: ∀b∈S,b∈S') (E: ∀b∈S',b∈S\/(w.heap.size<=b/\b<w'.heap.size)) {r e} (hr: ∀a,At r a->w.heap.size<=a.block\/a.block∈Tc\/((a.block∈S0.chg\/w0.heap.size<=a.block)/\ ∀(j:Nat) (f:Ent T.U),H[j]?=some f->f.live=true-> ∀b,At (φ j) b->b.block≠a.block)) (O: ∀a,At r a->a.block∈S')
  (he:EntR T w' S' (zw1 φ H.length r) H.length e) (G: ∀j∈e.cellIds,j<H.length+1):
  Sim T w0 S0 ⟨F,H++ [e]⟩ F' w' S' (zw1 φ H.length r):=by
 have hS: ∀b∈S',b∈S\/w.heap.size<=b:=fun b l=>(E b l).imp id And.left;have m: ∀i f,(H++ [e])[i]?=some f->(i<H.length/\H[i]?=some f)\/(i=H.length/\f=e):=by
  intro i f d;rcases M1 i H.length with z|z|z
  ·rw [X8 z] at d;exact .inl ⟨z,d⟩
  ·subst z;simp at d;exact .inr ⟨rfl,d.symm⟩
  ·rw [Y5 (by simp;omega)] at d;cases d
 have A: ∀(j:Nat) (f:Ent T.U),H[j]?=some f->f.live=true-> ∀a,At (φ j) a-> ∀b,At r b->a.block≠b.block:=by
  intro j f d x a g b l e;rcases hr b l with p|p|p
  ·have:=(h.own _ (zf5 h d x g)).2;omega
  ·exact s j f d x a g (e▸p)
  ·exact p.2 j f d x a g e
 refine ⟨?_,?_,?_,?_,fun b l q1 q2=>u _ (h.ex b l q1 q2),?_,fun k r N=>?_,?_,?_,?_⟩
 ·intro i a g;obtain ⟨v,B,I⟩:=h.fr i a g;refine ⟨v,B,(I.chg T M hT hS).phi fun j y=>zc9 ?_⟩;have:=(h.ids i a g).1 j y;simp only at this;omega
 ·intro i a g;obtain ⟨B,I⟩:=h.ids i a g;refine ⟨fun j y=>by have:=B j y;simp at this⊢;omega,?_⟩;cases a with
  |eptr j sz k c=>
   intro e' t xs V;rcases m _ _ V with ⟨_,V⟩|⟨y,_⟩
   ·exact I e' t xs V
   ·have:=B j (by simp [AV.ids]);simp at this;omega
  |_=>trivial
 ·exact h.chg.step M D
 ·intro b l;rcases E b l with l|⟨p,W⟩
  ·exact ⟨(h.own b l).1,V1 (h.own b l).2 M.size⟩
  ·exact ⟨.inr (W7 h.chg.size p),W⟩
 ·intro i f d x a g;rcases m i f d with ⟨z,d⟩|⟨rfl,rfl⟩
  ·rw [zc9 (by omega)] at g;have q:=h.lives i f d x a g;exact ⟨u _ q.1,q.2⟩
  ·rw [k7] at g;refine ⟨O a g,?_⟩;rcases hr a g with p|p|p
   ·exact .inr (W7 h.chg.size p)
   ·exact D _ p
   ·exact p.1
 ·obtain ⟨B,I⟩:=h.pins k r N;simp only at I;exact ⟨by rw [zc9 (by omega)];exact B,by simp only [X9];omega⟩
 ·intro i f d;rcases m i f d with ⟨z,d⟩|⟨rfl,rfl⟩
  ·have B:=(h.ents i f d).chg T M (S':=S') hT hS fun x a g=>⟨s i f d x a g,u _ (zf5 h d x g)⟩;have X:i≠H.length:=by omega
   refine B.phiE (zc9 X) fun j y=>.of (zc9 ?_);have:=h.eids i _ d j y;simp only at this;omega
  ·exact he
 ·intro i f d j y;simp only [X9,U5,N5];rcases m i f d with ⟨z,d⟩|⟨rfl,rfl⟩
  ·have:=h.eids i f d j y;simp only at this;omega
  ·exact G j y
 ·intro i j f Y d Z x J K a b g l;rcases m i f d with ⟨z,N⟩|⟨rfl,rfl⟩<;>rcases m j Y Z with ⟨y,L⟩|⟨rfl,rfl⟩
  ·rw [zc9 (by omega)] at g l;exact h.apart i j f Y N L x J K a b g l
  ·rw [zc9 (by omega)] at g;rw [k7] at l;exact A i f N x a g b l
  ·rw [k7] at g;rw [zc9 (by omega)] at l;exact (A j Y L J b l a g).symm
  ·exact absurd rfl K
def DRel.append {D E r d fe xs ys s G} (t:DRel T w S φ D d fe xs none s) (u:DRel T w S φ E d fe ys none G) (W:s.length=xs.length*T.size d)
  (O: ∀b,(b∈D.xs/\ ∀a,D.ad=some a->a.block≠b)\/(b∈E.xs/\ ∀a,E.ad=some a->a.block≠b)->b∈r.xs/\ ∀a,r.ad=some a->a.block≠b) (x: ∀b∈D.xs,b∉E.xs):DRel T w S φ' r d fe (xs++ys) none (s++G):=by
 have e: ∀j,¬jz1 T (T.size d) (none:Option (Nat×List (AV T.U))) j:=fun j h=>h;have K:(xs.flatMap (T.cells d)).length=xs.length*T.size d:=za7 (T.len d) xs;have part: ∀(j:Nat) (c:Cell T.U) (v:Value),((xs++ys).flatMap (T.cells d))[j]?=some c->(s++G)[j]?=some v->
   (j<xs.length*T.size d/\(xs.flatMap (T.cells d))[j]?=some c/\s[j]?=some v)\/(∃i,j=xs.length*T.size d+i/\(ys.flatMap (T.cells d))[i]?=some c/\G[i]?=some v/\i%T.size d=j%T.size d):=by
  intro j c v l p;rw [J0] at l;rcases U7 j (xs.length*T.size d) with h|h
  ·rw [X8 (by omega)] at l p;exact .inl ⟨h,l,p⟩
  ·rw [Z2 (by omega)] at l p;rw [K] at l;rw [W] at p;exact .inr ⟨j-xs.length*T.size d,by omega,l,p,by
    conv=>rhs;rw [show j=(j-xs.length*T.size d)+xs.length*T.size d by omega]
    rw [Nat.add_mul_mod_self_right]⟩
 refine ⟨fun j c v l p _=>?_,fun j y c c' v z L l p _ M N _=>?_,fun a cs h=>by cases h⟩
 ·rcases part j c v l p with ⟨_,f,g⟩|⟨i,_,f,g,I⟩
  ·exact ⟨(t.cl j c v f g (e j)).1,fun b m=>O b (.inl ((t.cl j c v f g (e j)).2 b m))⟩
  ·rw [<-I];exact ⟨(u.cl i c v f g (e i)).1,fun b m=>O b (.inr ((u.cl i c v f g (e i)).2 b m))⟩
 ·intro b m;rcases part j c v l p with ⟨_,f,g⟩|⟨i,X,f,g,I⟩<;>rcases part y c' z M N with ⟨_,A,B⟩|⟨J,Y,A,B,V⟩
  ·exact t.ap j y c c' v z L f g (e j) A B (e y) b m
  ·rw [<-V];exact fun q=>x b ((t.cl j c v f g (e j)).2 b m).1 ((u.cl J c' z A B (e J)).2 b q).1
  ·rw [<-I] at m;exact fun q=>x b ((t.cl y c' z A B (e y)).2 b q).1 ((u.cl i c v f g (e i)).2 b m).1
  ·rw [<-I] at m;rw [<-V];exact u.ap i J c c' v z (by omega) f g (e i) A B (e J) b m
end
section
variable {T:Tab} (P:Program) {R:Type}
def bsD (d:Nat) (fe:List TypeId) (t:TypeId) (a:Nat) (H:List (Ent T.U)) (l:List (Nat×AV T.U)) (K:AV T.U->List (Ent T.U)->Option R):Option R:=
 match Nat.beq a 1,yt1 T P t a l with
 |true,some (e,sz,cs)=>match Nat.beq sz (T.size d)&&Nat.beq cs.length (T.size d) with
  |true=>K (.own H.length) (H++ [.drow e d fe [T.d d] (some (0,cs))])
  |false=>none
 |_,_=>none
def mkN (t:TypeId) (H:List (Ent T.U)) (l c:Int) (K:AV T.U->List (Ent T.U)->Option R):Option R:=
 match zp5 P t with
 |some (e,sz,by_,zc)=>
  let cs:=(List.range (c.toNat*sz)).map fun j=>yi9 T (zc[j%sz]!)
  match Nat.ble 1 sz&&(Nat.ble c.toNat 65536&&(Nat.ble (by_*c.toNat) 1048576&&cs.all (za6 T))) with
  |true=>if 0<=l/\l<=c/\1<=c then K (.asl H.length 0 sz c.toNat 0 l.toNat) (H++ [.blk e cs]) else none
  |false=>none
 |none=>none
def ga1 (t:TypeId) (H:List (Ent T.U)) (i sz n m j q:Nat) (K:AV T.U->List (Ent T.U)->Option R):Option R:=
 match zp5 P t,H[i]?,H[j]? with
 |some (e,s,_,_),some (.blk ei ci),some (.blk ej cj)=>
  match (Nat.beq s sz&&(Nat.beq ei e&&(Nat.ble 1 q&&Nat.ble (m+q) n)))&&((!(Nat.beq i j)&&(Nat.beq ci.length (n*sz)&&Nat.beq cj.length (q*sz)))&&(ci.all (za6 T)&&(cj.all (zu7 T)&&cj.all (za6 T)))) with
  |true=>K (.asl i 0 sz n 0 (m+q)) ((H.set i (.blk ei (ci.take (m*sz)++cj++ci.drop (m*sz+q*sz)))).set j .gone)
  |false=>none
 |_,_,_=>none
def gm3:List TypeId->List TypeId->Bool
 | [],[]=>true
 |a::r,b::s=>Nat.beq a b&&gm3 r s
 |_,_=>false
def kz9 (t:TypeId) (H:List (Ent T.U)) (k c:Nat) (K:AV T.U->List (Ent T.U)->Option R):Option R:=
 match zp5 P t,H[k]?,H[c]? with
 |some (e,sz,a,_),some (.drow g d b xs none),some (.drow h i f ys none)=>
  if j:i=d then
   match Nat.beq sz (T.size d)&&(Nat.ble 1 sz&&(Nat.ble 1 a&&(Nat.beq g e&&(Nat.beq h e&&(gm3 b f&& !(Nat.beq k c)))))) with
   |true=>if (xs.length+ys.length)*a<=140737488355328 then K (.own H.length) (((H.set k .gone).set c .gone)++ [.drow g d b (xs++j▸ys) none]) else none
   |false=>none
  else none
 |_,_,_=>none
def vf5: ∀ {a b},gm3 a b=true->a=b
 | [],[],_=>rfl
 | [],_::_,h=>by cases h
 |_::_,[],h=>by cases h
 |x::a,y::b,h=>by
  unfold gm3 at h;rw [X3] at h;rw [X1 h.1,vf5 h.2]
end
section
variable {T:Tab} {P:Program} {C:Ctx T} {w w':World} {S S':List Nat} {φ φ':Nat->RA} {w0:World} {S0:Ow} {F:AF T} {H:List (Ent T.U)} {F':PF}
variable {ops:Array Oper} {Q:Exit->Act->World->Prop} {k n:Nat} {ds:List Deferred} {o:Oper}
def DC.one {e c v} (h:DC T w S e c v):v.oneCell'=true:=by
 obtain ⟨t,x⟩:=c;have a:yl2 T w S ⟨t,x⟩ v->v.oneCell'=true:=fun h=>by
  have:=CellsR.one (T:=T) (cs:= [⟨t,x⟩]) (vs:= [v]) (w:=w) (S:=S) ⟨rfl,fun j c u b d=>by
   cases j with
   |zero=>simp at b d;subst b;subst d;exact h
   |succ j=>simp at b⟩
  exact this v (by simp)
 cases t with
 |list t=>
  by_cases f:e=0
  ·exact a (h.1 f)
  ·obtain ⟨B,ad,cap,g,rfl,_⟩:=h.2 f;rfl
 |_=>exact a h
def wb0 {R:Type} {r:R} {t:TypeId} {M:Nat} {ps:Array (Nat×Operand)} (hd:dec ops k n F'=some o) (hop:o.op=.buildSlice t M ps) {l:List (Nat×AV T.U)} (hl:zs0 T F ps.toList=some l) {d:Nat} {fe:List TypeId} {K0:AV T.U->List (Ent T.U)->Option R} (s:bsD P d fe t M H l K0=some r)
  (h:Sim T w0 S0 ⟨F,H⟩ F' w S φ) (K: ∀b H1,K0 b H1=some r->zp6 P ops Q (k+1) n ds w0 S0 (⟨za9 T F o.dst b,H1⟩:St T)):WR P ops Q k n ds F' w:=by
 unfold bsD at s;split at s<;>try (cases s;done)
 rename_i e0 sz0 cs0 A q;have A:=X1 A;subst A;split at s<;>try (cases s;done)
 rename_i B;rw [X3] at B;have hz1:=X1 B.1;have D:=X1 B.2;unfold yt1 at q;split at q
 ·rename_i et E by_ zc he;split at q
  ·rename_i G;simp only [X3] at G;have hs1:=Y1 G.1;have h16:=Y1 G.2;split at q
   ·rename_i u N;split at q
    case h_2=>cases q
    rename_i hna;simp only [X0,X7] at q;obtain ⟨rfl,rfl,rfl⟩:=q;obtain ⟨i,O,hu,hin,hzv,I,_,hzc,hzl⟩:=zd2 he;subst hzc;obtain ⟨e1,e2⟩:=zy4 h.fr hl;have hz0:VRL T w S φ ((List.range (1*E)).map fun j=>yi9 T (O.cells[j%E]!)) ((Array.range (1*i.size)).map (O.cells[· %O.cells.size]!)).toList:=by
     rw [I,hzl,M7,T5];generalize List.range (1*E)=rr;induction rr with
     |nil=>trivial
     |cons a r ih=>exact ⟨ye2 T _,ih⟩
    obtain ⟨c',g1,g2⟩:=yb8 hz0 e1 e2 N;have hbs:zx2 P t 1 (ps.toList.map fun p=>(p.1,evD F' p.2))=some (et,c'):=by
     unfold zx2;rw [hu];simp only [hin];rw [I,W3 h16];simp only;rw [I] at g1;have m:Instr.fill (fun j=>some (j*E,E)) ((Array.range (1*E)).map (O.cells[· %O.cells.size]!)) (ps.toList.map fun p=>(p.1,evD F' p.2))=some c':=g1;cases hz:Nat.beq (1*E) 0 with
     |true=>
      have:=X1 hz;simp only;rw [this] at m⊢;have hr0:Array.range 0= #[]:=rfl;rw [hr0] at m⊢;have em: ∀f:Nat->Value,Array.map f #[]= #[]:=fun f=>by simp
      rw [em] at m⊢;rw [m]
     |false=>simp only [hzv,m]
    have V: ∀i∈u0 u,i<H.length:=yl9 N (fun i L=>by
     obtain ⟨a,J,W⟩:=zm0 L;obtain ⟨j,_,rfl⟩:=U0.1 J;rw [yk3] at W;cases W) (yr3 h hl)
    refine WR.bslice c' (jk2 hd hop hbs) fun g w' y=>?_;have hS: ∀b∈g::S,b∈S\/w.heap.size<=b:=by
     intro b q;rcases Z0.1 q with rfl|q
     ·exact .inr y.fresh
     ·exact .inl q
    have X:c'.size=u.length:=by have:=g2.len T;simpa using this.symm
    have htk:c'.toList.take (1*T.size d)=c'.toList:=Q4 (by rw [J1,X,D];omega);have Y:=Own.ofBlk y.blk y.fresh (W6 1) (by omega) (sz:=T.size d) (by rw [X,D];omega) _ htk;have hv:VRL T w' (g::S) (zw1 φ H.length ⟨some ⟨g,0,none⟩,1,1,[]⟩) u c'.toList:=(g2.chg T y.chg (by simp) hS).phi fun i L=>zc9 (by have:=V i L;omega);have hxl:([T.d d].flatMap (T.cells d)).length=1*T.size d:=za7 (T.len d) [T.d d];have z: ∀(j:Nat) (c:Cell T.U),([T.d d].flatMap (T.cells d))[j]?=some c->jz1 T (T.size d) (some (0,u)) j:=fun j c hj=>by
     have:=(X2.1 hj).1;rw [hxl] at this;exact ⟨by omega,by omega⟩
    have Z:=h.add (r:=⟨some ⟨g,0,none⟩,1,1,[]⟩) y.chg y.fresh y.blk.lt (fun a J=>ya0 J) (e:=.drow _ d fe [T.d d] (some (0,u)))
     ⟨w.heap.size,_,by rw [k7];exact Y,by rw [k7];rfl,y.chg.size,fun a J=>by rw [k7] at J;simp only [X0] at J;subst J;simp,
      ⟨fun j c v q1 _ q3=>absurd (z j c q1) q3,fun j j' c c2 v v' _ q1 _ q3=>absurd (z j c q1) q3,fun a cs hq=>by
       simp only [X0,X7] at hq;obtain ⟨rfl,rfl⟩:=hq;exact ⟨by simp,D,fun f x hx=>by rw [M0,W8];exact hv.get T hx⟩⟩⟩ (by intro j hj;have:=V j hj;omega)
    exact K _ _ s _ _ ⟨_,_,Z.slot (a:=.own H.length) (by rw [VR,k7]) ⟨by intro i L;simp [AV.ids] at L;subst L;simp,trivial⟩⟩
   ·cases q
  ·cases q
 ·cases q
def ga0 {R:Type} {r:R} {c:Call} {sx xx:Operand} {t:TypeId} {i s:Nat} (hd:dec ops k n F'=some o) (hop:o.op=.call c) (hc:c.callee=.builtin .append) (l:c.args.toList= [sx,xx]) (hat:c.argTypes.toList= [t,t])
  (hx:aev T F sx=some (.own i)) (hy:aev T F xx=some (.own s)) {K0:AV T.U->List (Ent T.U)->Option R} (p:kz9 P t H i s K0=some r) (h:Sim T w0 S0 ⟨F,H⟩ F' w S φ)
  (K: ∀b H1,K0 b H1=some r->zp6 P ops Q (k+1) n ds w0 S0 (⟨za9 T F o.dst b,H1⟩:St T)):WR P ops Q k n ds F' w:=by
 obtain ⟨X,h1,h2⟩:=v8 h.fr hx;obtain ⟨Y,h3,h4⟩:=v8 h.fr hy;rw [VR] at h2 h4;subst h2;subst h4;unfold kz9 at p;split at p<;>try (cases p;done)
 rename_i e sz by_ zc e1 d fe1 xs e2 d2 fe2 ys he L z;split at p<;>try (cases p;done)
 rename_i hdd;subst hdd;split at p<;>try (cases p;done)
 rename_i g;simp only [X3,V4] at g;obtain ⟨b1,b2,b3,b4,b5,b6,b7⟩:=g;have b1:=X1 b1;subst b1;have b4:=X1 b4;subst b4;have b5:=X1 b5;subst b5;have b6:=vf5 b6;subst b6;have hs1:=Y1 b2;have hby:=Y1 b3;have W:i≠s:=fun e=>by subst e;rw [V7] at b7;cases b7
 obtain ⟨hle,hK⟩:=u9 p;clear p;obtain ⟨B,vals,o1,o2,o3,o4,o5⟩:=h.ents i _ L;obtain ⟨B2,D,p1,p2,p3,p4,p5⟩:=h.ents s _ z;have J:=yz0 hd hop hc l hat;rw [k8 h1,k8 h3] at J;rw [o2] at o1 J;rw [p2] at p1 J;have hle':xs.length+ys.length<=140737488355328:=W7 (Nat.le_mul_of_pos_right _ hby) hle;have hone: ∀u∈D,u.oneCell'=true:=fun u hu=>by
  obtain ⟨j,hj⟩:=Y9.1 hu;have hjl:=(X2.1 hj).1;rw [p1.len] at hjl;have hcl:(ys.flatMap (T.cells d2)).length=ys.length*T.size d2:=za7 (T.len d2) ys;exact ((p5.cl j _ u (Y0 (by rw [hcl];exact hjl)) hj (fun h=>h)).1).one
 refine WR.append o1 p1.rg J he p1.len hs1 hone o3 (by omega) hle (fun M=>p1.nil0 M) fun v cap' w' g1 g2 g3=>?_;have m: ∀b∈zc7 (φ i).ad,∃a,(φ i).ad=some a/\a.block=b:=fun b g=>by
  cases x:(φ i).ad with
  |none=>rw [x] at g;cases g
  |some a=>rw [x] at g;simp only [zc7,Q5] at g;exact ⟨a,rfl,g.symm⟩
 have q4: ∀b∈zc7 (φ i).ad,b∈S:=fun b g=>by obtain ⟨a,l,rfl⟩:=m b g;exact o4 a l
 have qc: ∀b∈zc7 (φ i).ad,b∈S0.chg\/w0.heap.size<=b:=fun b g=>by obtain ⟨a,l,rfl⟩:=m b g;exact (h.lives i _ L rfl a (.inl l)).2
 have hS1: ∃S1:List Nat,(∀b∈S,b∈S1)/\(∀b∈S1,b∈S\/(w.heap.size<=b/\b<w'.heap.size))/\(∀q,v=some q->q.block∈S1)/\ ∀q,v=some q->w.heap.size<=q.block\/q.block∈zc7 (φ i).ad:=by
  cases v with
  |none=>exact ⟨S,fun _ h=>h,fun _ h=>.inl h,fun q h=>(by cases h),fun q h=>(by cases h)⟩
  |some q=>
   have hlt:q.block<w'.heap.size:=by
    rcases g1.ge with M|M
    ·cases M
    ·exact M.2
   have A:w.heap.size<=q.block\/q.block∈zc7 (φ i).ad:=by
    rcases g3 with g3|g3
    ·right;rw [<-g3];simp [zc7]
    ·left;exact g3
   refine ⟨q.block::S,fun b g=>Z4 _ g,fun b g=>?_,fun q' h=>by simp only [X0] at h;subst h;simp,fun q' h=>by simp only [X0] at h;subst h;exact A⟩;rcases Z0.1 g with rfl|g
   ·rcases A with A|A
    ·exact .inr ⟨A,hlt⟩
    ·exact .inl (q4 _ A)
   ·exact .inl g
 obtain ⟨S1,s1,s2,s3,s4⟩:=hS1;have s2': ∀b∈S1,b∈S\/w.heap.size<=b:=fun b g=>(s2 b g).imp id And.left;have Z: ∀(j:Nat) (f:Ent T.U),((H.set i .gone).set s .gone)[j]?=some f->f.live=true->j≠i/\j≠s/\H[j]?=some f:=fun j f E G=>by
  obtain ⟨k1,E⟩:=zr0 E G;obtain ⟨k2,E⟩:=zr0 E G;exact ⟨k2,k1,E⟩
 have o6:=(h.drop i).drop s;have d1:=o5.chg T g2 q4 s2' (fun b g M hm=>by obtain ⟨a,l,e⟩:=m b hm;exact M a l e);have d2':=p5.chg T g2 q4 s2' (fun b g M hm=>by
  obtain ⟨a,l,e⟩:=m b hm;exact h.apart i s _ _ L z rfl rfl W a ⟨b,0,none⟩ (.inl l) (.inr g) e)
 obtain ⟨fam,I⟩: ∃fam:List Nat,∀b,b∈fam↔(b∈(φ i).xs\/b∈(φ s).xs)/\ ∀a,v=some a->a.block≠b:=by
  cases v with
  |none=>exact ⟨(φ i).xs++(φ s).xs,fun b=>by simp⟩
  |some a=>exact ⟨((φ i).xs++(φ s).xs).filter (fun b=> !(a.block==b)),fun b=>by
   simp only [W0,X4,V4,beq_eq_false_iff_ne,X0,forall_eq',ne_eq]⟩
 have y: ∀b,b∈(φ i).xs\/b∈(φ s).xs->b∈S/\(b∈S0.chg\/w0.heap.size<=b)/\ ∀(j:Nat) (f:Ent T.U),((H.set i .gone).set s .gone)[j]?=some f->f.live=true-> ∀a,At (φ j) a->a.block≠b:=by
  rintro b (g|g)
  ·have:=h.lives i _ L rfl ⟨b,0,none⟩ (.inr g);exact ⟨this.1,this.2,fun j f E G a l e=>by obtain ⟨k1,_,k3⟩:=Z j f E G;exact h.apart j i _ _ k3 L G rfl k1 a ⟨b,0,none⟩ l (.inr g) e⟩
  ·have:=h.lives s _ z rfl ⟨b,0,none⟩ (.inr g);exact ⟨this.1,this.2,fun j f E G a l e=>by obtain ⟨_,k2,k3⟩:=Z j f E G;exact h.apart j s _ _ k3 z G rfl k2 a ⟨b,0,none⟩ l (.inr g) e⟩
 have N:=o6.addG2 g2 q4 qc (fun j f E G a l hm=>by
   obtain ⟨k1,_,k3⟩:=Z j f E G;obtain ⟨q,x,e⟩:=m _ hm;exact h.apart j i _ _ k3 L G rfl k1 a q l (.inl x) e.symm) s1 s2 (r:=⟨v,xs.length+ys.length,cap',fam⟩)
  (fun a l=>by
   rcases l with l|l
   ·exact (s4 a l).imp id .inl
   ·have:=y _ ((I _).1 l).1;exact .inr (.inr ⟨this.2.1,this.2.2⟩))
  (fun a l=>by
   rcases l with l|l
   ·exact s3 a l
   ·exact s1 _ (y _ ((I _).1 l).1).1) (e:=.drow _ d2 fe1 (xs++ys) none)
  ⟨B,vals++D,by rw [k7];exact g1,by rw [k7,X9],W7 o3 g2.size,fun q x=>by rw [k7] at x;exact s3 q x,
   by
    rw [k7];refine d1.append d2' o1.len (fun b g=>?_) fun b g hb2=>h.apart i s _ _ L z rfl rfl W ⟨b,0,none⟩ ⟨b,0,none⟩ (.inr g) (.inr hb2) rfl;have O: ∀a,v=some a->a.block≠b:=fun a l e=>by
     rcases s4 a l with hg|hg
     ·have:b∈S:=by rcases g with g|g;exact (y b (.inl g.1)).1;exact (y b (.inr g.1)).1
      have:=(h.own b this).2;omega
     ·obtain ⟨q,x,e2⟩:=m _ hg;rcases g with g|g
      ·exact g.2 q x (e2.trans e)
      ·exact h.apart i s _ _ L z rfl rfl W q ⟨b,0,none⟩ (.inl x) (.inr g.1) (e2.trans e)
    exact ⟨(I b).2 ⟨g.imp And.left And.left,O⟩,O⟩⟩ (by intro q x;cases x)
 have V:((H.set i Ent.gone).set s Ent.gone).length=H.length:=by simp
 rw [V] at N;refine K _ _ hK _ _ ⟨_,_,N.slot (a:=.own H.length) (by rw [VR,k7]) ⟨?_,trivial⟩⟩;intro q x;simp [AV.ids] at x;subst x;rw [X9,V];simp
def gf0 {R:Type} {r:R} {t:TypeId} {l c:Int} {K:AV T.U->List (Ent T.U)->Option R} (h:mkN P t H l c K=some r): ∃a e,K a (H++ [e])=some r/\ ∀ {R':Type} (K':AV T.U->List (Ent T.U)->Option R'),mkN P t H l c K'=K' a (H++ [e]):=by
 unfold mkN at h;split at h<;>try (cases h;done)
 rename_i h1;simp only at h;split at h<;>try (cases h;done)
 rename_i h2;obtain ⟨h3,h⟩:=u9 h;exact ⟨_,_,h,fun K'=>by simp only [mkN,h1,h2,if_pos h3]⟩
def wa5 (b off j:Nat):(⟨b,off,none⟩:Addr).add j=⟨b,off+j,none⟩:=by unfold Addr.add;split<;>simp_all
def qh3 {t:TypeId} {x y:Operand} (hd:dec ops k n F'=some o) (hop:o.op=.makeSlice t x y):yh1 ops k n F'=some (o.dst,t,evD F' x,evD F' y):=by
 unfold yh1;rw [hd];cases o;simp only at hop;subst hop;rfl
def wc2 {R:Type} {r:R} {t:TypeId} {x y:Operand} (hd:dec ops k n F'=some o) (hop:o.op=.makeSlice t x y) {kl kc:IntKind} {l c:Int} (hx:aev T F x=some (.cell ⟨.int kl,l⟩)) (hy:aev T F y=some (.cell ⟨.int kc,c⟩)) {K0:AV T.U->List (Ent T.U)->Option R} (hK0:mkN P t H l c K0=some r) (h:Sim T w0 S0 ⟨F,H⟩ F' w S φ)
  (K: ∀b H1,K0 b H1=some r->zp6 P ops Q (k+1) n ds w0 S0 (⟨za9 T F o.dst b,H1⟩:St T)):WR P ops Q k n ds F' w:=by
 obtain ⟨X,h1,h2⟩:=v8 h.fr hx;obtain ⟨Y,h3,h4⟩:=v8 h.fr hy;have e1:=za3 h2;subst e1;have e2:=za3 h4;subst e2;have hdm:=qh3 hd hop;rw [k8 h1,k8 h3] at hdm;unfold mkN at hK0;split at hK0
 case h_2=>cases hK0
 rename_i e sz by_ zc he;simp only at hK0;split at hK0
 case h_2=>cases hK0
 rename_i hb;simp only [X3] at hb;obtain ⟨hj,hK⟩:=u9 hK0;have hs1:=Y1 hb.1;have hc:=Y1 hb.2.1;have hby:=Y1 hb.2.2.1;have hna:=hb.2.2.2;obtain ⟨i,zv,hu,hin,hzv,hsi,hbi,hzc,hzl⟩:=zd2 he;refine WR.make hdm he l.toNat c.toNat (by omega) (by omega) (by omega) (by omega) (by omega) fun g w' hN=>?_;have hv:VRL T w' (g::S) (zw1 φ H.length ⟨some ⟨g,0,none⟩,0,0,[]⟩) ((List.range (c.toNat*sz)).map fun j=>yi9 T (zc[j%sz]!)) (madeCells zc (c.toNat*sz)).toList:=by
  unfold madeCells;rw [hzl,M7,T5];generalize List.range (c.toNat*sz)=rr;induction rr with
  |nil=>trivial
  |cons a r ih=>exact ⟨ye2 T _,ih⟩
 have hadd:=h.add (r:=⟨some ⟨g,0,none⟩,0,0,[]⟩) hN.chg hN.fresh hN.blk.lt (fun a ha=>ya0 ha) (e:=.blk e ((List.range (c.toNat*sz)).map fun j=>yi9 T (zc[j%sz]!)))
  ⟨g,_,by rw [k7],hN.blk,U1 ..,BR.of T hv hna⟩ (by
   intro j hj;obtain ⟨a,ha,hia⟩:=zm0 hj;obtain ⟨_,_,rfl⟩:=U0.1 ha;rw [yk3] at hia;cases hia)
 refine K _ _ hK _ _ ⟨_,_,hadd.slot (a:=.asl H.length 0 sz c.toNat 0 l.toNat) ⟨g,⟨g,0,none⟩,by rw [k7],by simp,by omega,.inr (by simp)⟩ ⟨by intro i hi;simp [AV.ids] at hi;subst hi;simp,trivial⟩⟩
def ga2 {R:Type} {r:R} {c:Call} {sx xx:Operand} {t:TypeId} {i sz nn m j s2 q:Nat} (hd:dec ops k n F'=some o) (hop:o.op=.call c) (hc:c.callee=.builtin .append) (ha:c.args.toList= [sx,xx]) (hat:c.argTypes.toList= [t,t])
  (hx:aev T F sx=some (.asl i 0 sz nn 0 m)) (hy:aev T F xx=some (.sl j s2 0 q)) {K0:AV T.U->List (Ent T.U)->Option R} (hK0:ga1 P t H i sz nn m j q K0=some r) (h:Sim T w0 S0 ⟨F,H⟩ F' w S φ)
  (K: ∀b H1,K0 b H1=some r->zp6 P ops Q (k+1) n ds w0 S0 (⟨za9 T F o.dst b,H1⟩:St T)):WR P ops Q k n ds F' w:=by
 obtain ⟨X,h1,h2⟩:=v8 h.fr hx;obtain ⟨Y,h3,h4⟩:=v8 h.fr hy;unfold ga1 at hK0;split at hK0<;>try (cases hK0;done)
 rename_i e s by_ zc ei ci ej cj he hi hj;split at hK0<;>try (cases hK0;done)
 rename_i hb;simp only [X3,V4] at hb;obtain ⟨⟨b1,b2,b3,b4⟩,⟨b5,b6,b7⟩,b8,b9,b10⟩:=hb;have b1:=X1 b1;subst b1;have b2:=X1 b2;subst b2;have b3:=Y1 b3;have b4:=Y1 b4;have b6:=X1 b6;have b7:=X1 b7;have hne:i≠j:=fun e=>by subst e;rw [V7] at b5;cases b5
 obtain ⟨g,ad,q1,rfl,q3,q4⟩:=h2;obtain ⟨ad2,rfl,p2,p3,p4,p5⟩:=h4;obtain ⟨g1,c1,i1,i2,i3,i4⟩:=h.ents i _ hi;obtain ⟨g2,c2,j1,j2,j3,j4⟩:=h.ents j _ hj;rw [q1] at i1;simp only [X0,Addr.mk.injEq,and_true] at i1;subst i1;have hcl1:c1.toList.length=ci.length:=((i4.vrl T b8).len T).symm;have hcl2:c2.toList.length=cj.length:=((j4.vrl T b10).len T).symm;rw [J1] at hcl1 hcl2;have had:ad=⟨g,0,none⟩:=by
  rcases q4 with q4|q4
  ·omega
  ·rw [q4];simp
 subst had;have had2:ad2=some ⟨g2,0,none⟩:=by
  rcases p3 with p3|⟨g',p3,p6⟩
  ·omega
  ·rw [j1] at p3;simp only [X0,Addr.mk.injEq,and_true] at p3;subst p3;rw [p6];simp
 subst had2;have hda:=yz0 hd hop hc ha hat;rw [k8 h1,k8 h3] at hda;obtain ⟨oo,hdec,hdst,hrun⟩:=yj0 hda;obtain ⟨inf,zv,hu,hin,hzv,hsi,hbi,hzc,hzl⟩:=zd2 he;have hnews: ∀x v,c2.toList[x]?=some v->w.cell? ((⟨g2,0,none⟩:Addr).add x)=some v:=fun x v hv=>by
  rw [wa5];have:=(j2.rg _ rfl x v hv).2;simpa [bk,of] using this
 have hone: ∀u∈c2.toList,u.oneCell'=true:=by
  have:=ya3 b9 (j4.vrl T b10);rwa [Y8] at this
 have hfit:m*inf.size+c2.toList.length<=c1.size:=by
  rw [J1,hcl2,b7,hcl1,b6,hsi,<-Nat.add_mul];exact Q9 _ b4
 have hr:=run_append_room (P:=P) w t o.type ei inf hu hin g m (nn-0) c1 i2 ⟨g2,0,none⟩ q ((φ j).cap-0) c2.toList (by rw [J1,hcl2,b7,hsi]) hnews hone (by omega) hfit;rw [hd] at hdec;rw [<-Option.some.inj hdec] at hrun;have hchg:Chg [g] w (w.setRow g (c1.toList.take (m*inf.size)++c2.toList++c1.toList.drop (m*inf.size+c2.toList.length)).toArray):=⟨rfl,rfl,rfl,by simp,fun k _ hk=>setRow_other w g k _ (fun e=>hk (by simp [e]))⟩;refine .val hd (v:=.slice (some ⟨g,0,none⟩) (m+q) (nn-0)) (by rw [hrun,hr];rfl) ?_;have hT: ∀b∈ [g],b∈S:=fun b hb=>by rw [Q5.1 hb];exact i3
 have hv:VRL T w S φ (ci.take (m*inf.size)++cj++ci.drop (m*inf.size+q*inf.size)) (c1.toList.take (m*inf.size)++c2.toList++c1.toList.drop (m*inf.size+c2.toList.length)):=by
  have:c2.toList.length=q*inf.size:=by rw [J1,hcl2,b7,hsi]
  rw [this];exact (((i4.vrl T b8).take T _).append (j4.vrl T b10)).append ((i4.vrl T b8).drop T _)
 have hna:(ci.take (m*inf.size)++cj++ci.drop (m*inf.size+q*inf.size)).all (za6 T)=true:=by
  rw [Y8] at b8 b10⊢;intro a ha;rcases X4.1 ha with ha|ha
  ·rcases X4.1 ha with ha|ha
   ·exact b8 a (J8 ha)
   ·exact b10 a ha
  ·exact b8 a (List.mem_of_mem_drop ha)
 have hup:=h.upd hi rfl hchg (fun b hb=>⟨⟨g,0,none⟩,.inl q1,(Q5.1 hb).symm⟩) (e:=.blk ei (ci.take (m*inf.size)++cj++ci.drop (m*inf.size+q*inf.size)))
  ⟨g,_,q1,setRow_heap w g c1 _ ei _ i2,i3,BR.of T (by simpa using hv.chg T hchg hT (fun _ h=>.inl h)) hna⟩ (fun x hx=>by
   obtain ⟨a,ha,hxa⟩:=zm0 hx;rcases X4.1 ha with ha|ha
   ·rcases X4.1 ha with ha|ha
    ·exact h.eids i _ hi x (zd7 (J8 ha) x hxa)
    ·exact h.eids j _ hj x (zd7 ha x hxa)
   ·exact h.eids i _ hi x (zd7 (List.mem_of_mem_drop ha) x hxa)) (fun e1 t xs h=>by cases h)
 have hd2:=hup.drop j;rw [hsi] at hd2;have hok:okA ((H.set i (.blk ei (ci.take (m*s)++cj++ci.drop (m*s+q*s)))).set j .gone) (.asl i 0 s nn 0 (m+q):AV T.U):=by
  refine ⟨fun x hx=>?_,trivial⟩;have e:x=i:=by simpa [AV.ids] using hx
  rw [e];simpa using (X2.1 hi).1
 rw [hsi];exact K _ _ hK0 _ _ ⟨_,_,hd2.slot (a:=.asl i 0 s nn 0 (m+q)) ⟨g,⟨g,0,none⟩,q1,rfl,by omega,.inr (by simp)⟩ hok⟩
end
section
variable {T:Tab} (P:Program) (C:Ctx T) {R:Type}
def zs2 (o:Oper) (st:St T) (K:St T->Option R):Option (Option R):=
 match o.op with
 | .buildSlice t len ps=>match C.dr t,zs0 T st.F ps.toList with
  |some (_,[]),some l=>match yt1 T P t len l with
   |some (e,sz,cs)=>some (K ⟨za9 T st.F o.dst (.asl st.H.length 0 sz len 0 len),st.H++ [.blk e cs]⟩)
   |none=>some none
  |some (d,f::fe),some l=>some (bsD P d (f::fe) t len st.H l fun a H=>K ⟨za9 T st.F o.dst a,H⟩)
  |_,_=>none
 | .makeSlice t x y=>match C.ty t,aev T st.F x,aev T st.F y with
  |none,some (.cell ⟨.int _,l⟩),some (.cell ⟨.int _,c⟩)=>some (mkN P t st.H l c fun a H=>K ⟨za9 T st.F o.dst a,H⟩)
  |_,_,_=>none
 | .call c=>match c.callee,c.args.toList,c.argTypes.toList with
  | .builtin .append,[sx,xx],[t,t']=>match C.dr t,aev T st.F sx,aev T st.F xx with
   |some _,some (.own i),some (.own i2)=>match Nat.beq t t' with
    |true=>some (kz9 P t (zp0 T (zp0 T st.H i) i2) i i2 fun a H=>K ⟨za9 T st.F o.dst a,H⟩)
    |false=>none
   |none,some (.asl i 0 sz n 0 m),some (.sl j _ 0 q)=>match Nat.beq t t' with
    |true=>some (ga1 P t st.H i sz n m j q fun a H=>K ⟨za9 T st.F o.dst a,H⟩)
    |false=>none
   |_,_,_=>none
  |_,_,_=>none
 |_=>none
def zg7 (o:Oper) (st:St T) (K:St T->Option R) (Kp:AV T.U->St T->Option R):Option R:=
 match zo2 P C o st K with
 |some z=>z
 |none=>match zs2 P C o st K with
  |some z=>z
  |none=>zm7 P C o st K Kp
end
section
variable {T:Tab} {P:Program} {C:Ctx T} {w:World} {S:List Nat} {φ:Nat->RA} {w0:World} {S0:Ow} {F:AF T} {H:List (Ent T.U)} {F':PF}
variable {ops:Array Oper} {Q:Exit->Act->World->Prop} {k n:Nat} {ds:List Deferred} {o:Oper}
def jb6 {R:Type} {r:R} (hd:dec ops k n F'=some o) {K:St T->Option R} (hz:zs2 P C o ⟨F,H⟩ K=some (some r)) (h:Sim T w0 S0 ⟨F,H⟩ F' w S φ)
  (HK: ∀st,K st=some r->zp6 P ops Q (k+1) n ds w0 S0 st):WR P ops Q k n ds F' w:=by
 unfold zs2 at hz;split at hz<;>try (cases hz;done)
 ·rename_i t len ps hop;split at hz<;>try (cases hz;done)
  ·rename_i d l hdr hl;split at hz
   ·rename_i e sz cs hb;refine ja7 hd hop hl hb h (fun g w' S' φ' hp=>?_) ⟨by intro i hi;simp [AV.ids] at hi;subst hi;simp,trivial⟩ (HK _ (X5 hz));exact ⟨g,⟨g,0,none⟩,by rw [hp],rfl,by omega,.inr (by simp)⟩
   ·cases hz
  ·rename_i d f fe l hdr hl;exact wb0 hd hop hl (X5 hz) h fun a H1 ha=>HK _ ha
 ·rename_i t x y hop;split at hz<;>try (cases hz;done)
  rename_i kl l kc c hty hx hy;exact wc2 hd hop hx hy (X5 hz) h fun a H1 ha=>HK _ ha
 ·rename_i c hop;split at hz<;>try (cases hz;done)
  rename_i sx xx t t' hc ha hat;split at hz<;>try (cases hz;done)
  ·rename_i dr i i2 hdr hx hy;split at hz<;>try (cases hz;done)
   rename_i hb;have:=X1 hb;subst this;obtain ⟨S1,φ1,h1⟩:=ya1 (k:=i2) (ya1 (k:=i) ⟨S,φ,h⟩);exact ga0 hd hop hc ha hat hx hy (X5 hz) h1 fun a H1 ha=>HK _ ha
  ·rename_i i sz nn m j s2 q hdr hx hy;split at hz<;>try (cases hz;done)
   rename_i hb;have:=X1 hb;subst this;exact ga2 hd hop hc ha hat hx hy (X5 hz) h fun a H1 ha=>HK _ ha
def jb5 {R:Type} {r:R} (hE:zb2 T P C.E) (hd:dec ops k n F'=some o) {K:St T->Option R} {Kp:AV T.U->St T->Option R} (hs:zg7 P C o ⟨F,H⟩ K Kp=some r) (h:Sim T w0 S0 ⟨F,H⟩ F' w S φ)
  (HK: ∀st,K st=some r->zp6 P ops Q (k+1) n ds w0 S0 st) (HP: ∀a st,Kp a st=some r->yp7 Q n ds w0 S0 a st):WR P ops Q k n ds F' w:=by
 unfold zg7 at hs;split at hs
 ·rename_i z hz;exact jb7 hd hz hs h HK
 ·split at hs
  ·rename_i z hz;subst hs;exact jb6 hd hz h HK
  ·exact qj2 hE hd hs h HK HP
end
end Go.X
namespace Go.X
open Go.RowKit Go.V
def j9 {R:Type} (c:Bool) (x y:Option R):Option R:=if c=true then x else y
def zo6 {R:Type} {c:Bool} {x y:Option R} {r:R} (h:j9 c x y=some r):(c=true/\x=some r)\/(c=false/\y=some r):=by
 unfold j9 at h;cases c
 ·exact .inr ⟨rfl,by simpa using h⟩
 ·exact .inl ⟨rfl,by simpa using h⟩
section
variable {T:Tab} (P:Program) (C:Ctx T) {R:Type}
def kz1 (_:Program) (_:Ctx T) (_:Oper) (_:St T) (_:St T->Option R):Option (Option R):=none
end
section
variable {T:Tab} {P:Program} {C:Ctx T} {w w':World} {S S':List Nat} {φ φ':Nat->RA} {w0:World} {S0:Ow} {F:AF T} {H:List (Ent T.U)} {F':PF}
variable {ops:Array Oper} {Q:Exit->Act->World->Prop} {k n:Nat} {ds:List Deferred} {o:Oper}
def qj3 {R:Type} {r:R} (hd:dec ops k n F'=some o) {K:St T->Option R} (hz:kz1 P C o ⟨F,H⟩ K=some (some r)) (h:Sim T w0 S0 ⟨F,H⟩ F' w S φ)
  (HK: ∀st,K st=some r->zp6 P ops Q (k+1) n ds w0 S0 st):WR P ops Q k n ds F' w:=by
 unfold kz1 at hz;cases hz
end
end Go.X
