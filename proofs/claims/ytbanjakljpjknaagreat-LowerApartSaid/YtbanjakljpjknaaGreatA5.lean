import Derived.Test.YtbanjakljpjknaaGreatA4
import Derived.Laws.BytesString
import Derived.Laws.IdiomStrings
set_option linter.defProp false
namespace Go.X
open Go.RowKit Go.V
section
variable {T:Tab} {P:Program} {C:Ctx T} {w w':World} {S S':List Nat} {φ φ':Nat->RA} {w0:World} {S0:Ow} {F:AF T} {H:List (Ent T.U)} {F':PF}
variable {ops:Array Oper} {Q:Exit->Act->World->Prop} {k n:Nat} {ds:List Deferred} {o:Oper}
def yu3 (Q:Exit->Act->World->Prop) (n:Nat) (ds:List Deferred) (w0:World) (S0:Ow) (a:AV T.U) (st:St T):Prop:=
 ∀F1 d S1 b v,Sim T w0 S0 st F1 d S1 b->VR T d S1 b a v->okA st.H a-> ∀c,Fr n ds F1 c->Q (.panic [{v:=v,recovered:=false}]) c d
def VRL.append: ∀ {aS bs:List (AV T.U)} {us vs:List Value},VRL T w S φ aS us->VRL T w S φ bs vs->VRL T w S φ (aS++bs) (us++vs)
 | [],_,[],_,_,h=>h
 | [],_,_::_,_,h,_=>h.elim
 |_::_,_,[],_,h,_=>h.elim
 |_::_,_,_::_,_,h,h2=>⟨h.1,VRL.append h.2 h2⟩
def ym6: ∀(aS bs:List (AV T.U)),za1 (aS++bs)=za1 aS++za1 bs
 | [],_=>rfl
 |a::r,bs=>by rw [M6,za1,ym6 r bs,za1,Q2]
def vr5: ∀ {aS:List (AV T.U)},aS.all zj5=true->(∀i∈za1 aS,i<H.length)-> ∀a∈aS,okA H a
 | [],_,_,a,ha=>by cases ha
 |b::r,h,hi,a,ha=>by
  simp only [V6,X3] at h;rw [za1] at hi;rcases Z0.1 ha with rfl|ha
  ·exact ze6 h.1 fun i hj=>hi i (X4.2 (.inl hj))
  ·exact vr5 h.2 (fun i hj=>hi i (X4.2 (.inr hj))) a ha
def yr9 {f} (h:zs6 P f=true) (args w):(callFunc f args).run P w=.ok (.enter f args) w:=by
 unfold zs6 at h;split at h
 ·rename_i fn a;simp only [X3,V7,beq_eq_false_iff_ne,ne_eq] at h;have b:fn.body≠none:=by intro e;rw [e] at h;cases h.2
  simp [callFunc,a,h.1,b]
 ·cases h
def jn5 {c:Call} {f:Operand} {g:FuncId} {first caps aS:List (AV T.U)} (hop:o.op=.call c) (hc:c.callee=.value f) (hf:aev T F f=some (.fn (.func g) first caps)) (ha:zx4 T F c.args.toList=some aS)
  (he:zs6 P g=true) (hall:(first++aS++caps).all zj5=true) (h:Sim T w0 S0 ⟨F,H⟩ F' w S φ):
  ∃vs:List Value,VRL T w S φ (first++aS++caps) vs/\(∀a∈first++aS++caps,okA H a)/\ ∀w1,(execOp (evD F') o).run P w1=.ok (.enter g vs.toArray) w1:=by
 obtain ⟨X,h1,va,vb,rfl,h3,h4⟩:=u0 h.fr hf;have h5:=yf3 h.fr ha;have hids: ∀i∈za1 (first++aS++caps),i<H.length:=by
  intro i hi;rw [ym6,ym6] at hi;have hfi:=(zd4 h hf).1;rcases X4.1 hi with hi|hi
  ·rcases X4.1 hi with hi|hi
   ·exact hfi i (by rw [AV.ids];exact X4.2 (.inl hi))
   ·exact jt5 h ha i hi
  ·exact hfi i (by rw [AV.ids];exact X4.2 (.inr hi))
 refine ⟨_,(h3.append h5).append h4,vr5 hall hids,fun w1=>?_⟩;simp [execOp,hop,resolve,hc,u9 h1,Deferred.ofValue,invoke,yr9 he]
def kr8 {R:Type} {r:R} {c:Call} {f:Operand} {g:FuncId} {first caps aS:List (AV T.U)} {cs:CallSpec T} (hd:dec ops k n F'=some o) (hop:o.op=.call c) (hc:c.callee=.value f) (hf:aev T F f=some (.fn (.func g) first caps)) (ha:zx4 T F c.args.toList=some aS)
  (he:zs6 P g=true) (hs:zc0 T P g cs) (hall:(first++aS++caps).all zj5=true) {K0 Kp:AV T.U->List (Ent T.U)->Option R} (hK0:cs.call (first++aS++caps) H K0 Kp=some r) (h:Sim T w0 S0 ⟨F,H⟩ F' w S φ)
  (K: ∀b H1,K0 b H1=some r->zt3 P ops Q (k+1) n ds w0 S0 (⟨zc2 T F o.dst b,H1⟩:St T)) (Kpan: ∀b H1,Kp b H1=some r->yu3 Q n ds w0 S0 b (⟨F,H1⟩:St T)):WR P ops Q k n ds F' w:=by
 obtain ⟨vs,h1,h2,h3⟩:=jn5 hop hc hf ha he hall h;refine .enter (f:=g) (args:=vs.toArray) hd (h3 w) (hs _ H K0 Kp r hK0 w0 S0 F F' w S φ h _ h1 h2) ?_ ?_ ?_
 ·rintro v w'' ⟨a,H1,g1,S1,φ1,g2,g3,g4⟩
  exact K a H1 g1 _ _ ⟨S1,φ1,g2.slot g3 g4⟩
 ·rintro ch w'' ⟨a,H1,g1,v,rfl,S1,φ1,g2,g3,g4⟩ act hact
  exact Kpan a H1 g1 _ _ _ _ _ g2 g3 g4 act hact
 ·intro w'' hR;exact hR.elim
def qc2 (a:IntKind) (z:Int):okA H (cI T a z):=⟨fun i b=>(by cases b),trivial⟩
def kc5 {t a z} (d:lenOf P t H a=some z) (h:Sim T w0 S0 ⟨F,H⟩ F' w S φ) {v} (c:VR T w S φ a v) (ty q):(Builtin.len_ #[t] ty #[v]).run P q=.ok (.int .i64 z) q:=by
 unfold lenOf at d;split at d
 ·rename_i e i;split at d
  ·rename_i m b;simp only [X0] at d;subst d;have j: ∃ad cap,v=.slice ad m cap:=by
    unfold lenA at b;split at b
    ·simp only [X0] at b;subst b;have c:CR T w S _ _ v:=c;cases c;exact ⟨_,_,rfl⟩
    ·split at b
     ·rename_i r s xs l;simp only [X0] at b;subst b;rw [VR] at c;subst c;obtain ⟨B,f,_,p,_⟩:=h.ents _ _ l;rw [p];exact ⟨_,_,rfl⟩
     ·rename_i l;simp only [X0] at b;subst b;rw [VR] at c;subst c;obtain ⟨B,f,_,p,_⟩:=h.ents _ _ l;rw [p];exact ⟨_,_,rfl⟩
     ·cases b
    ·simp only [X0] at b;subst b;obtain ⟨ad,rfl,_⟩:=c;exact ⟨_,_,rfl⟩
    ·simp only [X0] at b;subst b;obtain ⟨g,ad,_,rfl,_⟩:=c;exact ⟨_,_,rfl⟩
    ·simp only [X0] at b;subst b;rw [VR] at c;subst c;exact ⟨_,_,rfl⟩
    ·cases b
   obtain ⟨ad,cap,rfl⟩:=j;simp [Builtin.len_,run_underlying i,goInt]
  ·cases d
 ·rename_i i;split at d
  ·simp only [X0] at d;subst d;have:=zq4 c;subst this;simp [Builtin.len_,run_underlying i,goInt]
  ·cases d
 ·cases d
def ku8 {aS:List (AV T.U)} {a:AV T.U} (ha:minA T aS=some a) {vs:List Value} (hv:VRL T w S φ aS vs) (t:Array TypeId) (ty:TypeId): ∃v,(∀w1,(Builtin.min_ t ty vs.toArray).run P w1=.ok v w1)/\VR T w S φ a v/\okA H a:=by
 unfold minA at ha;split at ha
 ·simp only [X0] at ha;subst ha
  match vs,hv with
  | [v],hv=>have:=zb0 hv.1;subst this;exact ⟨_,fun w1=>by simp [Builtin.min_],VR.int _ _,qc2 _ _⟩
 ·split at ha
  ·rename_i hk;have:=zb6 hk;subst this;simp only [X0] at ha;subst ha
   match vs,hv with
   | [u,v],hv=>have:=zb0 hv.1;subst this;have:=zb0 hv.2.1;subst this;exact ⟨_,fun w1=>by simp [Builtin.min_,Builtin.min2,yi5],VR.int _ _,qc2 _ _⟩
  ·cases ha
 ·cases ha
def ku6 {aS:List (AV T.U)} {a:AV T.U} (ha:maxA T aS=some a) {vs:List Value} (hv:VRL T w S φ aS vs) (t:Array TypeId) (ty:TypeId): ∃v,(∀w1,(Builtin.max_ t ty vs.toArray).run P w1=.ok v w1)/\VR T w S φ a v/\okA H a:=by
 unfold maxA at ha;split at ha
 ·simp only [X0] at ha;subst ha
  match vs,hv with
  | [v],hv=>have:=zb0 hv.1;subst this;exact ⟨_,fun w1=>by simp [Builtin.max_],VR.int _ _,qc2 _ _⟩
 ·split at ha
  ·rename_i hk;have:=zb6 hk;subst this;simp only [X0] at ha;subst ha
   match vs,hv with
   | [u,v],hv=>have:=zb0 hv.1;subst this;have:=zb0 hv.2.1;subst this;exact ⟨_,fun w1=>by simp [Builtin.max_,Builtin.max2,zq9],VR.int _ _,qc2 _ _⟩
  ·cases ha
 ·cases ha
def zg6 {α} {a:Array α} {x} (h:a.toList= [x]):a= #[x]:=by rw [<-Array.toArray_toList (xs:=a),h]
def qt7 {a b t e} (h:jc2 T P a t e=some b): ∀i∈b.ids,i∈a.ids:=by
 unfold jc2 at h;split at h
 ·split at h
  ·cases h
  ·split at h
   ·split at h
    ·simp only [X0] at h;subst h;intro i d;simpa [AV.ids,za1] using d
    ·simp only [X0] at h;subst h;intro i d;simpa [AV.ids] using d
   ·split at h
    ·rename_i z c;simp only [X0] at h;subst h;unfold vl9 at c;split at c
     ·split at c
      ·simp only [X0] at c;subst c;intro i d;simp [AV.ids,za1,ql5] at d
      ·cases c
     ·cases c
    ·cases h
 ·cases h
def qt8 {a b t xt r} (h:jc2 T P a t r=some b) {v} (y:VR T w S φ a v): ∃u,(∀g,(Instr.typeAssert v xt t r).run P g=.ok u g)/\VR T w S φ b u:=by
 unfold jc2 at h;split at h
 ·rename_i d A x l;obtain ⟨u,rfl,j⟩:=y;split at h
  ·cases h
  ·rename_i c;split at h
   ·rename_i m;have:=X1 m;subst this;split at h
    ·simp only [X0] at h;subst h;refine ⟨.tuple #[u,.bool true],fun g=>?_,⟨_,rfl,j,VR.bool _,trivial⟩⟩;cases d<;>first|(exact (c _ rfl).elim)|simp [Instr.typeAssert,run_underlying l]
    ·simp only [X0] at h;subst h;refine ⟨u,fun g=>?_,j⟩;cases d<;>first|(exact (c _ rfl).elim)|simp [Instr.typeAssert,run_underlying l]
   ·rename_i m;have p:A≠t:=by intro e;subst e;simp at m
    split at h
    ·rename_i z f;simp only [X0] at h;subst h;unfold vl9 at f;split at f
     ·rename_i i B;split at f
      ·rename_i s q;simp only [X0] at f;subst f;refine ⟨.tuple #[s,.bool false],fun g=>?_,⟨_,rfl,ql6 T s,VR.bool _,trivial⟩⟩;cases d<;>first|(exact (c _ rfl).elim)|simp [Instr.typeAssert,run_underlying l,p,zeroValue,typeInfo,B,q]
      ·cases f
     ·cases f
    ·cases h
 ·cases h
def CellsR.cons {c cs vs} (h:CellsR T w S (c::cs) vs): ∃v r,vs=v::r/\yo0 T w S c v/\CellsR T w S cs r:=by
 obtain ⟨a,b⟩:=h;cases vs with
 |nil=>cases a
 |cons v r=>exact ⟨v,r,rfl,b 0 c v rfl rfl,by simpa using a,fun j c' d e f=>b (j+1) c' d (by simpa using e) (by simpa using f)⟩
def qd9: ∀(xs) {a},CellsR T w S (xs.flatMap (zc6 T (.int .u8))) a->a=List.map (fun x:Int=>Value.int .u8 x) xs
 | [],a,h=>by
  obtain ⟨b,_⟩:=h;cases a with
  |nil=>rfl
  |cons _ _=>cases b
 |x::r,a,h=>by
  have h:CellsR T w S (⟨.int .u8,x⟩::r.flatMap (zc6 T (.int .u8))) a:=h;obtain ⟨v,vs,rfl,b,c⟩:=h.cons;rw [qd9 r c];have:=zb0 (T:=T) (φ:=fun _=>⟨none,0,0,[]⟩) (v:=v) b;rw [this];rfl
def qi6 {rd ids r} (h:Sim T w0 S0 ⟨F,H⟩ F' w S φ) (v:Chg S w r) (j:Same φ rd w r) (l: ∀i∈ids,i∈rd):yy7 T r S φ H ids:=by
 intro i G J K f;have a:=h.ents i _ K;cases J with
 |row I X ys=>
  obtain ⟨B,p,s,u,x,y,L⟩:=a;refine ⟨B,p,?_,u,W8 x v.size,y.chg T v (fun _ h=>h) (fun b z=>.inl z),L⟩;rcases s.cases with ⟨M,N,O,R⟩|⟨c,q,U,d,A,D,E,V⟩
  ·rw [M,N,O,R];exact Own.nil _ _ _ _
  ·have W:=j i (l i G) _ q d.lt;have e:Blk r (bk (φ i).ad) c I:=W.trans d;rw [q];exact Own.ofBlk e U A D E _ V
 |blk I cs=>
  obtain ⟨g,c,s,u,x,y⟩:=a;exact ⟨g,c,s,(j i (l i G) _ s u.lt).trans u,x,y.chg T v (fun _ h=>h) (fun b z=>.inl z)⟩
 |map k es=>cases f
 |tmap k t m=>cases f
 |drow _ _ _ _ _=>cases f
 |pmap _ _ _ _ _=>cases f
 |hid=>cases f
 |gone=>cases f
def ka8 {Z:Prop} {R:Type} {r:R} {rd:List Nat} {s d e:TypeId} {x:Operand} (A:o.op=.convert s d x) {a:AV T.U} (hx:aev T F x=some a) (hs:P.underlying s=some (.slice e)) (I:P.underlying d=some .string) (he:P.underlying e=some (.int .u8))
  {K0:AV T.U->Option R} (J:rdF T H (.list (.int .u8)) a (fun xs=>K0 (.cell ⟨.str,yz0 xs⟩))=some r) (L: ∀i∈a.ids,i∈rd) (h:Sim T w0 S0 ⟨F,H⟩ F' w S φ) (K: ∀a v,K0 a=some r->QR P F' o S φ rd w v->VR T w S φ a v->okA H a->Z):Z:=by
 obtain ⟨X,h1,h2⟩:=u0 h.fr hx;obtain ⟨xs,hK,B⟩:=jr7 (t:=.list (.int .u8)) J;refine K _ (.string (yz0 xs)) hK ?_ (CR.str _) (zo1 rfl (by intro _ _ _ _ e;cases e));intro g hc M;have m:yy7 T g S φ H a.ids:=qi6 h hc M L;obtain ⟨N,p,hv⟩:=vx4 (w:=g) (t:=.list (.int .u8)) (K:=some) (by rw [B]) m (h2.chg T hc (fun _ h=>h) fun b hb=>.inl hb) φ;have p:N=xs:=X5 p;rw [p] at hv;have q:CR T g [] (.list (.int .u8)) xs X:=hv;have O: ∃ad cap,X=.slice ad (List.length (α:=Int) xs) cap:=by
  cases q with
  |list _ _ ad cap u _ _ _ _ _=>exact ⟨ad,cap,rfl⟩
 obtain ⟨ad,cap,rfl⟩:=O;obtain ⟨_,D,l,V,W⟩:=ju7 q;have c:=qd9 _ W;have z:execOp (evD F') o=(do return Next.value (<-convert s d (evD F' x))):=by
  cases o;simp only at A;subst A;rfl
 have Y:(convert s d (.slice ad (List.length (α:=Int) xs) cap)).run P g=.ok (.string (yz0 xs)) g:=by
  rw [run_convert_bytes_string g s d e ad _ cap hs he I];cases had:ad with
  |none=>
   have:xs= []:=T9 (D had).1;subst this;rfl
  |some a0=>
   subst had;have f:=run_loadCells_list (P:=P) (w:=g) a0 l (fun j v hj=>by
    have:=(V j v hj).2;by_cases E:xs= []
    ·subst E;rw [c] at hj;cases hj
    ·cases q with
     |list _ _ _ _ u hcap hnil' G _ _=>
      obtain ⟨e1,_,_⟩:=G E;simp only [X0] at e1;rw [e1,Addr.add];split
      ·rename_i h0;simpa [h0] using this
      ·simpa using this)
   have hl:l.length=List.length (α:=Int) xs:=by rw [c];exact V1 ..
   rw [hl,c] at f;exact run_bytesToString g a0 _ cap xs f
 rw [z,u9 h1];show ((convert s d (.slice ad (List.length (α:=Int) xs) cap)) >>= fun y=>pure (Next.value y)).run P g=_;rw [Sem.run_bind,Y];rfl
def kr7 {g e s b cap} (p:w.heap[g]?=some (.cells (bytesRow b cap) e s)) (i:b.size<=cap) (t:g∉S):CR T w S (.list (.int .u8)) (zw0 b) (.slice (some ⟨g,0,none⟩) b.size cap):=by
 have q:List.length (α:=den T.U (.int .u8)) (zw0 b)=b.size:=by
  exact qk2 b
 have l:=(Y3.1 p).1;have a: ∀(k j:Nat) (c:Cell T.U),((zw0 b:List (den T.U (.int .u8)))[k]?.map fun x=>(zc6 T (.int .u8) x)[j]?)=some (some c)-> ∃y:UInt8,b.data[k]?=some y/\j=0/\c=⟨.int .u8,(y.toNat:Int)⟩:=by
  intro k j c h;have h:((b.data.toList.map fun b=>(b.toNat:Int))[k]?.map fun x=>([⟨.int .u8,x⟩]:List (Cell T.U))[j]?)=some (some c):=h;rw [W2,Array.getElem?_toList] at h;cases f:b.data[k]? with
  |none=>rw [f] at h;cases h
  |some y=>
   rw [f] at h;have h:([⟨.int .u8,(y.toNat:Int)⟩]:List (Cell T.U))[j]?=some c:=X5 h;cases j with
   |zero=>exact ⟨y,rfl,rfl,(X5 h).symm⟩
   |succ j=>cases h
 have m:=CR.list (T:=T) (w:=w) (S:=S) (.int .u8) (zw0 b) (some ⟨g,0,none⟩) cap (fun k _=>.int .u8 (((b.data[k]?).getD 0).toNat:Int)) (by rw [q];exact i) (fun h=>by cases h) (fun _=>⟨rfl,l,t⟩)
  (fun k j c h=>by
   obtain ⟨y,d,r,_⟩:=a k j c h;subst r;have f:=(Y3.1 d).1;show w.cell? ⟨g,0+(k*1+0),none⟩=_;have u:0+(k*1+0)=k:=by omega
   rw [u];unfold World.cell?;simp only [p];show (bytesRow b cap)[k]?=_;unfold bytesRow;rw [Array.getElem?_append_left (by rw [Array.size_map];exact f),Array.getElem?_map,d];rfl)
  (fun k j c h=>by
   obtain ⟨y,d,r,rfl⟩:=a k j c h;show CR T w S (.int .u8) (y.toNat:Int) (.int .u8 (((b.data[k]?).getD 0).toNat:Int));rw [d];exact .int _ _)
 rwa [q] at m
def CR.same (hs:w.heap.size<=w'.heap.size) (hc: ∀(a:Addr) (v:Value),w.cell? a=some v->w'.cell? a=some v) {t:Ty} {x:den T.U t} {v:Value} (h:CR T w S t x v):CR T w' S t x v:=by
 induction h with
 |int k x=>exact .int k x
 |bool b=>exact .bool b
 |str s=>exact .str s
 |nl e xs ad cap _ hn ih=>exact .nl e xs ad cap ih hn
 |list e xs ad cap u hcap hnil had hcell hrel ih=>
  refine .list e xs ad cap u hcap hnil (fun hx=>?_) (fun k j c hk=>hc _ _ (hcell k j c hk)) ih
  grind
def Sim.less (h:Sim T w0 S0 ⟨F,H⟩ F' w S φ) {g:Nat} (hfree: ∀(j:Nat) (e:Ent T.U),H[j]?=some e->e.live=true-> ∀a,At (φ j) a->a.block≠g) (hg:g∈S0.chg\/w0.heap.size<=g):Sim T w0 S0 ⟨F,H⟩ F' w (S.filter fun b=> !Nat.beq b g) φ:=by
 have hsub: ∀b∈S.filter (fun b=> !Nat.beq b g),b∈S:=fun b hb=>(W0.1 hb).1;have hin: ∀ {b:Nat},b∈S->b≠g->b∈S.filter fun b=> !Nat.beq b g:=fun hb hne=>W0.2 ⟨hb,by cases hq:Nat.beq _ g with|true=>exact absurd (X1 hq) hne|false=>rfl⟩;refine ⟨fun j a ha=>?_,h.ids,h.chg,fun b hb=>h.own b (hsub b hb),fun b hb q1 q2=>hin (h.ex b hb q1 q2) (fun e=>?_),fun j f hf hl a ha=>⟨hin (h.lives j f hf hl a ha).1 (hfree j f hf hl a ha),(h.lives j f hf hl a ha).2⟩,h.pins,fun j f hf=>?_,h.eids,h.apart⟩
 ·obtain ⟨v,h1,h2⟩:=h.fr j a ha;exact ⟨v,h1,h2.chg T (Chg.refl [] w) (by simp) fun b hb=>.inl (hsub b hb)⟩
 ·grind
 ·exact (h.ents j f hf).chg T (Chg.refl [] w) (by simp) (fun b hb=>.inl (hsub b hb)) fun hl a ha=>⟨by simp,hin (zi5 h hf hl ha) (hfree j f hf hl a ha)⟩
def qu4 (w:World) (a:Addr) (n:Nat) (b:Addr):(w.freeze a n).cell? b=w.cell? b:=by
 unfold World.freeze;split
 ·rfl
 ·unfold World.cell?;simp only [Array.getElem?_modify];by_cases he:a.block=b.block
  ·grind
  ·rw [if_neg he]
def vg3 (w:World) (g k n:Nat):Chg [g] w (w.freeze ⟨g,k,none⟩ n):=by
 unfold World.freeze;split
 ·exact Chg.refl [g] w
 ·refine ⟨rfl,rfl,rfl,by simp,fun j hj hm=>?_⟩
  grind
def ka7 {s e:TypeId} {x:Operand} (hd:dec ops k n F'=some o) (hop:o.op=.convert s s x) {i:Nat} (hx:aev T F x=some (.own i)) (hs:P.underlying s=some (.slice e)) (he:P.underlying e=some (.int .u8)) {et:TypeId} {xs:List (den T.U (.int .u8))} (hi:H[i]?=some (.row et (.int .u8) xs)) (hne:xs≠ [])
  (h:Sim T w0 S0 ⟨F,H⟩ F' w S φ) (K:zt3 P ops Q (k+1) n ds w0 S0 (⟨zc2 T F o.dst (.cell ⟨.list (.int .u8),xs⟩),H.set i .gone⟩:St T)):WR P ops Q k n ds F' w:=by
 obtain ⟨X,h1,h2⟩:=u0 h.fr hx;rw [VR] at h2;subst h2;have hent:=h.ents i _ hi;obtain ⟨B,vals,q1,q2,q3,q4,q5⟩:=id hent;have hg: ∃g,(φ i).ad=some ⟨g,0,none⟩:=by
  rcases q1.cases with ⟨_,hn,_⟩|⟨c,had,_⟩
  ·grind
  ·exact ⟨_,had⟩
 obtain ⟨g,had⟩:=hg;have hu1: ∀w,(underlying s).run P w=.ok (.slice e) w:=run_underlying hs;have hu2: ∀w,(underlying e).run P w=.ok (.int .u8) w:=run_underlying he;have hrun: ∃w',(convert s s (.slice (φ i).ad (φ i).n (φ i).cap)).run P w=.ok (.slice (φ i).ad (φ i).n (φ i).cap) w'/\Chg [g] w w'/\ ∀b,w'.cell? b=w.cell? b:=by
  rw [had];cases hsh:w.shape? g with
  |none=>exact ⟨w,by simp [convert,hu1,hu2,markStringish,hsh,Result.andThen],Chg.refl [g] w,fun _=>rfl⟩
  |some q=>exact ⟨w.freeze ⟨g,q.2,none⟩ 1,by simp [convert,hu1,hu2,markStringish,hsh,Result.andThen],vg3 w g _ 1,qu4 w _ 1⟩
 obtain ⟨w',hr,hc,hcell⟩:=hrun;have h3:=h.upd (w':=w') (i:=i) (e:=.gone) hi rfl (Tc:= [g]) hc (fun b hb=>⟨_,.inl had,by simp at hb;exact hb.symm⟩) trivial (fun j hj=>by cases hj) (by intro _ _ _ h;cases h);have hgone: ∀(j:Nat) (e:Ent T.U),(H.set i .gone)[j]?=some e->e.live=true->j≠i/\H[j]?=some e:=by
  intro j e he hl;by_cases hji:j=i
  ·subst hji;have hlt:=(X2.1 he).1;rw [Q0 (by simpa using hlt)] at he;simp only [X0] at he;subst he;cases hl
  ·grind
 have h4:=h3.less (g:=g) (fun j f hf hl a ha he=>by
  obtain ⟨hji,hf⟩:=hgone j f hf hl;exact h.apart j i f _ hf hi hl rfl hji a _ ha (.inl had) he) (h.lives i _ hi rfl _ (.inl had)).2
 have hcr:CR T w (S.filter fun b=> !Nat.beq b g) (.list (.int .u8)) xs (.slice (φ i).ad (φ i).n (φ i).cap):=qb6 hent (fun b hb=>(W0.1 hb).1) (fun a ha hm=>by
  rw [had] at ha;simp only [X0] at ha;subst ha;have:=(W0.1 hm).2;simp [J4] at this)
 refine WR.val (v:=.slice (φ i).ad (φ i).n (φ i).cap) hd ?_ (K _ _ ⟨_,φ,h4.slot (a:=.cell ⟨.list (.int .u8),xs⟩) (hcr.same hc.size fun a v hv=>(hcell a).trans hv) (zo1 rfl (by intro _ _ _ _ e;cases e))⟩);cases o;simp only at hop;subst hop;show ((convert s s (evD F' x)) >>= fun y=>pure (Next.value y)).run P w=_;rw [u9 h1,Sem.run_bind,hr];rfl
def vf4 {s d e x} (m:dec ops k n F'=some o) (c:o.op=.convert s d x) {b} (p:aev T F x=some (.cell ⟨.str,b⟩)) (q:P.underlying s=some .string) (g:P.underlying d=some (.slice e)) (r:P.underlying e=some (.int .u8))
  (h:Sim T w0 S0 ⟨F,H⟩ F' w S φ) (K:zt3 P ops Q (k+1) n ds w0 S0 (⟨zc2 T F o.dst (.cell ⟨.list (.int .u8),zw0 b⟩),H⟩:St T)):WR P ops Q k n ds F' w:=by
 obtain ⟨X,t,i⟩:=u0 h.fr p;have i:CR T w S .str b X:=i;cases i;have l:=run_bytes_of_string (P:=P) w s d e b q g r;generalize f:grownCap w b.size 0 e=cap at l;have j:b.size<=cap:=by rw [<-f];exact grownCap_ge w b.size 0 e
 have u:Chg [] w (w.drew.alloc (.cells (bytesRow b cap) e ((bytesRow b cap).size,(bytesRow b cap).size+1))):=(Chg.drew w).pure (Chg.alloc _ _);refine WR.val (v:=.slice (some ⟨w.heap.size,0,none⟩) b.size cap) m ?_ (K _ _ ⟨S,φ,(h.pure u).slot (a:=.cell ⟨.list (.int .u8),zw0 b⟩) (kr7 (heap_alloc_new w.drew _) j fun z=>Nat.lt_irrefl _ (h.own _ z).2) (zo1 rfl (by intro _ _ _ _ e;cases e))⟩);cases o;simp only at c;subst c;show ((convert s d (evD F' x)) >>= fun y=>pure (Next.value y)).run P w=_;rw [u9 t,Sem.run_bind,l];rfl
def qt9 {t:TypeId} {len:Nat} {ps:Array (Nat×Operand)} (hd:dec ops k n F'=some o) (hop:o.op=.buildSlice t len ps) {l:List (Nat×AV T.U)} (hl:zy5 T F ps.toList=some l) {e:TypeId} {sz:Nat} {cs:List (AV T.U)} (hb:qn9 T P t len l=some (e,sz,cs))
  (h:Sim T w0 S0 ⟨F,H⟩ F' w S φ) {av:AV T.U} (hav: ∀(g:Nat) (w':World) (S':List Nat) (φ':Nat->RA),φ' H.length=⟨some ⟨g,0,none⟩,len,len,[]⟩->VR T w' S' φ' av (.slice (some ⟨g,0,none⟩) len len)) (hok:okA (H++ [.blk e cs]) av) (K:zt3 P ops Q (k+1) n ds w0 S0 (⟨zc2 T F o.dst av,H++ [.blk e cs]⟩:St T)):WR P ops Q k n ds F' w:=by
 unfold qn9 at hb;split at hb
 ·rename_i et s1 by_ zc he;split at hb
  ·rename_i hok;simp only [X3] at hok;have hs1:=Y1 hok.1;have h16:=Y1 hok.2;split at hb
   ·rename_i cs1 hcs;split at hb
    case h_2=>cases hb
    rename_i hna;simp only [X0,X7] at hb;obtain ⟨rfl,rfl,rfl⟩:=hb;obtain ⟨i,zv,hu,hin,hzv,hsi,_,hzc,hzl⟩:=zh6 he;subst hzc;obtain ⟨e1,e2⟩:=yj0 h.fr hl;have hz0:VRL T w S φ ((List.range (len*s1)).map fun j=>yw9 T (zv.cells[j%s1]!)) ((Array.range (len*i.size)).map (zv.cells[· %zv.cells.size]!)).toList:=by
     rw [hsi,hzl,N0,T6];generalize List.range (len*s1)=rr;induction rr with
     |nil=>trivial
     |cons a r ih=>exact ⟨jb0 T _,ih⟩
    obtain ⟨c',g1,g2⟩:=yp1 hz0 e1 e2 hcs;have hbs:yk0 P t len (ps.toList.map fun p=>(p.1,evD F' p.2))=some (et,c'):=by
     unfold yk0;rw [hu];simp only [hin];rw [hsi,W3 h16];simp only;rw [hsi] at g1;have hfin:Instr.fill (fun j=>some (j*s1,s1)) ((Array.range (len*s1)).map (zv.cells[· %zv.cells.size]!)) (ps.toList.map fun p=>(p.1,evD F' p.2))=some c':=g1;cases hz:Nat.beq (len*s1) 0 with
     |true=>
      have:=X1 hz;simp only;rw [this] at hfin⊢;have hr0:Array.range 0= #[]:=rfl;rw [hr0] at hfin⊢;have em: ∀f:Nat->Value,Array.map f #[]= #[]:=fun f=>by simp
      rw [em] at hfin⊢;rw [hfin]
     |false=>simp only [hzv,hfin]
    have hpi: ∀i∈za1 cs1,i<H.length:=je8 hcs (fun i hi=>by
     obtain ⟨a,ha,hia⟩:=zu6 hi;obtain ⟨j,_,rfl⟩:=U5.1 ha;rw [jv0] at hia;cases hia) (jq4 h hl)
    refine WR.bslice c' (qw4 hd hop hbs) fun g w' hN=>?_;have hS: ∀b∈g::S,b∈S\/w.heap.size<=b:=by
     intro b hb;rcases Z0.1 hb with rfl|hb
     ·exact .inr hN.fresh
     ·exact .inl hb
    have hadd:=h.add (r:=⟨some ⟨g,0,none⟩,len,len,[]⟩) hN.chg hN.fresh hN.blk.lt (fun a ha=>yr2 ha) (e:=.blk et cs1)
     ⟨g,c',by rw [za8],hN.blk,by simp,BR.of T ((g2.chg T hN.chg (by simp) hS).phi fun i hi=>zj9 (by have:=hpi i hi;omega)) hna⟩ (by intro j hj;have:=hpi j hj;omega)
    exact K _ _ ⟨_,_,hadd.slot (a:=av) (hav _ _ _ _ za8) hok⟩
   ·cases hb
  ·cases hb
 ·cases hb
def vf0 {t:TypeId} {len:Nat} {ps:Array (Nat×Operand)} (hd:dec ops k n F'=some o) (hop:o.op=.buildSlice t len ps) {l:List (Nat×AV T.U)} (hl:zy5 T F ps.toList=some l) {e:TypeId} {sz:Nat} {cs:List (AV T.U)} (hb:qn9 T P t len l=some (e,sz,cs))
  (h:Sim T w0 S0 ⟨F,H⟩ F' w S φ) (K:zt3 P ops Q (k+1) n ds w0 S0 (⟨zc2 T F o.dst (.sl H.length sz 0 len),H++ [.blk e cs]⟩:St T)):WR P ops Q k n ds F' w:=
 qt9 hd hop hl hb h (fun g w' S' φ' hp=>by
  rw [VR,hp];exact ⟨some ⟨g,0,none⟩,rfl,by simp,.inr ⟨g,rfl,by simp⟩,fun h=>(by cases h),fun _=>rfl⟩) ⟨by intro i hi;simp [AV.ids] at hi;subst hi;simp,trivial⟩ K
def jt2 {v} (a:dec ops k n F'=some o) (b:(execOp (evD F') o).run P w=.ok (.value v) w') (K:WR P ops Q (k+1) n ds (upd F' o.dst v) w'):WR P ops Q k n ds F' w:=WR.val a b K
def uh9 {t a z} (b:lenM P t H a=some z) (h:Sim T w0 S0 ⟨F,H⟩ F' w S φ) {v} (y:VR T w S φ a v) (ty) {d} (f:Same φ (qq4 [a]) w d):(Builtin.len_ #[t] ty #[v]).run P d=.ok (.int .i64 z) d:=by
 unfold lenM at b;split at b<;>try (cases b;done)
 rename_i J K A;split at b<;>try (cases b;done)
 rename_i i;split at b<;>try (cases b;done)
 rename_i B ty es D;simp only [X0] at b;subst b;obtain ⟨g,q,rfl⟩:=y;obtain ⟨L,l,E,j,u,M,G,N⟩:=h.ents i _ D;rw [q] at j;simp only [X0,Addr.mk.injEq,and_true] at j;subst j;have m:d.heap[g]?=some (.map l E):=(f i (by simp [qq4]) _ q u.lt).trans u;have c: ∀ {es:List (Int×den T.U ty)} {l:List MapEntry},TR T w S B ty es l->es.length=l.length:=by
  intro es;induction es with
  |nil=>intro l h;cases l with|nil=>rfl|cons _ _=>exact h.elim
  |cons p r I=>intro l h;obtain ⟨x,a⟩:=p;cases l with|nil=>exact h.elim|cons e s=>simp [I h.2.2]
 have:=c G;simp [Builtin.len_,run_underlying A,MapKept.run_getObj_map m,Result.andThen,this,goInt]
def kb1 {m z A t at2 R x c} (V:dec ops k n F'=some o) (j:o.op=.call c) (W:c.callee=.builtin .delete) (ha:c.args.toList= [z,A]) (B:c.argTypes.toList=t::at2) (hm:aev T F z=some m) (hk:aev T F A=some (cI T R x))
  {H1} (b:gw3 T P t H m R x=some H1) (h:Sim T w0 S0 ⟨F,H⟩ F' w S φ) (K:zt3 P ops Q (k+1) n ds w0 S0 (⟨zc2 T F o.dst (.tup []),H1⟩:St T)):WR P ops Q k n ds F' w:=by
 obtain ⟨M,Y,Z⟩:=u0 h.fr hm;obtain ⟨X,h3,h4⟩:=u0 h.fr hk;have e:=zb0 h4;subst e;unfold gw3 at b;split at b<;>try (cases b;done)
 rename_i i kd kt et u;have d:c.args= #[z,A]:=by rw [<-Array.toArray_toList (xs:=c.args),ha]
 have p:c.argTypes=(t::at2).toArray:=by rw [<-B]
 split at b<;>try (cases b;done)
 ·rename_i D es f;split at b<;>try (cases b;done)
  rename_i q;rw [X3] at q;have E:=zb6 q.1;have G:=zb6 q.2;subst E;subst G;simp only [X0] at b;subst b;obtain ⟨g,y,rfl⟩:=Z;obtain ⟨g',l,cl,r,I,J,L,N⟩:=h.ents i _ f;rw [y] at r;simp only [X0,Addr.mk.injEq,and_true] at r;subst r;obtain ⟨w',s,O⟩:=wa4 (x:=x) (ty':=o.type) (at2:=at2) u h f y I J L N;refine jt2 (v:=.tuple #[]) V (w':=w') ?_ (K _ _ ⟨S,φ,O.slot (a:=.tup []) ⟨#[],rfl,trivial⟩ ⟨fun i b=>(by cases b),trivial⟩⟩);rw [<-p] at s;cases o;simp only at j s;subst j;simp [execOp,resolve,W,invoke,builtin,d,u9 Y,u9 h3,s]
 ·rename_i D ty es f;split at b<;>try (cases b;done)
  rename_i q;rw [X3] at q;have E:=zb6 q.1;have G:=zb6 q.2;subst E;subst G;simp only [X0] at b;subst b;obtain ⟨g,y,rfl⟩:=Z;obtain ⟨g',l,cl,r,I,J,L,N⟩:=h.ents i _ f;rw [y] at r;simp only [X0,Addr.mk.injEq,and_true] at r;subst r;obtain ⟨w',s,O⟩:=gf8 (x:=x) (ty':=o.type) (at2:=at2) u h f y I J L N;refine jt2 (v:=.tuple #[]) V (w':=w') ?_ (K _ _ ⟨S,φ,O.slot (a:=.tup []) ⟨#[],rfl,trivial⟩ ⟨fun i b=>(by cases b),trivial⟩⟩);rw [<-p] at s;cases o;simp only at j s;subst j;simp [execOp,resolve,W,invoke,builtin,d,u9 Y,u9 h3,s]
def ks0 {R:Type} {r:R} {x:Operand} {t:TypeId} {c:Call} (hd:dec ops k n F'=some o) (hop:o.op=.call c) (hc:c.callee=.builtin .clear) (ha:c.args.toList= [x]) (hat:c.argTypes.toList= [t]) {s:AV T.U} (hx:aev T F x=some s)
  {K0:AV T.U->List (Ent T.U)->Option R} (hK0:yr4 T P t H s K0=some r) (h:Sim T w0 S0 ⟨F,H⟩ F' w S φ) (K: ∀b H1,K0 b H1=some r->zt3 P ops Q (k+1) n ds w0 S0 (⟨zc2 T F o.dst b,H1⟩:St T)):WR P ops Q k n ds F' w:=by
 obtain ⟨X,h1,h2⟩:=u0 h.fr hx;unfold yr4 at hK0;split at hK0<;>try (cases hK0;done)
 ·rename_i i;split at hK0<;>try (cases hK0;done)
  rename_i kd ty es kt et hi hu;obtain ⟨g,hg,rfl⟩:=h2;obtain ⟨g',l,cl,a1,a2,a3,a4,a5⟩:=h.ents i _ hi;rw [hg] at a1;simp only [X0,Addr.mk.injEq,and_true] at a1;subst a1;have hb:w.heap[g]?=some (.map l cl):=a2;have hargs:c.args= #[x]:=zg6 ha;have hatt:c.argTypes= #[t]:=zg6 hat;refine jt2 (v:=.tuple #[]) hd (w':= {w with heap:=w.heap.setIfInBounds g (.map #[] cl)}) ?_ (K _ _ hK0 _ _ ⟨S,φ,(yn7 (l':= #[]) (c':=cl) (es':= []) h hi hg a2 a3 (by simp only [TR]) (MapKept.stamped_empty cl)).slot (a:=.tup []) ⟨#[],rfl,trivial⟩ ⟨fun i hi=>(by cases hi),trivial⟩⟩);cases o;simp only at hop;subst hop;simp [execOp,resolve,hc,invoke,builtin,hargs,hatt,u9 h1,Builtin.clear_,run_underlying hu,MapKept.run_getObj_map hb,MapKept.run_setObj_map _ hb,Result.andThen]
 rename_i i sz o1 m;split at hK0<;>try (cases hK0;done)
 rename_i e ty xs hi;split at hK0<;>try (cases hK0;done)
 rename_i et s1 by_ zc he;split at hK0<;>try (cases hK0;done)
 rename_i z hsz hz;simp only [X3] at hsz;have:=X1 hsz.1;subst this;have:=X1 hsz.2;subst this;split at hK0<;>try (cases hK0;done)
 rename_i x0 hx0;obtain ⟨hle,hK⟩:=za7 hK0;obtain ⟨ii,zv,hu,hin,hzv,hsi,_,hzc,hzl⟩:=zh6 he;subst hzc;obtain ⟨ad,rfl,hcap,hn,hnil,_⟩:=h2;have hargs:c.args= #[x]:=zg6 ha;have hatt:c.argTypes= #[t]:=zg6 hat;have hval: ∀w',(Builtin.clear_ #[t] o.type #[Value.slice ad m ((φ i).cap-o1)]).run P w=.ok (.tuple #[]) w'->(execOp (evD F') o).run P w=.ok (.value (.tuple #[])) w':=by
  intro w' hr;have:execOp (evD F') o=(do return Next.value (<-Builtin.clear_ #[t] o.type #[Value.slice ad m ((φ i).cap-o1)])):=by
   cases o;simp only at hop;subst hop;simp only [execOp,resolve,hc,invoke,builtin,hargs,hatt,Array.map_singleton,u9 h1]<;>rfl
  rw [this];simp only [Sem.run_bind,hr,Result.andThen_ok];rfl
 have hi':H[i]?=some (.row e ty xs):=hi;by_cases hm:m=0
 ·subst hm;have hsame:H.set i (.row e ty (xs.take o1++(List.replicate 0 x0++xs.drop (o1+0))))=H:=by
   rw [List.replicate_zero,M2,M3,Q8];obtain ⟨hlt,hg⟩:=X2.1 hi';rw [<-hg,N1]
  rw [hsame] at hK;have hrun:(Builtin.clear_ #[t] o.type #[Value.slice ad 0 ((φ i).cap-o1)]).run P w=.ok (.tuple #[]) w:=by
   unfold Builtin.clear_;cases ad<;>simp [run_underlying hu,Sem.run_bind,Sem.run_pure,Result.andThen_ok]
  exact qc0 hd (hval w hrun) h (a:=.tup []) ⟨#[],rfl,trivial⟩ ⟨fun i hi=>(by cases hi),trivial⟩ (K _ _ hK)
 ·rcases hn with hn|⟨g,hg1,hg2⟩
  ·exact absurd hn hm
  ·subst hg2;obtain ⟨g',carr,B,vals,a1,a2,a3,a4,a5,a6,a7,a8,a9,a10,a11,a12⟩:=jm3 h hi (by omega);rw [hg1] at a1;simp only [X0,Addr.mk.injEq,and_true] at a1;subst a1;have hzlen:(Builtin.zeroCells zv.cells m).toList.length=m*szT T ty:=by simp [Builtin.zeroCells,hzl]
   have hmul:(o1+m)*szT T ty<=xs.length*szT T ty:=Q9 _ hle;have hmul2:xs.length*szT T ty<=(φ i).cap*szT T ty:=Q9 _ a11;rw [U9] at hmul;have hz1:CellsR T w S (zc6 T ty x0) zv.cells.toList:=by rw [zp0 T hx0];exact yh4 hz
   have hzc:CellsR T w S ((List.replicate m x0).flatMap (zc6 T ty)) (Builtin.zeroCells zv.cells m).toList:=by
    refine ⟨by rw [zc1 (za9 T ty),Z9,hzlen],fun j c v h1 h2=>?_⟩;have hj:=(X2.1 h1).1;rw [zc1 (za9 T ty),Z9] at hj;rw [zx1 (za9 T ty x0) _ _ hj] at h1;refine hz1.2 _ c v h1 ?_;have hpos:0<szT T ty:=by
     rcases T5 (szT T ty) with h0|h0
     ·rw [h0] at hj;omega
     ·exact h0
    rw [<-hzl] at hpos;unfold Builtin.zeroCells at h2;simp only [N0,T6,W2] at h2;rw [hzl,List.getElem?_range hj] at h2;simp only [Z8,X0] at h2;subst h2;rw [<-hzl,Array.getElem?_toList,Z6 (Nat.mod_lt _ hpos)];congr 1;rw [getElem!_pos zv.cells _ (Nat.mod_lt _ hpos)]
   have hone: ∀v∈(Builtin.zeroCells zv.cells m).toList,v.oneCell'=true:=hzc.one;obtain ⟨w',r1,r2,r3⟩:=zk6 P e g (Builtin.zeroCells zv.cells m).toList (0+o1*szT T ty) 0 carr w a4 (by rw [hzlen];omega) hone;have hrun:(Builtin.clear_ #[t] o.type #[Value.slice (some ⟨g,0+o1*szT T ty,none⟩) m ((φ i).cap-o1)]).run P w=.ok (.tuple #[]) w':=by
    unfold Builtin.clear_;cases m with
    |zero=>exact absurd rfl hm
    |succ m=>
     have hzr:(zeroValue et).run P w=.ok zv w:=by simp [zeroValue,typeInfo,hin,hzv,Sem.run_bind,Sem.run_pure,Result.andThen_ok]
     have r1':=r1;rw [W9] at r1';simp [run_underlying hu,Sem.run_bind,Sem.run_pure,Result.andThen_ok,hzr,r1']
   refine jt2 hd (hval w' hrun) ?_;refine K _ _ hK _ _ ⟨S,φ,(h.upd (e:=.row e ty (xs.take o1++(List.replicate m x0++xs.drop (o1+m)))) hi rfl r3 (fun b hb=>?_) ⟨B,(yj2 carr (0+o1*szT T ty+0) (Builtin.zeroCells zv.cells m).toList).toList.take (xs.length*szT T ty),?_,?_,W8 a10 r3.size,?_,?_⟩ ?_ ?_).slot (a:=.tup []) ⟨#[],rfl,trivial⟩ ⟨fun i hi=>(by cases hi),trivial⟩⟩
   ·simp at hb;subst hb;exact ⟨_,.inl hg1,rfl⟩
   ·rw [hg1,a2];exact Own.ofBlk r2 a9 a11 (by have:=a12;unfold maxLen at this;omega) (by rw [yq3];exact a5) _ rfl
   ·rw [a2];simp;omega
   ·have hxs:xs=xs.take o1++((xs.drop o1).take m++xs.drop (o1+m)):=by
     rw [<-List.drop_drop,Q8,Q8]
    have hnew:(xs.take o1++(List.replicate m x0++xs.drop (o1+m))).flatMap (zc6 T ty)=zj8 (xs.flatMap (zc6 T ty)) (o1*szT T ty) ((List.replicate m x0).flatMap (zc6 T ty)):=by
     conv=>rhs;rw [hxs]
     have hp:=yn4 ((List.replicate m x0).flatMap (zc6 T ty)) ((xs.take o1).flatMap (zc6 T ty)) (((xs.drop o1).take m).flatMap (zc6 T ty)) ((xs.drop (o1+m)).flatMap (zc6 T ty)) 0
      (by rw [zc1 (za9 T ty),zc1 (za9 T ty),Z9,Y6,Q7,J5 (by omega),W9];exact W6 _)
     rw [zc1 (za9 T ty),Y6,J5 (by omega),M3] at hp;rw [J1,J1,J1,J1,<-List.append_assoc ((xs.take o1).flatMap (zc6 T ty)) (((xs.drop o1).take m).flatMap (zc6 T ty)),hp,Q2];congr 2;have hl2:((xs.drop o1).take m).length=m:=by rw [Y6,Q7];omega
     have: ∀(l cs:List (Cell T.U)),l.length=cs.length->zj8 cs 0 l=l:=by
      have gen: ∀(l pre cs:List (Cell T.U)),l.length=cs.length->zj8 (pre++cs) pre.length l=pre++l:=by
       intro l;induction l with
       |nil=>intro pre cs h;cases cs with|nil=>rfl|cons _ _=>simp at h
       |cons a r ih=>
        intro pre cs h;cases cs with
        |nil=>simp at h
        |cons b q=>
         rw [zj8,List.set_append_right _ _ (W6 _),Nat.sub_self,List.set_cons_zero];have:=ih (pre++ [a]) q (by simpa using h);simpa using this
      intro l cs h;simpa using gen l [] cs h
     rw [this _ _ (by rw [zc1 (za9 T ty),zc1 (za9 T ty),Z9,hl2])]
    rw [hnew,ye9,yq2,M3,W9,a6];exact (CellsR.put hzc a7).chg T r3 (by intro b hb;simp at hb;subst hb;exact a8) (fun b hb=>.inl hb)
   ·intro a ha;rw [hg1] at ha;simp only [X0] at ha;subst ha;exact a8
   ·intro q hq;cases hq
   ·intro e1 t1 zs he;simp only [Ent.row.injEq] at he;obtain ⟨rfl,rfl,hh⟩:=he;have:=eq_of_heq hh;subst this;exact ⟨e,xs,rfl,by simp;omega⟩
end
end Go.X
namespace Go.X
open Go.RowKit Go.V
section
variable {T:Tab} {P:Program} {C:Ctx T} {w w':World} {S S':List Nat} {φ φ':Nat->RA} {w0:World} {S0:Ow} {F:AF T} {H:List (Ent T.U)} {F':PF}
variable {ops:Array Oper} {Q:Exit->Act->World->Prop} {k n:Nat} {ds:List Deferred} {o:Oper}
def zq3 {F:AF T}: ∀ {l:List Operand} {aS:List (AV T.U)},zx4 T F l=some aS->l.length=aS.length
 | [],aS,h=>by simp only [zx4,X0] at h;subst h;rfl
 |x::r,aS,h=>by
  unfold zx4 at h;split at h
  ·rename_i a l ha hl;simp only [X0] at h;subst h;simp [zq3 hl]
  ·cases h
def wg4 {Z:Prop} {R:Type} {r:R} (hd:dec ops k n F'=some o) {K0:AV T.U->Option R} (hs:zr9 P o ⟨F,H⟩ K0=some r) (h:Sim T w0 S0 ⟨F,H⟩ F' w S φ)
  (K: ∀a v,K0 a=some r->QR P F' o S φ (vj9 o F) w v->VR T w S φ a v->okA H a->Z):Z:=by
 unfold zr9 at hs;simp only at hs;split at hs
 ·rename_i a ha;split at hs
  ·rename_i hm;obtain ⟨v,h1,h2⟩:=ke9 (P:=P) ha h.fr o rfl;exact K _ v hs (fun w1 _ _=>h1 w1) h2 (kw3 h ha hm)
  ·cases hs
 ·split at hs
  ·rename_i hop;split at hs
   ·rename_i hc hx hy;exact uj1 hd hop hc hx hy hs h K
   ·cases hs
  ·rename_i hop;split at hs
   ·rename_i hx hy;exact zal4 hd hop hx hy hs h K
   ·cases hs
  ·rename_i hop;split at hs
   ·rename_i p hx;split at hs
    ·rename_i a hl;exact gj2 hd hop hx hl h (fun i hi=>by unfold vj9;rw [hop];simp only [hx];exact hi) fun v=>K _ v hs
    ·cases hs
   ·cases hs
  ·rename_i hop;split at hs
   ·rename_i hs1 hd1 ha;split at hs
    ·rename_i he;exact ka8 hop ha hs1 hd1 he hs (fun i hi=>by simp only [vj9,hop,ha];exact hi) h K
    ·cases hs
   ·cases hs
  ·rename_i t0 x0 y0 hop;split at hs
   ·rename_i s0 j0 hu hx hy;unfold jk1 at hs;split at hs
    ·rename_i b hb;obtain ⟨X,h1,h2⟩:=u0 h.fr hx;obtain ⟨Y,h3,h4⟩:=u0 h.fr hy;have e1:=zq4 h2;have e2:=zb0 h4;subst e1;subst e2;refine K _ (.int .u8 b.toNat) hs (fun w1 _ _=>?_) (VR.int _ _) (qc2 _ _);simp only [execOp,hop,u9 h1,u9 h3,Instr.index,asIntOf,Sem.run_bind,Sem.run_pure,Result.andThen_ok,run_underlying hu];rw [hb];rfl
    ·cases hs
   ·cases hs
  ·rename_i hop;split at hs
   ·rename_i hx hy;exact gy9 hd hop hx hy hs h K
   ·cases hs
  ·rename_i hop;split at hs
   ·rename_i hx hlo hhi;split at hs
    ·cases hs
    ·rename_i hne;refine wh4 hd hop hx hlo hhi ?_ hs h K
     grind
   ·cases hs
  ·rename_i x0 xt0 at0 ok0 hop;split at hs
   ·rename_i a hx;split at hs
    ·rename_i b hb;split at hs
     ·rename_i hne;obtain ⟨v,h1,h2⟩:=u0 h.fr hx;obtain ⟨u,h3,h4⟩:=qt8 (xt:=xt0) hb h2;refine K _ u hs (fun w1 _ _=>?_) h4 (ze6 hne fun i hi=>(zd4 h hx).1 i (qt7 hb i hi));simp [execOp,hop,u9 h1,h3]
     ·cases hs
    ·cases hs
   ·cases hs
  ·rename_i c hop;split at hs
   ·cases hs
   ·rename_i aS has;have h5:=yf3 h.fr has;split at hs
    ·rename_i hc;split at hs
     ·rename_i a t hat;split at hs
      ·rename_i z hz;have e1:=zg6 hat;have hv: ∃v,(c.args.map (evD F'))= #[v]/\VR T w S φ a v:=by
        have h6:VRL T w S φ [a] (c.args.toList.map (evD F')):=h5
        match hm:c.args.toList.map (evD F'),h6 with
        | [v],h6=>exact ⟨v,zg6 (by simpa using hm),h6.1⟩
       obtain ⟨v,hv1,hv2⟩:=hv;exact K _ _ hs (fun w1 _ _=>by simp [execOp,hop,resolve,hc,invoke,hv1,e1,builtin,kc5 hz h hv2]) (VR.int _ _) (qc2 _ _)
      ·split at hs
       ·rename_i z hz;have e1:=zg6 hat;have hv: ∃v,(c.args.map (evD F'))= #[v]/\VR T w S φ a v:=by
         have h6:VRL T w S φ [a] (c.args.toList.map (evD F')):=h5
         match hm:c.args.toList.map (evD F'),h6 with
         | [v],h6=>exact ⟨v,zg6 (by simpa using hm),h6.1⟩
        obtain ⟨v,hv1,hv2⟩:=hv;refine K _ _ hs (fun w1 _ hsm=>?_) (VR.int _ _) (qc2 _ _);have hsm':Same φ (qq4 [a]) w w1:=fun i hi=>hsm i (by unfold vj9;rw [hop];simp only [hc,has];exact hi);simp [execOp,hop,resolve,hc,invoke,hv1,e1,builtin,uh9 hz h hv2 _ hsm']
       ·cases hs
     ·cases hs
    ·rename_i hc;split at hs
     ·rename_i a ha;obtain ⟨v,h1,h2,h3⟩:=ku8 (P:=P) (H:=H) ha h5 c.argTypes o.type;have h1': ∀w,(Builtin.min_ c.argTypes o.type (c.args.map (evD F'))).run P w=.ok v w:=fun w=>by simpa [<-Array.toList_map] using h1 w
      exact K _ v hs (fun w1 _ _=>by simp [execOp,hop,resolve,hc,invoke,builtin,h1']) h2 h3
     ·cases hs
    ·rename_i hc;split at hs
     ·rename_i a ha;obtain ⟨v,h1,h2,h3⟩:=ku6 (P:=P) (H:=H) ha h5 c.argTypes o.type;have h1': ∀w,(Builtin.max_ c.argTypes o.type (c.args.map (evD F'))).run P w=.ok v w:=fun w=>by simpa [<-Array.toList_map] using h1 w
      exact K _ v hs (fun w1 _ _=>by simp [execOp,hop,resolve,hc,invoke,builtin,h1']) h2 h3
     ·cases hs
    ·cases hs
  ·cases hs
def vf9 {t:TypeId} {n0 sz:Nat} (hai:zh5 P t=some (n0,sz)) (h:gq5 P t=true): ∃e d,P.underlying t=some (.array n0 e)/\P.underlying e=some d/\ye3 d=false:=by
 obtain ⟨e,inf,hu,_,_,_⟩:=zk8 hai;unfold gq5 at h
 grind
def go7 {Z:Prop} {R:Type} {r:R} (q:dec ops k n F'=some o) {I:AV T.U->Option R} (c:zz6 P o ⟨F,H⟩ I=some r) (h:Sim T w0 S0 ⟨F,H⟩ F' w S φ)
  (K: ∀a v,I a=some r->QR P F' o S φ (vj9 o F) w v->VR T w S φ a v->okA H a->Z):Z:=by
 unfold zz6 at c;split at c
 ·unfold yq6 at c;simp only at c;split at c
  ·rename_i b;split at c
   ·rename_i f g z;exact kt4 q b f g z c h K
   ·cases c
  ·rename_i b;split at c
   ·rename_i f g z A;obtain ⟨e,d,M,N,O⟩:=vf9 f A;exact kt5 b f M N O g z c h K
   ·cases c
  ·rename_i b;split at c
   ·rename_i f g B D;exact gf3 q b f g B D c h K
   ·cases c
  ·rename_i b;split at c
   ·rename_i f g;exact gv1 b f g c h K
   ·cases c
  ·rename_i t x b;split at c
   ·rename_i n0 sz p f g;have j: ∀i∈p.ids,i∈vj9 o F:=fun i s=>by unfold vj9;rw [b];simp only [g];exact s
    refine gz7 q b f (fun l=>?_) g c h j K fun V=>?_
    ·unfold yb2;split at l
     ·rename_i W u;rw [u];exact congrArg some (X1 l)
     ·cases l
    ·obtain ⟨a,X,y⟩:=zb8 V;exact gj2 q b g X h j fun v=>K _ v y
   ·cases c
  ·rename_i b;split at c
   ·rename_i a g;split at c
    ·rename_i E;obtain ⟨v,Y,J⟩:=u0 h.fr g;exact K _ v c (kj1 b E Y J) J (zd4 h g)
    ·cases c
   ·cases c
  ·rename_i b;split at c
   ·rename_i m kx x L hk;have j: ∀i∈m.ids,i∈vj9 o F:=fun i s=>by unfold vj9;rw [b];simp only [L];exact s
    refine gz9 q b L hk c h j fun a v y hq hv s=>?_;split at y
    ·rename_i G;exact K _ v y hq hv (ze6 G s)
    ·cases y
   ·cases c
  ·cases c
 ·exact wg4 q c h K
def kj6 {R:Type} {r:R} (hE:zb1 T P C.E) {c:Call} (hd:dec ops k n F'=some o) (hop:o.op=.call c) {K:AV T.U->List (Ent T.U)->Option R} {Kp:AV T.U->List (Ent T.U)->Option R} (hs:yo4 P C c ⟨F,H⟩ K Kp=some r) (h:Sim T w0 S0 ⟨F,H⟩ F' w S φ)
  (HK: ∀b H1,K b H1=some r->zt3 P ops Q (k+1) n ds w0 S0 (⟨zc2 T F o.dst b,H1⟩:St T)) (HP: ∀b H1,Kp b H1=some r->yu3 Q n ds w0 S0 b (⟨F,H1⟩:St T)):WR P ops Q k n ds F' w:=by
 unfold yo4 at hs;split at hs
 ·cases hs
 ·rename_i aS has;have h5:=yf3 h.fr has;split at hs
  ·rename_i f hc;split at hs
   ·rename_i g first caps hf
    split at hs
    ·rename_i cs he hcs;split at hs
     ·rename_i hall;exact kr8 hd hop hc hf has he (hE g cs hcs).1 hall hs h HK HP
     ·cases hs
    ·cases hs
   ·cases hs
  ·rename_i hc;split at hs
   ·rename_i s x t t' hat;split at hs
    ·rename_i e htt he;have:=X1 htt;subst this
     match hl:c.args.toList,has with
     | [x0,y0],has=>
      unfold zx4 at has;split at has
      ·rename_i a1 l1 hx hl1;simp only [X0,List.cons.injEq] at has;obtain ⟨rfl,rfl⟩:=has;unfold zx4 at hl1;split at hl1
       ·rename_i a2 l2 hy hl2;simp only [X0,List.cons.injEq] at hl1;obtain ⟨rfl,rfl⟩:=hl1;exact vz8 hd hop hc hl hat hx hy hs h HK
       ·cases hl1
      ·cases has
     | [],has=>exact absurd (zq3 has) (by simp)
     | [x0],has=>exact absurd (zq3 has) (by simp)
     |x0::y0::z0::r0,has=>exact absurd (zq3 has) (by simp)
    ·cases hs
   ·cases hs
  ·rename_i hc;split at hs
   ·rename_i s t hat
    match hl:c.args.toList,has with
    | [x0],has=>
     unfold zx4 at has;split at has
     ·rename_i a1 l1 hx hl1;simp only [X0,List.cons.injEq] at has;obtain ⟨rfl,rfl⟩:=has;exact ks0 hd hop hc hl hat hx hs h HK
     ·cases has
    | [],has=>exact absurd (zq3 has) (by simp)
    |x0::y0::r0,has=>exact absurd (zq3 has) (by simp)
   ·cases hs
  ·rename_i hc;split at hs
   ·rename_i m kx x t at2 hat;split at hs
    ·rename_i H1 hdl
     match hl:c.args.toList,has with
     | [x0,y0],has=>
      unfold zx4 at has;split at has
      ·rename_i a1 l1 hx hl1;simp only [X0,List.cons.injEq] at has;obtain ⟨rfl,rfl⟩:=has;unfold zx4 at hl1;split at hl1
       ·rename_i a2 l2 hy hl2;simp only [X0,List.cons.injEq] at hl1;obtain ⟨rfl,rfl⟩:=hl1;exact kb1 hd hop hc hl hat hx hy hdl h (HK _ _ hs)
       ·cases hl1
      ·cases has
     | [],has=>exact absurd (zq3 has) (by simp)
     | [x0],has=>exact absurd (zq3 has) (by simp)
     |x0::y0::z0::r0,has=>exact absurd (zq3 has) (by simp)
    ·cases hs
   ·cases hs
  ·cases hs
def zi1 {R:Type} {r:R} (hE:zb1 T P C.E) (j:dec ops k n F'=some o) {K:St T->Option R} {Kp:AV T.U->St T->Option R} (c:stepA P C o ⟨F,H⟩ K Kp=some r) (h:Sim T w0 S0 ⟨F,H⟩ F' w S φ)
  (p: ∀st,K st=some r->zt3 P ops Q (k+1) n ds w0 S0 st) (HP: ∀a st,Kp a st=some r->yu3 Q n ds w0 S0 a st):WR P ops Q k n ds F' w:=by
 have m:zz6 P o ⟨F,H⟩ (fun a=>K ⟨zc2 T F o.dst a,H⟩)=some r->WR P ops Q k n ds F' w:=fun c=>
  go7 j c h fun a v hK hq B O=>qc0 j (hq w (Chg.refl _ _) fun _ _ _ _ _=>rfl) h B O (p _ hK)
 unfold stepA at c;simp only at c;split at c
 ·rename_i f;split at c
  ·rename_i cs hz;split at c
   ·rename_i cs' D;exact vz6 j f hz D h (p _ c)
   ·cases c
  ·cases c
 ·rename_i f;split at c
  ·rename_i a V;split at c
   ·rename_i cs q;obtain ⟨g1,g2⟩:=kr5 q;exact ug8 j f V (fun _ _ _ _ B=>g2 B) g1 h (p _ c)
   ·cases c
  ·cases c
 ·rename_i f;split at c
  ·rename_i kd kt et G _;exact kv1 j f G h (p _ c)
  ·rename_i kd kt et ty G _;exact kd8 j f G h (p _ c)
  ·cases c
 ·rename_i f;split at c
  ·rename_i g W z B;split at c
   ·rename_i H1 Y I;exact qf6 j (.inl f) g W z B I h (p _ c)
   ·cases c
  ·cases c
 ·rename_i f;split at c
  ·rename_i g W z B;split at c
   ·rename_i H1 Y I;exact qf6 j (.inr f) g W z B I h (p _ c)
   ·cases c
  ·cases c
 ·rename_i f;split at c
  ·rename_i g z Z;split at c
   ·rename_i H1 D;exact gf5 j f g z Z D h (p _ c)
   ·cases c
  ·cases c
 ·rename_i f;split at c
  ·rename_i z Z he;exact wa2 j f z Z c h fun a H1 V=>p _ V
  ·cases c
 ·rename_i f;split at c
  ·rename_i l ty D he;split at c
   ·rename_i e xs q;exact ka4 j f D q h (p _ c)
   ·cases c
  ·rename_i l D he;split at c
   ·rename_i e sz cs q;exact vf0 j f D q h (p _ c)
   ·cases c
  ·cases c
 ·rename_i f;split at c
  ·exact m c
  ·exact kj6 hE j f c h (fun b H1 q=>p _ q) fun b H1 q=>HP _ _ q
 ·rename_i s d x f;split at c
  ·rename_i e b N J h3;split at c
   ·rename_i h4;exact vf4 j f h3 N J h4 h (p _ c)
   ·cases c
  ·rename_i e i N J h3;split at c
   ·rename_i y xs q _ h4 A;have:=X1 q;subst this
    replace A:(match H[i]? with|some (.row _ ty' xs)=>if h:ty'=.int .u8 then some (h▸xs:List (den T.U (.int .u8))) else none|_=>none)=some (y::xs):=A
    split at A<;>try (cases A;done)
    rename_i et ty' zs I;split at A<;>try (cases A;done)
    rename_i ht;subst ht;have A:zs=y::xs:=X5 A;subst A;exact ka7 j f h3 J h4 I (by simp) h (p _ c)
   ·cases c
  ·exact m c
 ·rename_i x f;split at c
  ·rename_i t a z;obtain ⟨X,N,u,rfl,J⟩:=u0 h.fr z;have L:(execOp (evD F') o).run P w=.halt (.panic (.iface t u)) w:=by
    simp [execOp,f,u9 N,Instr.panic,goPanic]
   exact .throw j L fun act M=>HP _ _ c F' w S φ (.iface t u) h ⟨u,rfl,J⟩ (zd4 h z) act M
  ·cases c
 ·exact m c
end
end Go.X
namespace Go.X
open Go.RowKit Go.V
def zu7 (i:Nat):List Nat->Bool| []=>false|j::r=>match Nat.beq j i with|true=>true|false=>zu7 i r
def vr4 (l:List Nat):List Nat->List Nat| []=>l|i::r=>match zu7 i l with|true=>vr4 l r|false=>vr4 (l++ [i]) r
def vg8 (i:Nat):List Nat->Nat| []=>0|j::r=>match Nat.beq j i with|true=>0|false=>vg8 i r+1
def ze4:List Nat->Bool| []=>true|i::r=> !zu7 i r&&ze4 r
def zc9 {i}: ∀ {l},zu7 i l=true↔i∈l
 | []=>by simp [zu7]
 |j::r=>by
  unfold zu7;split
  ·rename_i h;have:=X1 h;subst this;simp
  ·rename_i h;have a:j≠i:=fun e=>by subst e;simp at h
   rw [zc9];simp [Ne.symm a]
def ye5 {i:Nat}: ∀ {l:List Nat},i∈l->vg8 i l<l.length/\l[vg8 i l]?=some i
 | [],h=>by cases h
 |j::r,h=>by
  unfold vg8;split
  ·rename_i hb;have:=X1 hb;subst this;simp
  ·rename_i hb;have hne:j≠i:=fun e=>by subst e;simp at hb
   have hr:i∈r:=by
    grind
   obtain ⟨h1,h2⟩:=ye5 hr
   grind
def yi8: ∀ {l:List Nat},ze4 l=true-> ∀ {a b x:Nat},l[a]?=some x->l[b]?=some x->a=b
 | [],_,a,b,x,ha,_=>by simp at ha
 |i::r,h,a,b,x,ha,hb=>by
  unfold ze4 at h;simp only [X3,V7] at h;have hni:i∉r:=fun hm=>by have:=zc9.2 hm;rw [h.1] at this;cases this
  cases a with
  |zero=>
   cases b with
   |zero=>rfl
   |succ b=>
    grind
  |succ a=>
   cases b with
   |zero=>
    grind
   |succ b=>
    simp at ha hb;rw [yi8 h.2 ha hb]
section
variable (T:Tab)
def zw9 (H:List (Ent T.U)):List Nat->List (Ent T.U)
 | []=>H
 |i::r=>zw9 (H.set i .gone) r
def lstI {U:Nat->Type}:Cell U->Option ((t:Ty)×List (den U t))|⟨.list t,ys⟩=>some ⟨t,ys⟩|_=>none
def gk0 {U:Nat->Type} (e:TypeId) (c:Cell U):Option ((t:Ty)×List (den U t)):=match Nat.beq e 0 with|true=>none|false=>lstI c
def zf0:List TypeId->List (Cell T.U)->Nat->List (AV T.U)×List (Ent T.U)
 |_,[],_=>([],[])
 |fe,c::r,n=>match gk0 (fe.headD 0) c with
  |some ⟨t,ys⟩=>(.own n::(zf0 fe.tail r (n+1)).1,.row (fe.headD 0) t ys::(zf0 fe.tail r (n+1)).2)
  |none=>(.cell c::(zf0 fe.tail r n).1,(zf0 fe.tail r n).2)
def elD (d:Nat) (xs:List (T.U d)) (a:Nat):List (Cell T.U):=T.cells d (xs.getD a (T.d d))
def yl6 (H:List (Ent T.U)) (k:Nat) (e:TypeId) (d:Nat) (fe:List TypeId) (xs:List (T.U d)) (a:Nat):List (Ent T.U):=
 H.set k (.drow e d fe xs (some (a,(zf0 T fe (elD T d xs a) H.length).1)))++(zf0 T fe (elD T d xs a) H.length).2
def vm3 (H:List (Ent T.U)) (t:Ty) (e:TypeId) (a:AV T.U):Option (Cell T.U×List Nat):=
 match a with
 | .own j=>match H[j]?,t with
  |some (.row f d ys),.list b=>(match Nat.beq f e&& !(Nat.beq e 0) with|true=>if d=b then some (⟨.list d,ys⟩,[j]) else none|false=>none)
  |_,_=>none
 | .raw (.slice none 0 0)=>match t with| .list b=>some (⟨.list b,[]⟩,[])|_=>none
 | .cell c=>match c.t.scal||Nat.beq e 0 with|true=>some (c,[])|false=>none
 |_=>none
def zy8 (H:List (Ent T.U)):List Ty->List TypeId->List (AV T.U)->Option (List (Cell T.U)×List Nat)
 | [],_,[]=>some ([],[])
 |t::ts,fe,a::aS=>match vm3 T H t (fe.headD 0) a,zy8 H ts fe.tail aS with|some (c,l),some (cs,ls)=>some (c::cs,l++ls)|_,_=>none
 |_,_,_=>none
def yr5 (H:List (Ent T.U)) (k:Nat):List (Ent T.U):=
 match H[k]? with
 |some (.drow e d fe xs (some (a,cs)))=>match zy8 T H (vl7 T d) fe cs with
  |some (l,ids)=>match ze4 ids,T.pack d l with
   |true,some y=>zw9 T (H.set k (.drow e d fe (xs.set a y) none)) ids
   |_,_=>H
  |none=>H
 |_=>H
def closeL:List Nat->List (Ent T.U)->List (Ent T.U)
 | [],H=>H
 |k::r,H=>closeL r (yr5 T H k)
end
section
variable {T:Tab} {P:Program} {w w':World} {S S':List Nat} {φ φ':Nat->RA} {w0:World} {S0:Ow} {F:AF T} {H:List (Ent T.U)} {F':PF}
def ya5 {i j:Nat} {f:Ent T.U} (h:(H.set i .gone)[j]?=some f) (hl:f.live=true):j≠i/\H[j]?=some f:=by
 by_cases hji:j=i
 ·subst hji;have hlt:=(X2.1 h).1;rw [Q0 (by simpa using hlt)] at h;simp only [X0] at h;subst h;cases hl
 ·grind
def qf1: ∀ {ids H j f},(zw9 T H ids)[j]?=some f->f.live=true->j∉ids/\H[j]?=some f
 | [],H,j,f,h,_=>⟨by simp,h⟩
 |i::r,H,j,f,h,a=>by
  obtain ⟨b,c⟩:=qf1 (ids:=r) h a;obtain ⟨d,e⟩:=ya5 c a;exact ⟨by simp [d,b],e⟩
def jf2: ∀(ids H),(zw9 T H ids).length=H.length
 | [],H=>rfl
 |i::r,H=>by rw [zw9,jf2 r];simp
def kd3 {c:Cell T.U} {p:(t:Ty)×List (den T.U t)} (h:lstI c=some p):c=⟨.list p.1,p.2⟩:=by
 obtain ⟨t,x⟩:=c;cases t<;>first|(cases h;done)|(simp only [lstI,X0] at h;subst h;rfl)
def beq0 {e} (h:Nat.beq e 0=false):e≠0:=fun a=>by subst a;cases h
def kd2 {e:TypeId} {c:Cell T.U} {p:(t:Ty)×List (den T.U t)} (h:gk0 e c=some p):Nat.beq e 0=false/\c=⟨.list p.1,p.2⟩:=by
 unfold gk0 at h;split at h
 ·cases h
 ·rename_i a;exact ⟨a,kd3 h⟩
def kd1 {e c} (h:gk0 e c=none) (v):(DC T w S e c v->yo0 T w S c v)/\ya6 T e c v= []:=by
 unfold gk0 at h;split at h
 ·rename_i b;have:=X1 b;subst this;obtain ⟨t,x⟩:=c;refine ⟨fun a=>?_,rfl⟩;cases t<;>first|exact a.1 rfl|exact a
 ·rename_i b;obtain ⟨t,x⟩:=c;refine ⟨fun a=>?_,?_⟩
  ·cases t<;>first|(cases h;done)|exact a
  ·unfold ya6;rw [b];cases t<;>first|(cases h;done)|rfl
def kl3 (fe:List TypeId):fe.getD 0 0=fe.headD 0:=by cases fe<;>rfl
def gq7 (fe:List TypeId) (f:Nat):fe.getD (f+1) 0=fe.tail.getD f 0:=by cases fe<;>simp
def Sim.ghost (h:Sim T w0 S0 ⟨F,H⟩ F' w S φ) {H'} (d:H.length<=H'.length) (x: ∀i,i<H.length->RSame (φ' i) (φ i))
  (n: ∀(i:Nat) (e:TypeId) (t:Ty) (xs:List (den T.U t)),i<H.length->H'[i]?=some (.row e t xs)->H[i]?=some (.row e t xs))
  (q: ∀(i:Nat) (e:Ent T.U),H'[i]?=some e->e.live=true-> ∀a,At (φ' i) a-> ∃j f b,H[j]?=some f/\f.live=true/\At (φ j) b/\b.block=a.block)
  (o: ∀(i:Nat) (e:Ent T.U),H'[i]?=some e->EntR T w S φ' i e) (p: ∀(i:Nat) (e:Ent T.U),H'[i]?=some e-> ∀j∈e.cellIds,j<H'.length)
  (s: ∀(i j:Nat) (e z:Ent T.U),H'[i]?=some e->H'[j]?=some z->e.live=true->z.live=true->i≠j-> ∀a b,At (φ' i) a->At (φ' j) b->a.block≠b.block):Sim T w0 S0 ⟨F,H'⟩ F' w S φ':=by
 refine ⟨fun i a m=>?_,fun i a m=>?_,h.chg,h.own,h.ex,fun i e A B a m=>?_,fun k r C=>?_,o,p,s⟩
 ·obtain ⟨v,g,l⟩:=h.fr i a m;exact ⟨v,g,l.phiS fun j u=>x j ((h.ids i a m).1 j u)⟩
 ·obtain ⟨g,l⟩:=h.ids i a m;refine ⟨fun j u=>V3 (g j u) d,?_⟩;cases a with
  |eptr y sz k c=>intro e t xs D;exact l e t xs (n y e t xs (g y (by simp [AV.ids])) D)
  |_=>trivial
 ·obtain ⟨j,f,b,g,l,E,G⟩:=q i e A B a m;rw [<-G];exact h.lives j f g l b E
 ·obtain ⟨g,l⟩:=h.pins k r C;exact ⟨(x k l).trans g,V3 l d⟩
def jq1: ∀(fe cs n),(zf0 T fe cs n).1.length=cs.length
 |_,[],_=>by simp [zf0]
 |fe,c::r,n=>by
  unfold zf0;split<;>simp [jq1 fe.tail r]
def ym7: ∀ {cs:List (Cell T.U)} {fe:List TypeId} {vs:List Value} (n:Nat),cs.length=vs.length->(∀f c v,cs[f]?=some c->vs[f]?=some v->DC T w S (fe.getD f 0) c v)->
  ∃(rs:List RA) (p:Nat->Nat),rs.length=(zf0 T fe cs n).2.length/\(∀φ':Nat->RA,(∀r ra,rs[r]?=some ra->φ' (n+r)=ra)->VRL T w S φ' (zf0 T fe cs n).1 vs)/\
   (∀r e,(zf0 T fe cs n).2[r]?=some e-> ∃ra,rs[r]?=some ra/\e.cellIds= []/\ ∀φ':Nat->RA,φ' (n+r)=ra->(∀a,ra.ad=some a->a.block∈S)->EntR T w S φ' (n+r) e)/\
   (∀r ra,rs[r]?=some ra->ra.xs= []/\ ∃c v,cs[p r]?=some c/\vs[p r]?=some v/\ya6 T (fe.getD (p r) 0) c v=ze5 ra.ad)/\(∀r r',p r=p r'->r=r')/\ ∀i∈za1 (zf0 T fe cs n).1,n<=i/\i<n+rs.length
 | [],fe,[],n,_,_=>⟨[],id,rfl,fun _ _=>by simp [zf0,VRL],fun r e h=>by simp [zf0] at h,fun r ra h=>by simp at h,fun _ _ h=>h,fun i hi=>by simp [zf0,za1] at hi⟩
 | [],_,_::_,_,h,_=>by simp at h
 |_::_,_,[],_,h,_=>by simp at h
 |c::r,fe,v::vs,n,hl,hd=>by
  have hd0:DC T w S (fe.headD 0) c v:=by have:=hd 0 c v rfl rfl;rwa [kl3] at this
  have hd1: ∀f c v,r[f]?=some c->vs[f]?=some v->DC T w S (fe.tail.getD f 0) c v:=fun f c' v' h1 h2=>by
   have:=hd (f+1) c' v' (by simpa using h1) (by simpa using h2);rwa [gq7] at this
  have hl':r.length=vs.length:=by simpa using hl
  cases hc:gk0 (fe.headD 0) c with
  |none=>
   obtain ⟨rs,p,k1,k2,k3,k4,k5,k6⟩:=ym7 (fe:=fe.tail) n hl' hd1;refine ⟨rs,fun r=>p r+1,?_,fun φ' hφ=>?_,fun r e h=>?_,fun r ra h=>?_,fun r r' h=>k5 r r' (Nat.succ.inj h),fun i hi=>?_⟩
   ·simp only [zf0,hc];exact k1
   ·simp only [zf0,hc];exact ⟨(kd1 hc v).1 hd0,k2 φ' hφ⟩
   ·simp only [zf0,hc] at h;exact k3 r e h
   ·grind
   ·simp only [zf0,hc,za1,AV.ids,M2] at hi;exact k6 i hi
  |some q=>
   obtain ⟨t,ys⟩:=q;obtain ⟨hez,hce⟩:=kd2 hc;simp only at hce;subst hce;obtain ⟨B,ad,cap,vals,rfl,o1,o2,o3⟩:=hd0.2 (beq0 hez);obtain ⟨rs,p,k1,k2,k3,k4,k5,k6⟩:=ym7 (fe:=fe.tail) (n+1) hl' hd1;refine ⟨⟨ad,List.length (α:=den T.U t) ys,cap,[]⟩::rs,fun r=>match r with|0=>0|r+1=>p r+1,?_,fun φ' hφ=>?_,fun r e h=>?_,fun r ra h=>?_,fun r r' h=>?_,fun i hi=>?_⟩
   ·simp only [zf0,hc,U3,k1]
   ·simp only [zf0,hc];refine ⟨?_,k2 φ' fun r ra h=>?_⟩
    ·have:=hφ 0 _ rfl;rw [M3] at this;rw [VR,this]
    ·have:=hφ (r+1) ra (by simpa using h);rwa [show n+(r+1)=n+1+r by omega] at this
   ·simp only [zf0,hc] at h;cases r with
    |zero=>
     simp only [Y4,X0] at h;subst h;refine ⟨_,rfl,rfl,fun φ' hφ hS=>?_⟩;rw [M3] at hφ⊢;refine ⟨B,vals,by rw [hφ];exact o1,by rw [hφ],o2,o3,fun a ha=>hS a (by rw [hφ] at ha;exact ha)⟩
    |succ r=>
     grind
   ·cases r with
    |zero=>
     simp only [Y4,X0] at h;subst h;exact ⟨rfl,_,_,rfl,rfl,by show ya6 T (fe.getD 0 0) _ _=_;rw [kl3];unfold ya6;rw [hez]⟩
    |succ r=>
     grind
   ·grind
   ·simp only [zf0,hc,za1,AV.ids,M6,M2,Z0] at hi
    grind
def qv9 {α b:Type} {f:α->List b} {sz:Nat} (c: ∀y,(f y).length=sz) {l:List α} {a:Nat} {x:α} (d:l[a]?=some x) {q:Nat} (e:q<sz):(l.flatMap f)[a*sz+q]?=(f x)[q]?:=by
 rw [<-yk4 c d,Z3,if_pos e,Q6]
def Sim.openD (h:Sim T w0 S0 ⟨F,H⟩ F' w S φ) {k:Nat} {e:TypeId} {d:Nat} {fe:List TypeId} {xs:List (T.U d)} {a:Nat} (hk:H[k]?=some (.drow e d fe xs none)) (ha:a<xs.length):
  ∃φ',(∀i,i<H.length->RSame (φ' i) (φ i))/\Sim T w0 S0 ⟨F,yl6 T H k e d fe xs a⟩ F' w S φ':=by
 obtain ⟨B,vals,o1,o2,o3,o4,o5⟩:=h.ents k _ hk;have hkl:=(X2.1 hk).1;have hxa:xs[a]?=some (xs.getD a (T.d d)):=zn8 (T.d d) ha;have hvl:vals.length=xs.length*T.size d:=by rw [o1.len,o2]
 have hle:a*T.size d+T.size d<=xs.length*T.size d:=by rw [<-Nat.succ_mul];exact Q9 _ ha
 let cs:=elD T d xs a
 let vs:=(vals.drop (a*T.size d)).take (T.size d)
 have hcsl:cs.length=T.size d:=T.len _ _;have hvsl:vs.length=T.size d:=by simp [vs];omega
 have hcs: ∀f c,cs[f]?=some c->f<T.size d/\(xs.flatMap (T.cells d))[a*T.size d+f]?=some c:=fun f c hf=>by
  have:=(X2.1 hf).1;exact ⟨by omega,by rw [qv9 (T.len d) hxa (by omega)];exact hf⟩
 have hvs: ∀f v,vs[f]?=some v->vals[a*T.size d+f]?=some v:=fun f v hf=>by
  simp only [vs,Z3] at hf;split at hf
  ·rw [Q6] at hf;exact hf
  ·cases hf
 have hdc: ∀f c v,cs[f]?=some c->vs[f]?=some v->DC T w S (fe.getD f 0) c v/\ ∀b∈ya6 T (fe.getD f 0) c v,b∈(φ k).xs/\ ∀a,(φ k).ad=some a->a.block≠b:=fun f c v h1 h2=>by
  obtain ⟨h3,h4⟩:=hcs f c h1;have:=o5.cl _ c v h4 (hvs f v h2) (fun q=>q);rwa [show (a*T.size d+f)%T.size d=f by rw [Nat.mul_comm,Nat.mul_add_mod,T0 h3]] at this
 obtain ⟨rs,p,k1,k2,k3,k4,k5,k6⟩:=ym7 (fe:=fe) (S:=S) (w:=w) H.length (hcsl.trans hvsl.symm) fun f c v h1 h2=>(hdc f c v h1 h2).1
 let OB:=rs.flatMap fun ra=>ze5 ra.ad
 have hob: ∀ {b:Nat},b∈OB-> ∃(r:Nat) (ra:RA),rs[r]?=some ra/\b∈ze5 ra.ad:=fun {b} hb=>by
  obtain ⟨ra,h1,h2⟩:=V4.1 hb;obtain ⟨r,hr⟩:=Y9.1 h1;exact ⟨r,ra,hr,h2⟩
 let φ':Nat->RA:=fun i=>if i<H.length then (if i=k then ⟨(φ k).ad,(φ k).n,(φ k).cap,(φ k).xs.filter fun b=> !OB.contains b⟩ else φ i) else rs.getD (i-H.length) ⟨none,0,0,[]⟩
 have pk:φ' k=⟨(φ k).ad,(φ k).n,(φ k).cap,(φ k).xs.filter fun b=> !OB.contains b⟩:=by show (if k<H.length then _ else _)=_;rw [if_pos hkl,if_pos rfl]
 have po: ∀i,i<H.length->i≠k->φ' i=φ i:=fun i hi hne=>by show (if i<H.length then _ else _)=_;rw [if_pos hi,if_neg hne]
 have pn: ∀r ra,rs[r]?=some ra->φ' (H.length+r)=ra:=fun r ra hr=>by
  show (if H.length+r<H.length then _ else _)=_;rw [if_neg (by omega),N5,Y2,hr];rfl
 have hs: ∀i,i<H.length->RSame (φ' i) (φ i):=fun i hi=>by
  by_cases he:i=k
  ·subst he;rw [pk];exact ⟨rfl,rfl,rfl⟩
  ·rw [po i hi he];exact .of rfl
 have hatk: ∀ {x},At (φ' k) x->At (φ k) x/\x.block∉OB:=fun {x} hx=>by
  rw [pk] at hx;have notOB: ∀ {b},b∈OB->b∈(φ k).xs/\ ∀a,(φ k).ad=some a->a.block≠b:=fun {b} hb=>by
   obtain ⟨r,ra,hr,hb⟩:=hob hb;obtain ⟨_,c,v,q2,q3,q4⟩:=k4 r ra hr;exact (hdc _ c v q2 q3).2 b (q4▸hb)
  rcases hx with hx|hx
  ·exact ⟨.inl hx,fun hb=>(notOB hb).2 x hx rfl⟩
  ·obtain ⟨h1,h2⟩:=W0.1 hx;exact ⟨.inr h1,fun hb=>absurd hb (by simpa using h2)⟩
 have hatn: ∀ {r ra x},rs[r]?=some ra->At ra x->x.block∈(φ k).xs/\x.block∈OB/\ ∃c v,cs[p r]?=some c/\vs[p r]?=some v/\x.block∈ya6 T (fe.getD (p r) 0) c v:=fun {r ra x} hr hx=>by
  obtain ⟨q1,c,v,q2,q3,q4⟩:=k4 r ra hr;have had:ra.ad=some x:=by
   rcases hx with hx|hx
   ·exact hx
   ·rw [q1] at hx;cases hx
  have hb:x.block∈ze5 ra.ad:=by rw [had];simp [ze5]
  exact ⟨((hdc _ c v q2 q3).2 _ (q4▸hb)).1,V4.2 ⟨ra,X6 hr,hb⟩,c,v,q2,q3,q4▸hb⟩
 have get: ∀(i:Nat) (f:Ent T.U),(yl6 T H k e d fe xs a)[i]?=some f->(i=k/\f=.drow e d fe xs (some (a,(zf0 T fe cs H.length).1)))\/(i<H.length/\i≠k/\H[i]?=some f)\/ ∃r ra,i=H.length+r/\rs[r]?=some ra/\(zf0 T fe cs H.length).2[r]?=some f:=by
  intro i f hf;unfold yl6 at hf
  grind
 have hlen:(yl6 T H k e d fe xs a).length=H.length+rs.length:=by unfold yl6;simp only [X9,Q1];rw [k1]
 refine ⟨φ',hs,h.ghost (by omega) hs (fun i e1 t ys hi hx=>?_) (fun i f hf hl x hx=>?_) (fun i f hf=>?_) (fun i f hf j hj=>?_) (fun i j f f' hf hf' hl hl' hij x y hx hy=>?_)⟩
 ·rcases get i _ hx with ⟨_,q⟩|⟨_,_,q⟩|⟨r,_,q,_⟩
  ·cases q
  ·exact q
  ·omega
 ·rcases get i f hf with ⟨rfl,rfl⟩|⟨q1,q2,q3⟩|⟨r,ra,rfl,q2,q3⟩
  ·exact ⟨i,_,x,hk,rfl,(hatk hx).1,rfl⟩
  ·rw [po i q1 q2] at hx;exact ⟨i,f,x,q3,hl,hx,rfl⟩
  ·rw [pn r ra q2] at hx;exact ⟨k,_,⟨x.block,0,none⟩,hk,rfl,.inr (hatn q2 hx).1,rfl⟩
 ·rcases get i f hf with ⟨rfl,rfl⟩|⟨q1,q2,q3⟩|⟨r,ra,rfl,q2,q3⟩
  ·refine ⟨B,vals,by rw [pk];exact o1,by rw [pk];exact o2,o3,fun z hz=>o4 z (by rw [pk] at hz;exact hz),fun j c v h1 h2 h3=>?_,fun j j' c c' v v' hj h1 h2 _ h4 h5 _=>o5.ap j j' c c' v v' hj h1 h2 (fun q=>q) h4 h5 fun q=>q,fun a0 cs0 hop=>?_⟩
   ·obtain ⟨g1,g2⟩:=o5.cl j c v h1 h2 (fun q=>q);refine ⟨g1,fun b hb=>?_⟩;rw [pk];refine ⟨W0.2 ⟨(g2 b hb).1,?_⟩,(g2 b hb).2⟩;cases hq:OB.contains b with
    |false=>rfl
    |true=>
     obtain ⟨r,ra,hr,hb'⟩:=hob (T3.1 hq);obtain ⟨_,c',v',q2,q3,q4⟩:=k4 r ra hr;obtain ⟨q5,q6⟩:=hcs _ c' q2;have hmod:(a*T.size d+p r)%T.size d=p r:=by rw [Nat.mul_comm,Nat.mul_add_mod,T0 q5]
     refine absurd (q4▸hb') (hmod▸o5.ap j _ c c' v v' (fun e=>h3 ?_) h1 h2 (fun q=>q) q6 (hvs _ v' q3) (fun q=>q) b hb);subst e;exact ⟨by omega,by omega⟩
   ·simp only [X0,X7] at hop;obtain ⟨rfl,rfl⟩:=hop;refine ⟨ha,(jq1 _ _ _).trans hcsl,fun f x hx=>?_⟩;obtain ⟨v,h1,h2⟩:=(k2 φ' pn).get T hx;exact ⟨v,hvs f v h1,h2⟩
  ·refine (h.ents i f q3).phiE (po i q1 q2) fun j hj=>hs j (h.eids i f q3 j hj)
  ·obtain ⟨ra',g1,g2,g3⟩:=k3 r f q3;rw [q2] at g1;obtain rfl:=X5 g1;refine g3 φ' (pn r ra q2) fun x hx=>?_;have:=(hatn q2 (.inl hx)).1;exact zi5 h hk rfl (a:=⟨x.block,0,none⟩) (.inr this)
 ·rw [hlen];rcases get i f hf with ⟨rfl,rfl⟩|⟨q1,q2,q3⟩|⟨r,ra,rfl,q2,q3⟩
  ·have:=k6 j hj;omega
  ·have:=h.eids i f q3 j hj;simp only at this;omega
  ·obtain ⟨ra',g1,g2,g3⟩:=k3 r f q3;rw [g2] at hj;cases hj
 ·rcases get i f hf with ⟨rfl,rfl⟩|⟨q1,q2,q3⟩|⟨r,ra,rfl,q2,q3⟩<;>rcases get j f' hf' with ⟨rfl,rfl⟩|⟨u1,u2,u3⟩|⟨r',ra',rfl,u2,u3⟩
  ·exact absurd rfl hij
  ·rw [po j u1 u2] at hy;exact h.apart i j _ _ hk u3 rfl hl' hij x y (hatk hx).1 hy
  ·rw [pn r' ra' u2] at hy;exact fun e=>(hatk hx).2 (e▸(hatn u2 hy).2.1)
  ·rw [po i q1 q2] at hx;exact h.apart i j _ _ q3 hk hl rfl hij x y hx (hatk hy).1
  ·rw [po i q1 q2] at hx;rw [po j u1 u2] at hy;exact h.apart i j _ _ q3 u3 hl hl' hij x y hx hy
  ·rw [po i q1 q2] at hx;rw [pn r' ra' u2] at hy;exact h.apart i k _ _ q3 hk hl rfl q2 x ⟨y.block,0,none⟩ hx (.inr (hatn u2 hy).1)
  ·rw [pn r ra q2] at hx;exact fun e=>(hatk hy).2 (e▸(hatn q2 hx).2.1)
  ·rw [pn r ra q2] at hx;rw [po j u1 u2] at hy;exact h.apart k j _ _ hk u3 rfl hl' (Ne.symm u2) ⟨x.block,0,none⟩ y (.inr (hatn q2 hx).1) hy
  ·rw [pn r ra q2] at hx;rw [pn r' ra' u2] at hy;obtain ⟨_,_,c,v,g1,g2,g3⟩:=hatn q2 hx;obtain ⟨_,_,c',v',g1',g2',g3'⟩:=hatn u2 hy;intro e;have hmod: ∀ {f:Nat},f<T.size d->(a*T.size d+f)%T.size d=f:=fun {f} hf=>by rw [Nat.mul_comm,Nat.mul_add_mod,T0 hf]
   have hap:=o5.ap _ _ c c' v v' (fun q=>hij ?_) (hcs _ c g1).2 (hvs _ v g2) (fun q=>q) (hcs _ c' g1').2 (hvs _ v' g2') (fun q=>q)
   ·rw [hmod (hcs _ c g1).1,hmod (hcs _ c' g1').1] at hap;exact absurd (e▸g3') (hap _ g3)
   rw [k5 r r' (by omega)]
end
end Go.X
namespace Go.X
open Go.RowKit Go.V
section
variable {T:Tab} {P:Program} {w w':World} {S S':List Nat} {φ φ':Nat->RA} {w0:World} {S0:Ow} {F:AF T} {H:List (Ent T.U)} {F':PF}
def nodup_cons {i r} (h:ze4 (i::r)=true):i∉r/\ze4 r=true:=by
 unfold ze4 at h;simp only [X3,V7] at h;exact ⟨fun a=>(by have:=zc9.2 a;rw [h.1] at this;cases this),h.2⟩
def CellsR.nilC:CellsR T w S [] []:=⟨rfl,fun j c v h=>by simp at h⟩
def qu1 (h:Sim T w0 S0 ⟨F,H⟩ F' w S φ) {t e a c l} (b:vm3 T H t e a=some (c,l)) {v} (g:VR T w S φ a v):
  DC T w S e c v/\((l= []/\ya6 T e c v= []/\ ∀j,a≠.own j)\/ ∃j q r ys,l= [j]/\a=.own j/\H[j]?=some (.row q r ys)/\ya6 T e c v=ze5 (φ j).ad):=by
 unfold vm3 at b;split at b
 ·rename_i j;split at b<;>try (cases b;done)
  rename_i D E ys s f;split at b<;>try (cases b;done)
  rename_i k;simp only [X3,V7] at k;obtain ⟨k,d⟩:=k;have:=X1 k;subst this;split at b<;>try (cases b;done)
  rename_i u;subst u;simp only [X0,X7] at b;obtain ⟨rfl,rfl⟩:=b;rw [VR] at g;subst g;obtain ⟨B,i,o,p,y,z,G⟩:=h.ents j _ f;refine ⟨⟨fun A=>absurd A (beq0 d),fun _=>⟨B,(φ j).ad,(φ j).cap,i,by rw [p],by rw [p] at o;exact o,y,z⟩⟩,.inr ⟨j,_,_,ys,rfl,rfl,f,by unfold ya6;rw [d]⟩⟩
 ·split at b<;>try (cases b;done)
  rename_i s;simp only [X0,X7] at b;obtain ⟨rfl,rfl⟩:=b;rw [VR] at g;subst g;exact ⟨⟨fun _=>CR.nilS,fun _=>⟨0,none,0,[],rfl,Own.nil _ _ _ _,U8 _,CellsR.nilC⟩⟩,.inl ⟨rfl,by unfold ya6;cases Nat.beq e 0<;>rfl,by intro j f;cases f⟩⟩
 ·split at b<;>try (cases b;done)
  rename_i C _ m;obtain ⟨t,x⟩:=C;cases d:Nat.beq e 0 with
  |true=>
   have:=X1 d;subst this;simp only [X0,X7] at b;obtain ⟨rfl,rfl⟩:=b;refine ⟨?_,.inl ⟨rfl,rfl,by intro j f;cases f⟩⟩;cases t<;>first|exact ⟨fun _=>g,fun h=>absurd rfl h⟩|exact g
  |false=>
   rw [d,Bool.or_false] at m;have n:ya6 T e (⟨t,x⟩:Cell T.U) v= []:=by unfold ya6;rw [d];cases t<;>first|(cases m;done)|rfl
   simp only [X0,X7] at b;obtain ⟨rfl,rfl⟩:=b;refine ⟨?_,.inl ⟨rfl,n,by intro j f;cases f⟩⟩;cases t<;>first|(cases m;done)|exact g
 ·cases b
def yw6 (h:Sim T w0 S0 ⟨F,H⟩ F' w S φ): ∀ {ts:List Ty} {fe:List TypeId} {aS:List (AV T.U)} {cs:List (Cell T.U)} {ids:List Nat} {vs:List Value},zy8 T H ts fe aS=some (cs,ids)->VRL T w S φ aS vs->
  cs.length=aS.length/\(∀(f:Nat) (c:Cell T.U) (v:Value),cs[f]?=some c->vs[f]?=some v->DC T w S (fe.getD f 0) c v)/\(∀(f:Nat) (c:Cell T.U) (v:Value) (b:Nat),cs[f]?=some c->vs[f]?=some v->b∈ya6 T (fe.getD f 0) c v-> ∃(j:Nat) (ad:Addr),aS[f]?=some (AV.own j:AV T.U)/\j∈ids/\(φ j).ad=some ad/\ad.block=b)/\
   (∀j∈ids,∃e t ys,H[j]?=some (.row e t ys))/\(∀(f j:Nat),aS[f]?=some (AV.own j:AV T.U)->j∈ids)/\(ze4 ids=true-> ∀(f f' j:Nat),aS[f]?=some (AV.own j:AV T.U)->aS[f']?=some (AV.own j:AV T.U)->f=f')
 | [],fe,[],cs,ids,vs,hc,_=>by
  simp only [zy8,X0,X7] at hc;obtain ⟨rfl,rfl⟩:=hc;exact ⟨rfl,fun f c v h=>by simp at h,fun f c v b h=>by simp at h,by simp,fun f j h=>by simp at h,fun _ f f' j h=>by simp at h⟩
 | [],_,_::_,_,_,_,hc,_=>by simp [zy8] at hc
 |_::_,_,[],_,_,_,hc,_=>by simp [zy8] at hc
 |_::_,_,_::_,_,_,[],_,hv=>hv.elim
 |t::ts,fe,a::aS,cs,ids,v::vs,hc,hv=>by
  unfold zy8 at hc;split at hc<;>try (cases hc;done)
  rename_i c l cs1 ls h1 h2;simp only [X0,X7] at hc;obtain ⟨rfl,rfl⟩:=hc;obtain ⟨g1,g2⟩:=qu1 h h1 hv.1;obtain ⟨k1,k2,k3,k4,k5,k6⟩:=yw6 h h2 hv.2;refine ⟨by simp [k1],fun f c' v' q1 q2=>?_,fun f c' v' b q1 q2 q3=>?_,fun j hj=>?_,fun f j hf=>?_,fun hn f f' j q1 q2=>?_⟩
  ·cases f with
   |zero=>
    simp only [Y4,X0] at q1 q2;subst q1;subst q2;rw [kl3];exact g1
   |succ f=>rw [gq7];exact k2 f c' v' (by simpa using q1) (by simpa using q2)
  ·cases f with
   |zero=>
    simp only [Y4,X0] at q1 q2;subst q1;subst q2;rw [kl3] at q3;rcases g2 with ⟨_,u2,_⟩|⟨j,_,_,_,rfl,rfl,_,u4⟩
    ·rw [u2] at q3;cases q3
    ·rw [u4] at q3;unfold ze5 at q3;split at q3
     ·rename_i ad had;simp only [Q5] at q3;exact ⟨j,ad,rfl,by simp,had,q3.symm⟩
     ·cases q3
   |succ f=>
    rw [gq7] at q3;obtain ⟨j,ad,u1,u2,u3,u4⟩:=k3 f c' v' b (by simpa using q1) (by simpa using q2) q3;exact ⟨j,ad,by simpa using u1,X4.2 (.inr u2),u3,u4⟩
  ·rcases X4.1 hj with hj|hj
   ·rcases g2 with ⟨rfl,_⟩|⟨j',_,_,_,rfl,_,u3,_⟩
    ·cases hj
    ·simp only [Q5] at hj;subst hj;exact ⟨_,_,_,u3⟩
   ·exact k4 j hj
  ·cases f with
   |zero=>
    simp only [Y4,X0] at hf;rcases g2 with ⟨_,_,u⟩|⟨j',_,_,_,rfl,rfl,_,_⟩
    ·exact absurd hf (u j)
    ·cases hf;simp
   |succ f=>exact X4.2 (.inr (k5 f j (by simpa using hf)))
  ·have hls:ze4 ls=true/\ ∀j,a=.own j->j∉ls:=by
    rcases g2 with ⟨rfl,_,u⟩|⟨j',_,_,_,rfl,rfl,_,_⟩
    ·exact ⟨hn,fun j hj=>absurd hj (u j)⟩
    ·obtain ⟨n1,n2⟩:=nodup_cons hn;exact ⟨n2,fun j hj=>by cases hj;exact n1⟩
   cases f with
   |zero=>
    simp only [Y4,X0] at q1;cases f' with
    |zero=>rfl
    |succ f'=>exact absurd (k5 f' j (by simpa using q2)) (hls.2 j q1)
   |succ f=>
    cases f' with
    |zero=>
     simp only [Y4,X0] at q2;exact absurd (k5 f j (by simpa using q1)) (hls.2 j q2)
    |succ f'=>rw [k6 hls.1 f f' j (by simpa using q1) (by simpa using q2)]
def yn5 {α:Type}: ∀(l cs:List α) (o j:Nat),o+l.length<=cs.length->(zj8 cs o l)[j]?=if o<=j/\j<o+l.length then l[j-o]? else cs[j]?
 | [],cs,o,j,_=>by rw [zj8,if_neg (by simp only [List.length_nil];omega)]
 |a::r,cs,o,j,h=>by
  simp only [U3] at h;have hl:o+1+r.length<=(cs.set o a).length:=by rw [Q1];omega
  rw [zj8,yn5 r _ _ _ hl]
  grind
def kj0 {α e:Type} {f:α->List e} {sz:Nat} (b: ∀y,(f y).length=sz) {l:List α} {a:Nat} {y:α} (d:a<l.length) (j:Nat):((l.set a y).flatMap f)[j]?=if a*sz<=j/\j<a*sz+sz then (f y)[j-a*sz]? else (l.flatMap f)[j]?:=by
 have g:l[a]?=some l[a]:=Y0 d;have h:a*sz+sz<=l.length*sz:=by rw [<-Nat.succ_mul];exact Q9 _ d
 rw [ym5 b g (y:=y) (l:=f y) (c:=0) (by rw [jb5 _ _ (by rw [b,b];exact W6 _),b,T4 (by rw [b];exact W6 _),V5]) (by rw [b];omega),yn5 _ _ _ _ (by rw [b,zc1 b];omega),b,M3]
def Sim.closeD (h:Sim T w0 S0 ⟨F,H⟩ F' w S φ) {k:Nat} {e:TypeId} {d:Nat} {fe:List TypeId} {xs:List (T.U d)} {a:Nat} {aS:List (AV T.U)} {l:List (Cell T.U)} {ids:List Nat} {y:T.U d} (hk:H[k]?=some (.drow e d fe xs (some (a,aS)))) (hc:zy8 T H (vl7 T d) fe aS=some (l,ids)) (hn:ze4 ids=true) (hp:T.pack d l=some y):
  ∃φ',(∀i,RSame (φ' i) (φ i))/\Sim T w0 S0 ⟨F,zw9 T (H.set k (.drow e d fe (xs.set a y) none)) ids⟩ F' w S φ':=by
 obtain ⟨B,vals,o1,o2,o3,o4,o5⟩:=h.ents k _ hk;have hkl:=(X2.1 hk).1;obtain ⟨ha,hal,hop⟩:=o5.opn _ _ rfl;have hvl:vals.length=xs.length*T.size d:=by rw [o1.len,o2]
 have hle:a*T.size d+T.size d<=xs.length*T.size d:=by rw [<-Nat.succ_mul];exact Q9 _ ha
 let vs:=(vals.drop (a*T.size d)).take (T.size d)
 have hvsl:vs.length=T.size d:=by simp [vs];omega
 have hvs: ∀f,f<T.size d->vs[f]?=vals[a*T.size d+f]?:=fun f hf=>by simp only [vs,Z3,if_pos hf,Q6]
 have hvrl:VRL T w S φ aS vs:=by
  have key: ∀(aS:List (AV T.U)) (vs:List Value),aS.length=vs.length->(∀(f:Nat) (x:AV T.U),aS[f]?=some x-> ∃v,vs[f]?=some v/\VR T w S φ x v)->VRL T w S φ aS vs:=by
   intro aS;induction aS with
   |nil=>intro vs hl _;cases vs with
    |nil=>trivial
    |cons _ _=>simp at hl
   |cons x r ih=>
    intro vs hl hx;cases vs with
    |nil=>simp at hl
    |cons v s=>
     obtain ⟨v',h1,h2⟩:=hx 0 x rfl;simp only [Y4,X0] at h1;subst h1;exact ⟨h2,ih s (by simpa using hl) fun f z hz=>by simpa using hx (f+1) z (by simpa using hz)⟩
  refine key aS vs (hal.trans hvsl.symm) fun f x hx=>?_;have hf:f<T.size d:=by have:=(X2.1 hx).1;omega
  rw [hvs f hf];exact hop f x hx
 obtain ⟨k1,k2,k3,k4,k5,k6⟩:=yw6 h hc hvrl;have hy:T.cells d y=l:=T.packed _ _ _ hp;have hki:k∉ids:=fun hm=>by obtain ⟨_,_,_,q⟩:=k4 k hm;rw [hk] at q;cases q
 let φ':Nat->RA:=fun i=>if i=k then ⟨(φ k).ad,(φ k).n,(φ k).cap,(φ k).xs++ids.flatMap fun j=>(φ j).all⟩ else φ i
 have pk:φ' k=⟨(φ k).ad,(φ k).n,(φ k).cap,(φ k).xs++ids.flatMap fun j=>(φ j).all⟩:=if_pos rfl;have po: ∀i,i≠k->φ' i=φ i:=fun i hi=>if_neg hi;have hs: ∀i,RSame (φ' i) (φ i):=fun i=>by
  by_cases he:i=k
  ·subst he;rw [pk];exact ⟨rfl,rfl,rfl⟩
  ·rw [po i he];exact .of rfl
 have hatk: ∀ {x},At (φ' k) x->At (φ k) x\/ ∃j∈ids,∃z,At (φ j) z/\z.block=x.block:=fun {x} hx=>by
  rw [pk] at hx;rcases hx with hx|hx
  ·exact .inl (.inl hx)
  ·rcases X4.1 hx with hx|hx
   ·exact .inl (.inr hx)
   ·obtain ⟨j,hj,hx⟩:=V4.1 hx;exact .inr ⟨j,hj,zu8.1 hx⟩
 have get: ∀(i:Nat) (f:Ent T.U),(zw9 T (H.set k (.drow e d fe (xs.set a y) none)) ids)[i]?=some f->f.live=true->(i=k/\f=.drow e d fe (xs.set a y) none)\/(i∉ids/\i≠k/\H[i]?=some f):=by
  intro i f hf hl;obtain ⟨g1,g2⟩:=qf1 hf hl;by_cases he:i=k
  ·subst he;rw [Q0 hkl] at g2;exact .inl ⟨rfl,(X5 g2).symm⟩
  ·rw [Z5 (Ne.symm he)] at g2;exact .inr ⟨g1,he,g2⟩
 have hlen:(zw9 T (H.set k (.drow e d fe (xs.set a y) none)) ids).length=H.length:=by rw [jf2];simp
 have hcl: ∀ {f:Ent T.U},f=.gone\/f.live=true:=fun {f}=>by cases f<;>first|exact .inl rfl|exact .inr rfl
 have cells: ∀j c v,((xs.set a y).flatMap (T.cells d))[j]?=some c->vals[j]?=some v->(∃f,j=a*T.size d+f/\f<T.size d/\l[f]?=some c/\vs[f]?=some v)\/((xs.flatMap (T.cells d))[j]?=some c/\ ¬vg9 T (T.size d) (some (a,aS)) j):=by
  intro j c v h1 h2;rw [kj0 (T.len d) ha] at h1;split at h1
  ·rename_i hj;rw [hy] at h1;refine .inl ⟨j-a*T.size d,by omega,by omega,h1,?_⟩;rw [hvs _ (by omega),show a*T.size d+(j-a*T.size d)=j by omega];exact h2
  ·rename_i hj;exact .inr ⟨h1,hj⟩
 refine ⟨φ',hs,h.ghost (by omega) (fun i _=>hs i) (fun i e1 t ys _ hx=>?_) (fun i f hf hl x hx=>?_) (fun i f hf=>?_) (fun i f hf j hj=>?_) (fun i j f f' hf hf' hl hl' hij x z hx hz=>?_)⟩
 ·rcases get i _ hx rfl with ⟨_,q⟩|⟨_,_,q⟩
  ·cases q
  ·exact q
 ·rcases get i f hf hl with ⟨rfl,rfl⟩|⟨_,q2,q3⟩
  ·rcases hatk hx with hx|⟨j,hj,z,hz,he⟩
   ·exact ⟨i,_,x,hk,rfl,hx,rfl⟩
   ·obtain ⟨_,_,_,q⟩:=k4 j hj;exact ⟨j,_,z,q,rfl,hz,he⟩
  ·rw [po i q2] at hx;exact ⟨i,f,x,q3,hl,hx,rfl⟩
 ·rcases hcl (f:=f) with rfl|hl
  ·trivial
  rcases get i f hf hl with ⟨rfl,rfl⟩|⟨_,q2,q3⟩
  ·refine ⟨B,vals,by rw [pk];exact o1,by rw [pk,Q1];exact o2,o3,fun z hz=>o4 z (by rw [pk] at hz;exact hz),fun j c v h1 h2 _=>?_,fun j j' c c' v v' hj h1 h2 _ h4 h5 _ b hb hb'=>?_,fun a0 cs0 hq=>by cases hq⟩
   ·rcases cells j c v h1 h2 with ⟨f,rfl,hf,u1,u2⟩|⟨u1,u2⟩
    ·rw [show (a*T.size d+f)%T.size d=f by rw [Nat.mul_comm,Nat.mul_add_mod,T0 hf]];refine ⟨k2 f c v u1 u2,fun b hb=>?_⟩;obtain ⟨j,ad,g1,g2,g3,rfl⟩:=k3 f c v b u1 u2 hb;obtain ⟨_,_,_,q⟩:=k4 j g2;rw [pk];refine ⟨X4.2 (.inr (V4.2 ⟨j,g2,zu8.2 ⟨ad,.inl g3,rfl⟩⟩)),fun z hz=>?_⟩;exact h.apart i j _ _ hk q rfl rfl (fun e=>hki (e▸g2)) z ad (.inl hz) (.inl g3)
    ·obtain ⟨g1,g2⟩:=o5.cl j c v u1 h2 u2;refine ⟨g1,fun b hb=>?_⟩;rw [pk];exact ⟨X4.2 (.inl (g2 b hb).1),(g2 b hb).2⟩
   ·have hmod: ∀ {f:Nat},f<T.size d->(a*T.size d+f)%T.size d=f:=fun {f} hf=>by rw [Nat.mul_comm,Nat.mul_add_mod,T0 hf]
    have mixed: ∀ {f:Nat} {c:Cell T.U} {v:Value} {j':Nat} {c':Cell T.U} {v':Value},l[f]?=some c->vs[f]?=some v->(xs.flatMap (T.cells d))[j']?=some c'->vals[j']?=some v'-> ¬vg9 T (T.size d) (some (a,aS)) j'->b∈ya6 T (fe.getD f 0) c v->b∈ya6 T (fe.getD (j'%T.size d) 0) c' v'->False:=by
     intro f c v j' c' v' u1 u2 u3 u4 u5 u6 u7;obtain ⟨j,ad,g1,g2,g3,rfl⟩:=k3 f c v b u1 u2 u6;obtain ⟨_,_,_,q⟩:=k4 j g2;have:=((o5.cl j' c' v' u3 u4 u5).2 _ u7).1;exact h.apart i j _ _ hk q rfl rfl (fun e=>hki (e▸g2)) ⟨ad.block,0,none⟩ ad (.inr this) (.inl g3) rfl
    rcases cells j c v h1 h2 with ⟨f,rfl,hf,u1,u2⟩|⟨u1,u2⟩<;>rcases cells j' c' v' h4 h5 with ⟨f',rfl,hf',u1',u2'⟩|⟨u1',u2'⟩
    ·rw [hmod hf] at hb;rw [hmod hf'] at hb';obtain ⟨j,ad,g1,g2,g3,rfl⟩:=k3 f c v b u1 u2 hb;obtain ⟨j',ad',g1',g2',g3',g4'⟩:=k3 f' c' v' _ u1' u2' hb';obtain ⟨_,_,_,q⟩:=k4 j g2;obtain ⟨_,_,_,q'⟩:=k4 j' g2';by_cases hjj:j=j'
     ·subst hjj;exact hj (by rw [k6 hn f f' j g1 g1'])
     ·exact h.apart j j' _ _ q q' rfl rfl hjj ad ad' (.inl g3) (.inl g3') g4'.symm
    ·rw [hmod hf] at hb;exact mixed u1 u2 u1' h5 u2' hb hb'
    ·rw [hmod hf'] at hb';exact mixed u1' u2' u1 h2 u2 hb' hb
    ·exact o5.ap j j' c c' v v' hj u1 h2 u2 u1' h5 u2' b hb hb'
  ·exact (h.ents i f q3).phiE (po i q2) fun j _=>hs j
 ·rw [hlen];rcases hcl (f:=f) with rfl|hl
  ·cases hj
  rcases get i f hf hl with ⟨rfl,rfl⟩|⟨_,q2,q3⟩
  ·cases hj
  ·exact h.eids i f q3 j hj
 ·have mixed: ∀ {i f x z},i∉ids->i≠k->H[i]?=some f->f.live=true->At (φ' k) x->At (φ' i) z->x.block≠z.block:=by
   intro i f x z u1 u2 u3 u4 u5 u6;rw [po i u2] at u6;rcases hatk u5 with hx|⟨j,hj,z',hz',he⟩
   ·exact h.apart k i _ _ hk u3 rfl u4 (Ne.symm u2) x z hx u6
   ·obtain ⟨_,_,_,q⟩:=k4 j hj;rw [<-he];exact h.apart j i _ _ q u3 rfl u4 (fun e=>u1 (e▸hj)) z' z hz' u6
  rcases get i f hf hl with ⟨rfl,rfl⟩|⟨q1,q2,q3⟩<;>rcases get j f' hf' hl' with ⟨rfl,rfl⟩|⟨u1,u2,u3⟩
  ·exact absurd rfl hij
  ·exact mixed u1 u2 u3 hl' hx hz
  ·exact (mixed q1 q2 q3 hl hz hx).symm
  ·rw [po i q2] at hx;rw [po j u2] at hz;exact h.apart i j _ _ q3 u3 hl hl' hij x z hx hz
def jh1 {k:Nat} (h:Sim T w0 S0 ⟨F,H⟩ F' w S φ): ∃φ',Sim T w0 S0 ⟨F,yr5 T H k⟩ F' w S φ'/\(∀i,RSame (φ' i) (φ i))/\(yr5 T H k).length=H.length:=by
 unfold yr5;split
 ·rename_i hk;split
  ·rename_i hc;split
   ·rename_i hn hp;obtain ⟨φ',h1,h2⟩:=h.closeD hk hc hn hp;exact ⟨φ',h2,h1,by rw [jf2];simp⟩
   ·exact ⟨φ,h,fun _=>.of rfl,rfl⟩
  ·exact ⟨φ,h,fun _=>.of rfl,rfl⟩
 ·exact ⟨φ,h,fun _=>.of rfl,rfl⟩
def jy6 {k} (h:zd1 T w0 S0 ⟨F,H⟩ F' w):zd1 T w0 S0 ⟨F,yr5 T H k⟩ F' w:=by
 obtain ⟨S,φ,h⟩:=h;obtain ⟨φ',a,_⟩:=jh1 (k:=k) h;exact ⟨S,φ',a⟩
def zw6: ∀(l) {H},zd1 T w0 S0 ⟨F,H⟩ F' w->zd1 T w0 S0 ⟨F,closeL T l H⟩ F' w
 | [],H,h=>h
 |k::r,H,h=>zw6 r (jy6 h)
def VRL.phiS {aS:List (AV T.U)} {vs:List Value} (h:VRL T w S φ aS vs) (hi: ∀i∈za1 aS,RSame (φ' i) (φ i)):VRL T w S φ' aS vs:=by
 have:=VRL.renS T (ρ:=id) (φ':=φ') hi h;rwa [zr1] at this
def Sim.closeL: ∀(l) {H φ},Sim T w0 S0 ⟨F,H⟩ F' w S φ-> ∃φ',Sim T w0 S0 ⟨F,closeL T l H⟩ F' w S φ'/\(∀i,RSame (φ' i) (φ i))/\(Go.X.closeL T l H).length=H.length
 | [],H,φ,h=>⟨φ,h,fun _=>.of rfl,rfl⟩
 |k::r,H,φ,h=>by
  obtain ⟨b,c,d,e⟩:=jh1 (k:=k) h;obtain ⟨a,f,g,j⟩:=Sim.closeL r c;exact ⟨a,f,fun i=>(g i).trans (d i),j.trans e⟩
def DC.frz {e c v} (h:DC T w S e c v) (j: ∀b∈S',b∈S) (k: ∀b∈ya6 T e c v,b∈S/\b∉S'):yo0 T w S' c v:=by
 obtain ⟨t,x⟩:=c;cases t with
 |list t=>
  cases hez:Nat.beq e 0 with
  |true=>exact CR.sub0 (h.1 (X1 hez)) j
  |false=>
  obtain ⟨B,ad,cap,d,rfl,l,m,n⟩:=h.2 (beq0 hez);have f: ∀a,ad=some a->a.block∈S/\a.block∉S':=fun a g=>k _ (by subst g;simp [ya6,hez,ze5]);have:=qb6 (T:=T) (w:=w) (S:=S) (S':=S') (φ:=fun _=>⟨ad,List.length (α:=den T.U t) x,cap,[]⟩) (i:=0) (e:=e) (t:=t) (xs:=x) ⟨B,d,l,rfl,m,n,fun a g=>(f a g).1⟩ j fun a g=>(f a g).2;exact this
 |_=>exact CR.sub0 h j
def Sim.seal1 (h:Sim T w0 S0 ⟨F,H⟩ F' w S φ) (hF: ∀i a,F.get T i=some a->zj5 a=true) {k:Nat} {e:TypeId} {d:Nat} {fe:List TypeId} {xs:List (T.U d)} (hk:H[k]?=some (.drow e d fe xs none)):
  ∃S' φ',Sim T w0 S0 ⟨F,H.set k (.row e (.user d) xs)⟩ F' w S' φ':=by
 obtain ⟨B,vals,o1,o2,o3,o4,o5⟩:=h.ents k _ hk;have hkl:=(X2.1 hk).1
 let S':=S.filter fun b=> !(φ k).xs.contains b||(ze5 (φ k).ad).contains b
 let φ':Nat->RA:=fun i=>if i=k then ⟨(φ k).ad,(φ k).n,(φ k).cap,[]⟩ else φ i
 have pk:φ' k=⟨(φ k).ad,(φ k).n,(φ k).cap,[]⟩:=if_pos rfl;have po: ∀i,i≠k->φ' i=φ i:=fun i hi=>if_neg hi;have hs: ∀i,RSame (φ' i) (φ i):=fun i=>by
  by_cases he:i=k
  ·subst he;rw [pk];exact ⟨rfl,rfl,rfl⟩
  ·rw [po i he];exact .of rfl
 have hsub: ∀b∈S',b∈S:=fun b hb=>(W0.1 hb).1;have hin: ∀ {b},b∈S->(b∉(φ k).xs\/ ∃a,(φ k).ad=some a/\a.block=b)->b∈S':=fun {b} hb hor=>by
  refine W0.2 ⟨hb,?_⟩;rcases hor with h1|⟨a,h1,h2⟩
  ·grind
  ·have:(ze5 (φ k).ad).contains b=true:=T3.2 (by rw [h1,<-h2];simp [ze5]);rw [this,Bool.or_true]
 have hroot: ∀ {b},b∈S'->b∈(φ k).xs-> ∃a,(φ k).ad=some a/\a.block=b:=fun {b} hb hx=>by
  have:=(W0.1 hb).2;rw [T3.2 hx,W7,Bool.false_or] at this;have:=T3.1 this;unfold ze5 at this
  grind
 have get: ∀(i:Nat) (f:Ent T.U),(H.set k (.row e (.user d) xs))[i]?=some f->(i=k/\f=.row e (.user d) xs)\/(i≠k/\H[i]?=some f):=by
  grind
 have hoff: ∀ {i f a},i≠k->H[i]?=some f->f.live=true->At (φ i) a->a.block∈S':=fun {i f a} hi hf hl ha=>
  hin (zi5 h hf hl ha) (.inl fun hx=>h.apart k i _ f hk hf rfl hl (Ne.symm hi) ⟨a.block,0,none⟩ a (.inr hx) ha rfl)
 have hatk: ∀ {a},At (φ' k) a->(φ k).ad=some a:=fun {a} ha=>by
  rw [pk] at ha;rcases ha with ha|ha
  ·exact ha
  ·cases ha
 refine ⟨S',φ',fun i a ha=>?_,fun i a ha=>⟨fun j hj=>by simpa using (h.ids i a ha).1 j hj,?_⟩,h.chg,fun b hb=>h.own b (hsub b hb),fun b hb q1 q2=>?_,fun i f hf hl a ha=>?_,fun q r hq=>⟨(hs q).trans (h.pins q r hq).1,by simpa using (h.pins q r hq).2⟩,fun i f hf=>?_,fun i f hf j hj=>?_,fun i j f f' hf hf' hl hl' hij a b ha hb=>?_⟩
 ·obtain ⟨v,h1,h2⟩:=h.fr i a ha;exact ⟨v,h1,(h2.chg T (Chg.refl [] w) (by simp) fun b hb=>.inl (hsub b hb)).phiS fun j _=>hs j⟩
 ·have:=hF i a ha;cases a<;>first|trivial|cases this
 ·refine hin (h.ex b hb q1 q2) (.inl fun hx=>?_);rcases (h.lives k _ hk rfl ⟨b,0,none⟩ (.inr hx)).2 with hm|hm
  ·exact q1 hm
  ·have hm:w0.heap.size<=b:=hm;omega
 ·rcases get i f hf with ⟨rfl,rfl⟩|⟨q1,q2⟩
  ·have ha:=hatk ha;exact ⟨hin (o4 a ha) (.inr ⟨a,ha,rfl⟩),(h.lives i _ hk rfl a (.inl ha)).2⟩
  ·rw [po i q1] at ha;exact ⟨hoff q1 q2 hl ha,(h.lives i f q2 hl a ha).2⟩
 ·rcases get i f hf with ⟨rfl,rfl⟩|⟨q1,q2⟩
  ·refine ⟨B,vals,by rw [pk];exact o1,by rw [pk];exact o2,o3,⟨?_,fun j c v h1 h2=>?_⟩,fun a ha=>?_⟩
   ·rw [o1.len,o2];exact zc1 (f:=zc6 T (.user d)) (sz:=T.size d) (fun y=>T.len d y) xs
   ·obtain ⟨g1,g2⟩:=o5.cl j c v h1 h2 (fun q=>q);refine g1.frz hsub fun b hb=>⟨zi5 h hk rfl (a:=⟨b,0,none⟩) (.inr (g2 b hb).1),fun hm=>?_⟩;obtain ⟨a,ha,hab⟩:=hroot hm (g2 b hb).1;exact (g2 b hb).2 a ha hab
   ·rw [pk] at ha;exact hin (o4 a ha) (.inr ⟨a,ha,rfl⟩)
  ·exact ((h.ents i f q2).chg T (Chg.refl [] w) (by simp) (fun b hb=>.inl (hsub b hb)) fun hl a ha=>⟨by simp,hoff q1 q2 hl ha⟩).phiE (po i q1) fun j _=>hs j
 ·rw [Q1];rcases get i f hf with ⟨rfl,rfl⟩|⟨q1,q2⟩
  ·cases hj
  ·exact h.eids i f q2 j hj
 ·rcases get i f hf with ⟨rfl,rfl⟩|⟨q1,q2⟩<;>rcases get j f' hf' with ⟨rfl,rfl⟩|⟨u1,u2⟩
  ·exact absurd rfl hij
  ·rw [po j u1] at hb;exact h.apart i j _ f' hk u2 rfl hl' hij a b (.inl (hatk ha)) hb
  ·rw [po i q1] at ha;exact h.apart i j f _ q2 hk hl rfl hij a b ha (.inl (hatk hb))
  ·rw [po i q1] at ha;rw [po j u1] at hb;exact h.apart i j f f' q2 u2 hl hl' hij a b ha hb
def km2 (F:AF T):Bool:=F.all fun p=>zj5 p.2
def jp8: ∀ {F:AF T},km2 F=true-> ∀i a,F.get T i=some a->zj5 a=true
 | [],_,i,a,h=>by simp [AF.get] at h
 |(j,b)::r,hF,i,a,h=>by
  unfold km2 at hF;rw [V6,X3] at hF;simp only [AF.get] at h;split at h
  ·grind
  ·exact jp8 (F:=r) hF.2 i a h
def gp0 (H:List (Ent T.U)) (k:Nat):List (Ent T.U):=match H[k]? with|some (.drow e d _ xs none)=>H.set k (.row e (.user d) xs)|_=>H
def gu0:List Nat->List (Ent T.U)->List (Ent T.U)
 | [],H=>H
 |k::r,H=>gu0 r (gp0 H k)
def ji0 (hF: ∀i a,F.get T i=some a->zj5 a=true): ∀(l) {H},zd1 T w0 S0 ⟨F,H⟩ F' w->zd1 T w0 S0 ⟨F,gu0 l H⟩ F' w
 | [],H,h=>h
 |k::r,H,h=>by
  refine ji0 hF r ?_;unfold gp0;split
  ·rename_i b;obtain ⟨S,φ,h⟩:=h;obtain ⟨S',φ',c⟩:=h.seal1 hF b;exact ⟨S',φ',c⟩
  ·exact h
def dzS:Nat->St T->St T
 |0,st=>st
 |1,st=>⟨st.F,closeL T (List.range st.H.length) st.H⟩
 |_,st=>match km2 st.F with|true=>⟨st.F,gu0 (List.range st.H.length) (closeL T (List.range st.H.length) st.H)⟩|false=>st
def qe7: ∀(m) {st},zd1 T w0 S0 st F' w->zd1 T w0 S0 (dzS m st) F' w
 |0,_,h=>h
 |1,⟨F,H⟩,h=>zw6 _ h
 |_+2,⟨F,H⟩,h=>by
  cases hF:km2 F with
  |true=>simp only [dzS,hF];exact ji0 (jp8 hF) _ (zw6 _ h)
  |false=>simp only [dzS,hF];exact h
end
end Go.X
namespace Go.X
open Go.RowKit Go.V
section
variable {T:Tab} (P:Program) (C:Ctx T) {R:Type}
def qw2:AV T.U->Bool| .cell c=>c.t.scal|_=>false
def gk1:AV T.U->Bool| .agg cs=>cs.all qw2|a=>qw2 a
def yv4 (t:TypeId) (H:List (Ent T.U)) (k sz a c:Nat) (e:TypeId) (d:Nat) (fe:List TypeId) (xs:List (T.U d)) (f:Option (Nat×List (AV T.U))) (K:AV T.U->List (Ent T.U)->Option R):Option R:=
 match Nat.beq sz (T.size d) with
 |false=>none
 |true=>match f with
  |none=>match zu0 T P t ((elD T d xs a).map .cell) c with
   |some v=>match gk1 v with
    |true=>if a<xs.length then K v H else none
    |false=>match zu0 T P t (zf0 T fe (elD T d xs a) H.length).1 c with
     |some u=>(match zj5 u with|true=>if a<xs.length then K u (yl6 T H k e d fe xs a) else none|false=>none)
     |none=>none
   |none=>none
  |some (b,cs)=>match zu0 T P t cs c with
   |some u=>(match zj5 u with|true=>if a=b then K u H else none|false=>none)
   |none=>none
def yh3 (t:TypeId) (H:List (Ent T.U)) (k sz a c:Nat) (e:TypeId) (d:Nat) (fe:List TypeId) (xs:List (T.U d)) (f:Option (Nat×List (AV T.U))) (v:AV T.U) (K:List (Ent T.U)->Option R):Option R:=
 match Nat.beq sz (T.size d)&&jz7 T P t c (T.size d) v with
 |false=>none
 |true=>match f with
  |none=>if a<xs.length then K ((yl6 T H k e d fe xs a).set k (.drow e d fe xs (some (a,yl7 T (zf0 T fe (elD T d xs a) H.length).1 c (zf8 T v))))) else none
  |some (b,cs)=>if a=b then K (H.set k (.drow e d fe xs (some (b,yl7 T cs c (zf8 T v))))) else none
variable (T) in
def gu2 (t:Ty) (v:Value):Option (Cell T.U):=
 match t,v with
 | .list a,.slice none 0 0=>some ⟨.list a,[]⟩
 |_,v=>match qo1 T (yw9 T v) with|some c=>(match c.t.scal with|true=>some c|false=>none)|none=>none
variable (T) in
def yy6:List Ty->List Value->Option (List (Cell T.U))
 | [],[]=>some []
 |t::a,v::vs=>match gu2 T t v,yy6 a vs with|some c,some l=>some (c::l)|_,_=>none
 |_,_=>none
def qd0 (d:Nat) (fe:List TypeId) (t:TypeId) (H:List (Ent T.U)) (l c:Int) (K:AV T.U->List (Ent T.U)->Option R):Option R:=
 match zt9 P t with
 |some (e,sz,a,b)=>match Nat.beq sz (T.size d),yy6 T (vl7 T d) b.toList with
  |true,some z=>match T.pack d z with
   |some f=>if 0<=l/\l<=c/\a*c.toNat<=281474976710656/\c<=9223372036854775807 then K (.own H.length) (H++ [.drow e d fe (List.replicate l.toNat f) none]) else none
   |none=>none
  |_,_=>none
 |none=>none
def idxD (n:Nat) (j:Int) (x:Nat->Option R):Option R:=if 0<=j/\j<((n:Nat):Int) then x j.toNat else none
def zo3 (o:Oper) (st:St T) (K:St T->Option R):Option (Option R):=
 match o.op with
 | .makeSlice t x y=>match C.dr t with
  |some (d,fe)=>some (match aev T st.F x,aev T st.F y with|some (.cell ⟨.int _,l⟩),some (.cell ⟨.int _,c⟩)=>qd0 P d fe t st.H l c (fun a H=>K ⟨zc2 T st.F o.dst a,H⟩)|_,_=>none)
  |none=>none
 | .indexAddr t x y=>match aev T st.F x with
  |some (.own k)=>match st.H[k]? with
   |some (.drow _ d _ xs _)=>some (match aev T st.F y,yx9 T P t (.user d) with
    |some (.cell ⟨.int _,j⟩),true=>idxD xs.length j fun a=>K ⟨zc2 T st.F o.dst (.eptr k (T.size d) a 0),st.H⟩
    |_,_=>none)
   |_=>none
  |_=>none
 | .load t x=>match aev T st.F x with
  |some (.eptr k sz a c)=>match st.H[k]? with
   |some (.drow e d fe xs b)=>some (yv4 P t st.H k sz a c e d fe xs b fun v H=>K ⟨zc2 T st.F o.dst v,H⟩)
   |_=>none
  |_=>none
 | .store t x y=>match aev T st.F x with
  |some (.eptr k sz a c)=>match st.H[k]? with
   |some (.drow e d fe xs b)=>some (match o.dst,aev T st.F y with|none,some v=>yh3 P t st.H k sz a c e d fe xs b v fun H=>K ⟨st.F,H⟩|_,_=>none)
   |_=>none
  |_=>none
 |_=>none
end
section
variable {T:Tab} {P:Program} {C:Ctx T} {w w':World} {S S':List Nat} {φ φ':Nat->RA} {w0:World} {S0:Ow} {F:AF T} {H:List (Ent T.U)} {F':PF}
variable {ops:Array Oper} {Q:Exit->Act->World->Prop} {k n:Nat} {ds:List Deferred} {o:Oper}
def qf5 {R:Type} {r:R} {m:Nat} {j:Int} {x:Nat->Option R} (h:idxD m j x=some r):(0<=j/\j<((m:Nat):Int))/\x j.toNat=some r:=za7 h
def qg7 {i:Nat} {e0:Ent T.U} (hi:H[i]?=some e0) (e:TypeId) (d:Nat) (fe:List TypeId) (xs:List (T.U d)) (a:Nat):(yl6 T H i e d fe xs a)[i]?=some (.drow e d fe xs (some (a,(zf0 T fe (elD T d xs a) H.length).1))):=by
 have hil:=(X2.1 hi).1;unfold yl6
 grind
def yz4 (h:Sim T w0 S0 ⟨F,H⟩ F' w S φ) {i:Nat} {e:TypeId} {d:Nat} {fe:List TypeId} {xs:List (T.U d)} {op:Option (Nat×List (AV T.U))} (hi:H[i]?=some (.drow e d fe xs op)) {a:Nat} (ha:a<xs.length):
  ∃g c B vals,(φ i).ad=some ⟨g,0,none⟩/\(φ i).n=xs.length/\Own w B e (T.size d) (φ i).ad xs.length (φ i).cap vals/\Blk w g c e/\(φ i).cap*T.size d<=c.size/\c.toList.take (xs.length*T.size d)=vals/\g∈S/\B<=g/\B<=w.heap.size/\xs.length<=(φ i).cap/\(φ i).cap<=maxLen/\DRel T w S φ (φ i) d fe xs op vals/\
   vals.length=xs.length*T.size d/\a*T.size d+T.size d<=xs.length*T.size d/\Rg w (some ⟨g,0+a*T.size d,none⟩) ((vals.drop (a*T.size d)).take (T.size d)):=by
 obtain ⟨B,vals,h1,h2,h3,h4,h5⟩:=h.ents i _ hi;rw [h2] at h1;rcases h1.cases with ⟨_,hn,_⟩|⟨c,had,hB,hb,hle,hm,hs,ht⟩
 ·omega
 ·refine ⟨bk (φ i).ad,c,B,vals,had,h2,h1,hb,hs,ht,h4 _ had,hB,h3,hle,hm,h5,h1.len,?_,?_⟩
  ·rw [<-Nat.succ_mul];exact Q9 _ ha
  ·have hr:=h1.rg;rw [had] at hr;exact hr.sub (a*T.size d) (T.size d) _ (fun _=>rfl)
def qx5 {Z:Prop} {rd:List Nat} {t:TypeId} {x:Operand} (p:dec ops k n F'=some o) (q:o.op=.load t x) {b o0 c:Nat} {cs:List (AV T.U)} {e:List Value} {a:AV T.U} (B:ev F' x=some (.pointer (some ⟨b,o0+c,none⟩)))
  (z: ∀h,Chg S w h->Same φ rd w h->Rg h (some ⟨b,o0,none⟩) e) (r:VRL T w S φ cs e) (D:zu0 T P t cs c=some a)
  (K: ∀v,QR P F' o S φ rd w v->VR T w S φ a v->(∀i∈a.ids,i∈za1 cs)->Z):Z:=by
 obtain ⟨i,d,E,s,f⟩:=jp0 D;have l: ∀i∈a.ids,i∈za1 cs:=jt9 f;have g:=zy9 p q;rw [u9 B] at g;cases hag:ye3 d with
 |false=>
  rw [hag] at f;obtain ⟨v,G,I⟩:=r.get T (show cs[c]?=some a from f);have u:zk7 P t=true:=by unfold zk7;rw [s];cases d<;>simp_all [ye3]
  refine K v (QR.load1 p g u v ?_) I l;exact fun h f y=>(z h f y c v G).2
 |true=>
  rw [hag] at f;unfold jy7 at f;simp only at f;split at f
  ·rename_i m;simp only [X0] at f;subst f;have u:zk7 P t=false:=by unfold zk7;rw [s];cases d<;>simp_all [ye3]
   have A:=r.len T;have m:=Y1 m;refine K _ (QR.loadA (ad:=some ⟨b,o0,none⟩) (j:=c) (cs:=e) (sz:=i.size) p z g u (by rw [s];rfl) (by unfold yb2;rw [E];rfl) ((e.drop c).take i.size) (by rw [Y6,Q7];omega) rfl) ⟨_,rfl,?_⟩ l;simpa using (r.drop T c).take T i.size
  ·cases f
def gp9: ∀(aS:List (AV T.U)) (vs:List Value),aS.length=vs.length->(∀(f:Nat) (x:AV T.U),aS[f]?=some x-> ∃v,vs[f]?=some v/\VR T w S φ x v)->VRL T w S φ aS vs
 | [],[],_,_=>trivial
 | [],_::_,h,_=>by simp at h
 |_::_,[],h,_=>by simp at h
 |x::r,v::s,hl,hx=>by
  obtain ⟨v',h1,h2⟩:=hx 0 x rfl;simp only [Y4,X0] at h1;subst h1;exact ⟨h2,gp9 r s (by simpa using hl) fun f z hz=>by simpa using hx (f+1) z (by simpa using hz)⟩
def qx9:List (Cell T.U)->List Value->List (AV T.U)
 |c::r,v::s=>(match c.t.scal with|true=>.cell c|false=>.raw v)::qx9 r s
 |_,_=> []
def qy0: ∀ {cs vs},cs.length=vs.length->(∀(f:Nat) (c:Cell T.U) (v:Value),cs[f]?=some c->vs[f]?=some v->c.t.scal=true->yo0 T w S c v)->VRL T w S φ (qx9 cs vs) vs
 | [],[],_,_=>trivial
 | [],_::_,h,_=>by simp at h
 |_::_,[],h,_=>by simp at h
 |c::r,v::s,b,a=>by
  refine ⟨?_,qy0 (by simpa using b) fun f c' d e g=>a (f+1) c' d (by simpa using e) (by simpa using g)⟩;cases hc:c.t.scal with
  |true=>exact a 0 c v rfl rfl hc
  |false=>show VR T w S φ (.raw v) v;rw [VR]
def ju8: ∀ {cs vs},cs.length=vs.length->(qx9 cs vs).length=cs.length/\(∀(f:Nat) (c:Cell T.U),cs[f]?=some c->c.t.scal=true->(qx9 cs vs)[f]?=some (.cell c))/\za1 (qx9 cs vs)= []
 | [],[],_=>⟨rfl,fun f c h=>by simp at h,rfl⟩
 | [],_::_,h=>by simp at h
 |_::_,[],h=>by simp at h
 |c::r,v::s,d=>by
  obtain ⟨e,g,i⟩:=ju8 (cs:=r) (vs:=s) (by simpa using d);refine ⟨by simp [qx9,e],fun f c' a b=>?_,?_⟩
  ·cases f with
   |zero=>simp only [Y4,X0] at a;subst a;simp [qx9,b]
   |succ f=>simpa [qx9] using g f c' (by simpa using a) b
  ·rw [qx9,za1,i];cases c.t.scal<;>rfl
def kd7 {t:TypeId} {cs:List (Cell T.U)} {vs:List Value} (hl:cs.length=vs.length) {c:Nat} {v:AV T.U} (h:zu0 T P t (cs.map .cell) c=some v) (hn:gk1 v=true):zu0 T P t (qx9 cs vs) c=some v:=by
 obtain ⟨m1,m2,_⟩:=ju8 hl;unfold zu0 at h⊢;split at h<;>try (cases h;done)
 rename_i i d hi hu;unfold jy7 at h⊢;cases hag:ye3 d with
 |false=>
  rw [hag] at h;simp only at h⊢;rw [W2] at h;cases hc:cs[c]? with
  |none=>rw [hc] at h;cases h
  |some c0=>
   rw [hc] at h;simp only [Z8,X0] at h;subst h;exact m2 c c0 hc hn
 |true=>
  rw [hag] at h;simp only [V1] at h⊢;rw [m1];split at h<;>try (cases h;done)
  rename_i hle;simp only [X0] at h;subst h;simp only [X0];congr 1;apply M1;intro j;simp only [Z3,Q6,W2];split
  ·rename_i hj;cases hc:cs[c+j]? with
   |none=>
    grind
   |some c0=>
    have hs:c0.t.scal=true:=by
     have:=Y8.1 hn (.cell c0) (Y9.2 ⟨j,by simp only [Z3,if_pos hj,Q6,W2,hc];rfl⟩);exact this
    rw [m2 _ c0 hc hs];rfl
  ·rfl
def wg9 {c v e} (a:c.t.scal=true) (h:DC T w S e c v):yo0 T w S c v:=by
 obtain ⟨t,x⟩:=c;cases t<;>first|(cases a;done)|exact h
def kv7 {φ:Nat->RA} {d:Nat} {fe:List TypeId} {xs:List (T.U d)} {b:Nat} {cs:List (AV T.U)} {vals:List Value} {r:RA} (h:DRel T w S φ r d fe xs (some (b,cs)) vals) (hvl:vals.length=xs.length*T.size d):VRL T w S φ cs ((vals.drop (b*T.size d)).take (T.size d)):=by
 obtain ⟨hb,hl,hx⟩:=h.opn _ _ rfl;have hle:b*T.size d+T.size d<=xs.length*T.size d:=by rw [<-Nat.succ_mul];exact Q9 _ hb
 refine gp9 _ _ (by simp;omega) fun f x hf=>?_
 grind
def ku0 {R:Type} {r:R} {t:TypeId} {x:Operand} (hd:dec ops k n F'=some o) (hop:o.op=.load t x) {i sz a c:Nat} {e:TypeId} {d:Nat} {fe:List TypeId} {xs:List (T.U d)} {op:Option (Nat×List (AV T.U))} (hx:aev T F x=some (.eptr i sz a c)) (hi:H[i]?=some (.drow e d fe xs op))
  {K0:AV T.U->List (Ent T.U)->Option R} (hs:yv4 P t H i sz a c e d fe xs op K0=some r) (h:Sim T w0 S0 ⟨F,H⟩ F' w S φ) (HK: ∀v H1,K0 v H1=some r->zt3 P ops Q (k+1) n ds w0 S0 (⟨zc2 T F o.dst v,H1⟩:St T)):WR P ops Q k n ds F' w:=by
 unfold yv4 at hs;split at hs<;>try (cases hs;done)
 rename_i hsz;have:=X1 hsz;subst this;obtain ⟨X,h1,g0,h2,rfl⟩:=u0 h.fr hx;have opened: ∀ {H:List (Ent T.U)} {φ:Nat->RA} {b:Nat} {cs:List (AV T.U)} {u:AV T.U},Sim T w0 S0 ⟨F,H⟩ F' w S φ->(φ i).ad=some ⟨g0,0,none⟩->H[i]?=some (.drow e d fe xs (some (b,cs)))->a=b->zu0 T P t cs c=some u->zj5 u=true->K0 u H=some r->WR P ops Q k n ds F' w:=by
  intro H φ b cs u h h2 hi hab hl hne hK;subst hab;obtain ⟨_,_,_,_,hdr⟩:=h.ents i _ hi;have hb:=(hdr.2.2.opn _ _ rfl).1;obtain ⟨g,cc,B,vals,a1,a2,a3,a4,a5,a6,a7,a8,a9,a10,a11,a12,a13,a14,a15⟩:=yz4 h hi hb;rw [h2] at a1;simp only [X0,Addr.mk.injEq,and_true] at a1;subst a1;refine qx5 (rd:= [i]) hd hop (b:=g0) (o0:=0+a*T.size d) (c:=c) (by rw [h1,U2]) (fun w1 _ hsm=>Rg.same a15 (show w1.heap[g0]?=w.heap[g0]? from hsm i (by simp) ⟨g0,0,none⟩ h2 a4.lt)) (kv7 a12 a13) hl fun v q1 q2 q3=>?_;exact qc0 hd (q1 w (Chg.refl _ _) fun _ _ _ _ _=>rfl) h q2 (ze6 hne fun j hj=>h.eids i _ hi j (q3 j hj)) (HK _ _ hK)
 split at hs
 ·split at hs<;>try (cases hs;done)
  rename_i v hl;split at hs
  ·rename_i hn;obtain ⟨ha,hK⟩:=za7 hs;obtain ⟨g,cc,B,vals,a1,a2,a3,a4,a5,a6,a7,a8,a9,a10,a11,a12,a13,a14,a15⟩:=yz4 h hi ha;rw [h2] at a1;simp only [X0,Addr.mk.injEq,and_true] at a1;subst a1;have hxa:xs[a]?=some (xs.getD a (T.d d)):=zn8 (T.d d) ha;have hlen:(elD T d xs a).length=((vals.drop (a*T.size d)).take (T.size d)).length:=by
    unfold elD;rw [T.len,Y6,Q7];omega
   have hm:=qy0 (w:=w) (S:=S) (φ:=φ) hlen fun f c0 v0 q1 q2 q3=>by
    have hf:f<T.size d:=by have:=(X2.1 q1).1;unfold elD at this;rw [T.len] at this;exact this
    rw [Z3,if_pos hf,Q6] at q2;exact wg9 q3 (a12.cl _ c0 v0 (by rw [qv9 (T.len d) hxa hf];exact q1) q2 fun q=>q).1
   refine qx5 (rd:= [i]) hd hop (b:=g0) (o0:=0+a*T.size d) (c:=c) (by rw [h1,U2]) (fun w1 _ hsm=>Rg.same a15 (show w1.heap[g0]?=w.heap[g0]? from hsm i (by simp) ⟨g0,0,none⟩ h2 a4.lt)) hm (kd7 hlen hl hn) fun u q1 q2 q3=>?_;rw [(ju8 hlen).2.2] at q3;refine qc0 hd (q1 w (Chg.refl _ _) fun _ _ _ _ _=>rfl) h q2 (ze6 ?_ fun j hj=>by cases q3 j hj) (HK _ _ hK);cases v<;>first|rfl|cases hn
  ·split at hs<;>try (cases hs;done)
   rename_i u hu;split at hs<;>try (cases hs;done)
   rename_i hne;obtain ⟨ha,hK⟩:=za7 hs;obtain ⟨φ',hsm,h'⟩:=h.openD hi ha;exact opened h' ((hsm i (X2.1 hi).1).1.trans h2) (qg7 hi e d fe xs a) rfl hu hne hK
 ·grind
def yv7: ∀(l cs o0),yl7 T cs o0 l=zj8 cs o0 l
 | [],_,_=>rfl
 |a::r,cs,o0=>by rw [yl7,zj8,yv7 r]
def yx0 {t:TypeId} {x y:Operand} (hd:dec ops k n F'=some o) (hop:o.op=.store t x y) (hdst:o.dst=none) {i a c:Nat} {e:TypeId} {d:Nat} {fe:List TypeId} {xs:List (T.U d)} {cs:List (AV T.U)} {v0:AV T.U} {H:List (Ent T.U)} {φ:Nat->RA} {g0:Nat} (h1:ev F' x=some (.pointer (some ⟨g0,0+(a*T.size d+c),none⟩))) (h2:(φ i).ad=some ⟨g0,0,none⟩) (hy:aev T F y=some v0) (hi:H[i]?=some (.drow e d fe xs (some (a,cs))))
  (hf:jz7 T P t c (T.size d) v0=true) (h:Sim T w0 S0 ⟨F,H⟩ F' w S φ) (K:zt3 P ops Q (k+1) n ds w0 S0 (⟨F,H.set i (.drow e d fe xs (some (a,yl7 T cs c (zf8 T v0))))⟩:St T)):WR P ops Q k n ds F' w:=by
 obtain ⟨v,h3,h4⟩:=u0 h.fr hy;obtain ⟨_,_,_,_,hdr⟩:=h.ents i _ hi;obtain ⟨hb,hcl,_⟩:=hdr.2.2.opn _ _ rfl;obtain ⟨g,carr,B,vals,a1,a2,a3,a4,a5,a6,a7,a8,a9,a10,a11,a12,a13,a14,a15⟩:=yz4 h hi hb;rw [h2] at a1;simp only [X0,Addr.mk.injEq,and_true] at a1;subst a1;obtain ⟨ii,hii,f1,f2,f3,f4⟩:=ye4 hf;have hds:=ym4 hd hop hdst;rw [u9 h1,u9 h3] at hds;have hle2:xs.length*T.size d<=carr.size:=W8 (Q9 _ a10) a5;have hst:=qt1 hf h4 (c:=carr) (p:=0+a*T.size d) (by omega);rw [U2] at hst;have hcr:=zk9 f1 h4;have hul:v.cells.toList.length=ii.size:=by rw [<-hcr.len T,f2]
 have hcl2:c+(zf8 T v0).length<=T.size d:=by rw [f2];exact f3
 refine WR.store a4 hds _ hst fun w' hb' hc=>K _ _ ⟨S,φ,h.upd hi rfl hc ?_ ⟨B,(yj2 carr (0+(a*T.size d+c)) v.cells.toList).toList.take (xs.length*T.size d),?_,a2,W8 a9 hc.size,?_,?_⟩ ?_ ?_⟩
 ·intro b hb;simp at hb;subst hb;exact ⟨_,.inl h2,rfl⟩
 ·rw [h2,a2];exact Own.ofBlk hb' a8 a10 (by have:=a11;unfold maxLen at this;omega) (by rw [yq3];exact a5) _ rfl
 ·grind
 ·rw [ye9,yq2,W9,a6];have hT: ∀b∈ [g0],b∈S:=by intro b hb;simp at hb;subst hb;exact a7
  have hin: ∀j,¬vg9 T (T.size d) (some (a,cs)) j->(zj8 vals (a*T.size d+c) v.cells.toList)[j]?=vals[j]?:=fun j hj=>by
   rw [yn5 _ _ _ _ (by omega),if_neg (fun q=>hj ⟨by omega,by omega⟩)]
  have hD:=a12.chg (T:=T) (S':=S) hc hT (fun b hb=>.inl hb) fun b _ hne hm=>by
   simp at hm;subst hm;exact hne _ h2 rfl
  refine ⟨fun j c1 v1 q1 q2 q3=>hD.cl j c1 v1 q1 (by rw [<-hin j q3];exact q2) q3,fun j j' c1 c2 v1 v2 hj q1 q2 q3 q4 q5 q6=>hD.ap j j' c1 c2 v1 v2 hj q1 (by rw [<-hin j q3];exact q2) q3 q4 (by rw [<-hin j' q6];exact q5) q6,fun a0 cs0 hq=>?_⟩;simp only [X0,X7] at hq;obtain ⟨rfl,rfl⟩:=hq;refine ⟨hb,by rw [yv7,qz0];exact hcl,fun f x hx=>?_⟩;rw [yv7,yn5 _ _ _ _ (by omega)] at hx;rw [yn5 _ _ _ _ (by omega)];split at hx
  ·rename_i hfr;rw [if_pos (by rw [hul];omega),show a*T.size d+f-(a*T.size d+c)=f-c by omega];obtain ⟨v',g1,g2⟩:=hcr.get T hx;exact ⟨v',g1,g2.chg T hc hT fun b hb=>.inl hb⟩
  ·rename_i hfr;rw [if_neg (by rw [hul];omega)];exact (hD.opn _ _ rfl).2.2 f x hx
 ·intro j hj;rcases jf8 (T:=T) j hj with hj|hj
  ·exact h.eids i _ hi j hj
  ·rw [yh8 f1] at hj;exact (zd4 h hy).1 j hj
 ·intro _ _ _ he;cases he
def kj7 {R:Type} {r:R} {t:TypeId} {x y:Operand} (s:dec ops k n F'=some o) (g:o.op=.store t x y) (b:o.dst=none) {i sz a c:Nat} {e:TypeId} {d:Nat} {fe:List TypeId} {xs:List (T.U d)} {u:Option (Nat×List (AV T.U))} {v:AV T.U} (J:aev T F x=some (.eptr i sz a c)) (z:aev T F y=some v) (j:H[i]?=some (.drow e d fe xs u))
  {A:List (Ent T.U)->Option R} (f:yh3 P t H i sz a c e d fe xs u v A=some r) (h:Sim T w0 S0 ⟨F,H⟩ F' w S φ) (B: ∀H1,A H1=some r->zt3 P ops Q (k+1) n ds w0 S0 (⟨F,H1⟩:St T)):WR P ops Q k n ds F' w:=by
 unfold yh3 at f;split at f<;>try (cases f;done)
 rename_i D;rw [X3] at D;obtain ⟨l,E⟩:=D;have:=X1 l;subst this;obtain ⟨X,G,M,I,rfl⟩:=u0 h.fr J;split at f
 ·obtain ⟨K,m⟩:=za7 f;obtain ⟨φ',p,L⟩:=h.openD j K;exact yx0 s g b G ((p i (X2.1 j).1).1.trans I) z (qg7 j e d fe xs a) E L (B _ m)
 ·obtain ⟨q,m⟩:=za7 f;subst q;exact yx0 s g b G I z j E h (B _ m)
def kk1 {t v c} (h:gu2 T t v=some c) (e):DC T w S e c v/\ya6 T e c v= []:=by
 have b: ∀ {c:Cell T.U} {v:Value},(match c.t,v with| .list _,.slice ad _ _=>ze5 ad|_,_=>([]:List Nat))= []->ya6 T e c v= []:=fun h=>by unfold ya6;cases Nat.beq e 0;exact h;rfl
 unfold gu2 at h;split at h
 ·simp only [X0] at h;subst h;exact ⟨⟨fun _=>CR.nilS,fun _=>⟨0,none,0,[],rfl,Own.nil _ _ _ _,U8 _,CellsR.nilC⟩⟩,b rfl⟩
 ·split at h<;>try (cases h;done)
  rename_i a d;split at h<;>try (cases h;done)
  rename_i f;simp only [X0] at h;subst h;have g:cellsOf T ([v].map (yw9 T))=some [a]:=by simp only [U0,J7,cellsOf,d]
  have i:=(yh4 (w:=w) (S:=S) g).2 0 a v rfl rfl;obtain ⟨t,x⟩:=a;cases t<;>first|(cases f;done)|exact ⟨i,b rfl⟩
def jt4: ∀ {d vs cs},yy6 T d vs=some cs->cs.length=vs.length/\ ∀(f:Nat) (c:Cell T.U) (v:Value) (e:TypeId),cs[f]?=some c->vs[f]?=some v->DC T w S e c v/\ya6 T e c v= []
 | [],[],cs,h=>by simp only [yy6,X0] at h;subst h;exact ⟨rfl,fun f c v e h=>by simp at h⟩
 | [],_::_,_,h=>by simp [yy6] at h
 |_::_,[],_,h=>by simp [yy6] at h
 |t::d,v::vs,cs,h=>by
  unfold yy6 at h;split at h<;>try (cases h;done)
  rename_i c l g i;simp only [X0] at h;subst h;obtain ⟨j,m⟩:=jt4 i;refine ⟨by simp [j],fun f c' p e a b=>?_⟩;cases f with
  |zero=>simp only [Y4,X0] at a b;subst a;subst b;exact kk1 g e
  |succ f=>exact m f c' p e (by simpa using a) (by simpa using b)
def ku5 {R:Type} {r:R} {x y:Operand} {t:TypeId} (hd:dec ops k n F'=some o) (hop:o.op=.makeSlice t x y) {d:Nat} {fe:List TypeId} {k1 k2:IntKind} {l c:Int} (hx:aev T F x=some (cI T k1 l)) (hy:aev T F y=some (cI T k2 c))
  {K0:AV T.U->List (Ent T.U)->Option R} (hK0:qd0 P d fe t H l c K0=some r) (h:Sim T w0 S0 ⟨F,H⟩ F' w S φ) (K: ∀b H1,K0 b H1=some r->zt3 P ops Q (k+1) n ds w0 S0 (⟨zc2 T F o.dst b,H1⟩:St T)):WR P ops Q k n ds F' w:=by
 obtain ⟨X,h1,h2⟩:=u0 h.fr hx;obtain ⟨Y,h3,h4⟩:=u0 h.fr hy;have e1:=zb0 h2;have e2:=zb0 h4;subst e1;subst e2;unfold qd0 at hK0;split at hK0<;>try (cases hK0;done)
 rename_i e sz by_ zc he;split at hK0<;>try (cases hK0;done)
 rename_i z hsz hz;have hsz:=X1 hsz;subst hsz;split at hK0<;>try (cases hK0;done)
 rename_i x0 hx0;obtain ⟨⟨g1,g2,g3,g4⟩,hK⟩:=za7 hK0;have hdm:=jn6 hd hop;rw [u9 h1,u9 h3] at hdm;obtain ⟨i,zv,_,_,_,_,_,_,hzs⟩:=zh6 he;refine WR.make hdm he l.toNat c.toNat (by omega) (by omega) (by omega) g3 (by omega) fun g w' hN=>?_;have hown:=Own.made (m:=l.toNat) (m':=c.toNat) hN (by omega) (by omega);have hc0:T.cells d x0=z:=T.packed _ _ _ hx0;have hcell: ∀j c1 v,((List.replicate l.toNat x0).flatMap (T.cells d))[j]?=some c1->((madeCells zc (c.toNat*T.size d)).toList.take (l.toNat*T.size d))[j]?=some v->DC T w' (g::S) (fe.getD (j%T.size d) 0) c1 v/\ya6 T (fe.getD (j%T.size d) 0) c1 v= []:=by
  intro j c1 v h1 h2;have hj:=(X2.1 h1).1;rw [zc1 (T.len d),Z9] at hj;rw [zx1 (T.len d x0) _ _ hj,hc0] at h1;rw [Z3,if_pos hj] at h2;refine (jt4 (w:=w') (S:=g::S) hz).2 _ c1 v _ h1 ?_;have hpos:0<T.size d:=by
   grind
  rw [<-hzs] at hpos;have hlc:l.toNat*T.size d<=c.toNat*T.size d:=Q9 _ (by omega);unfold madeCells at h2;simp only [N0,T6,W2] at h2;rw [List.getElem?_range (by omega)] at h2;simp only [Z8,X0] at h2;subst h2;rw [<-hzs,Array.getElem?_toList,Z6 (Nat.mod_lt _ hpos)]
  grind
 have hadd:=h.add (r:=⟨some ⟨g,0,none⟩,l.toNat,c.toNat,[]⟩) hN.chg hN.fresh hN.blk.lt (fun a ha=>yr2 ha) (e:=.drow e d fe (List.replicate l.toNat x0) none)
  ⟨w.heap.size,_,by rw [za8];exact hown,by rw [za8,Z9],hN.chg.size,fun a ha=>by rw [za8] at ha;simp only [X0] at ha;subst ha;simp,
   ⟨fun j c1 v q1 q2 _=>⟨(hcell j c1 v q1 q2).1,fun b hb=>(by rw [(hcell j c1 v q1 q2).2] at hb;cases hb)⟩,fun j j' c1 c2 v v' _ q1 q2 _ _ _ _ b hb=>(by rw [(hcell j c1 v q1 q2).2] at hb;cases hb),fun a cs hq=>(by cases hq)⟩⟩ (by intro j hj;cases hj)
 refine K _ _ hK _ _ ⟨_,_,hadd.slot (a:=.own H.length) (by rw [VR,za8]) ⟨by intro i hi;simp [AV.ids] at hi;subst hi;simp,trivial⟩⟩
def kb8 {t x y} (f:dec ops k n F'=some o) (l:o.op=.indexAddr t x y) {i z j e d fe xs A} (p:aev T F x=some (.own i)) (D:aev T F y=some (cI T z j)) (q:H[i]?=some (.drow e d fe xs A))
  (m:yx9 T P t (.user d)=true) (L:0<=j/\j<((xs.length:Nat):Int)) (h:Sim T w0 S0 ⟨F,H⟩ F' w S φ) (K:zt3 P ops Q (k+1) n ds w0 S0 (⟨zc2 T F o.dst (.eptr i (T.size d) j.toNat 0),H⟩:St T)):WR P ops Q k n ds F' w:=by
 obtain ⟨X,E,r⟩:=u0 h.fr p;obtain ⟨Y,G,I⟩:=u0 h.fr D;have s:=zb0 I;subst s;have b:=jh3 f l;rw [u9 E,u9 G] at b;obtain ⟨g,M,B,u,v,J,_⟩:=yz4 h q (a:=j.toNat) (by omega);rw [VR] at r;subst r;rw [v,J] at b;refine qc0 f ((QR.indexS (S:=S) (φ:=φ) (rd:= []) (w:=w) f b _ (ya8 m) j.toNat (by omega) (by omega)) w (Chg.refl _ _) fun _ _ _ _ _=>rfl) h (a:=.eptr i (T.size d) j.toNat 0) ⟨g,v,by simp [szT]⟩ ⟨(zd4 h p).1,?_⟩ K;intro s N ys c;rw [q] at c;cases c
def ji7 {R:Type} {r:R} (s:dec ops k n F'=some o) {K:St T->Option R} {z:Option R} (b:zo3 P C o ⟨F,H⟩ K=some z) (g:z=some r) (h:Sim T w0 S0 ⟨F,H⟩ F' w S φ)
  (u: ∀st,K st=some r->zt3 P ops Q (k+1) n ds w0 S0 st):WR P ops Q k n ds F' w:=by
 unfold zo3 at b;split at b<;>try (cases b;done)
 ·rename_i t x y f;split at b<;>try (cases b;done)
  obtain rfl:=X5 b;split at g<;>try (cases g;done)
  rename_i l m;exact ku5 s f l m g h fun a H1 D=>u _ D
 ·rename_i t x y f;split at b<;>try (cases b;done)
  rename_i i l;split at b<;>try (cases b;done)
  rename_i e d fe xs I p;obtain rfl:=X5 b;split at g<;>try (cases g;done)
  rename_i J j m A;obtain ⟨E,G⟩:=qf5 g;exact kb8 s f l m p A E h (u _ G)
 ·rename_i t x f;split at b<;>try (cases b;done)
  rename_i i sz a c l;split at b<;>try (cases b;done)
  rename_i p;obtain rfl:=X5 b;exact ku0 s f l p g h fun v H1 B=>u _ B
 ·rename_i t x y f;split at b<;>try (cases b;done)
  rename_i i sz a c l;split at b<;>try (cases b;done)
  rename_i p;obtain rfl:=X5 b;split at g<;>try (cases g;done)
  rename_i v q m;exact kj7 s f q l m p g h fun H1 B=>u _ B
end
end Go.X
namespace Go.X
open Go.RowKit Go.V
section
variable (T:Tab)
def vg4 {R:Type} (t:Ty) (x:Operand) (st:St T) (K:St T->Option R):Option R:=
 match x with
 | .tmp s=>match st.F.get T s with
  |some a=>rdF T st.H t a fun y=>K ⟨(s,zp6 T t y)::st.F,zw9 T st.H a.ids⟩
  |none=>none
 |_=>none
def gw6 {R:Type}:List (Nat×Ty)->List (AV T.U)->List (Ent T.U)->(List (AV T.U)->List (Ent T.U)->Option R)->Option R
 | [],aS,H,K=>K aS H
 |(j,t)::r,aS,H,K=>match aS[j]? with
  |some a=>rdF T H t a fun y=>gw6 r (aS.set j (zp6 T t y)) (zw9 T H a.ids) K
  |none=>none
def vu7 (ty:Ty) (c:Nat) (a:AV T.U):Option Ty:=
 match a with
 | .agg _=>match Nat.beq c 0 with|true=>some ty|false=>none
 |_=>match (zc6 T ty (ya7 T ty))[c]? with|some x=>some x.t|none=>none
def ql7 (H:List (Ent T.U)) (p a:AV T.U):Option Ty:=
 match p with
 | .eptr i _ _ c=>match H[i]? with|some (.row _ ty _)=>vu7 T ty c a|_=>none
 | .aptr i o _ _ _ c=>match H[i]? with
  |some (.blk _ cs)=>match jd3 T cs o with
   |some (b::_)=>match jg9 b with|some ⟨ty,_,_⟩=>vu7 T ty c a|none=>none
   |_=>none
  |_=>none
 |_=>none
def ja3 {R:Type} (b:Ty):List (Nat×Operand)->St T->(St T->Option R)->Option R
 | [],st,K=>K st
 |(_,x)::r,st,K=>match aev T st.F x with
  |some a=>match cellsOf T (zf8 T a) with
   |some _=>ja3 b r st K
   |none=>vg4 T b x st fun st=>ja3 b r st K
  |none=>none
end
section
variable {T:Tab} (P:Program) (C:Ctx T) {R:Type}
def vh8:Operand->Operand->Bool| .tmp s,.tmp q=> !(Nat.beq s q)|_,_=>true
def zn5 (o:Oper) (st:St T) (K:St T->Option R) (b:AV T.U->St T->Option R):Option R:=
 match o.op with
 | .store _ x y=>match aev T st.F x,aev T st.F y with
  |some p,some a=>match cellsOf T (zf8 T a),ql7 T st.H p a with
   |none,some c=>(match vh8 y x with|true=>vg4 T c y st fun st=>stepA P C o st K b|false=>none)
   |_,_=>stepA P C o st K b
  |_,_=>none
 | .buildSlice t _ ps=>match C.ty t,zx4 T st.F (ps.toList.map Prod.snd) with
  |some c,some _=>ja3 T c ps.toList st fun st=>stepA P C o st K b
  |_,_=>stepA P C o st K b
 | .mapUpdate t m x v=>match C.ty t,aev T st.F v with
  |some c,some a=>(match cellsOf T (zf8 T a) with
   |none=>(match vh8 v m&&vh8 v x with|true=>vg4 T c v st fun st=>stepA P C o st K b|false=>none)
   |some _=>stepA P C o st K b)
  |_,_=>stepA P C o st K b
 |_=>stepA P C o st K b
end
section
variable {T:Tab} {P:Program} {C:Ctx T} {w w':World} {S S':List Nat} {φ φ':Nat->RA} {w0:World} {S0:Ow} {F:AF T} {H:List (Ent T.U)} {F':PF}
variable {ops:Array Oper} {Q:Exit->Act->World->Prop} {k n:Nat} {ds:List Deferred} {o:Oper}
def Sim.seen (h:Sim T w0 S0 ⟨F,H⟩ F' w S φ) {d a v} (g:F'.get d=some v) (j:VR T w S φ a v) (e:okA H a):Sim T w0 S0 ⟨(d,a)::F,H⟩ F' w S φ:=by
 have f: ∀i b,AF.get T ((d,a)::F) i=some b->(i=d/\b=a)\/F.get T i=some b:=by
  intro i b c;simp only [AF.get] at c;split at c
  ·rename_i l;have:=X1 l;subst this;exact .inl ⟨rfl,(X5 c).symm⟩
  ·exact .inr c
 refine ⟨fun i b c=>?_,fun i b c=>?_,h.chg,h.own,h.ex,h.lives,h.pins,h.ents,h.eids,h.apart⟩
 ·rcases f i b c with ⟨rfl,rfl⟩|c
  ·exact ⟨v,g,j⟩
  ·exact h.fr i b c
 ·rcases f i b c with ⟨rfl,rfl⟩|c
  ·exact e
  ·exact h.ids i b c
def Sim.frz1 (h:Sim T w0 S0 ⟨F,H⟩ F' w S φ) {i e} (J:H[i]?=some e) (K:e.live=true):
  Sim T w0 S0 ⟨F,H.set i .gone⟩ F' w (S.filter fun b=> !(φ i).all.contains b) φ:=by
 have p: ∀b∈S.filter (fun b=> !(φ i).all.contains b),b∈S:=fun b g=>(W0.1 g).1;have s: ∀ {b:Nat},b∈S->(∀a,At (φ i) a->a.block≠b)->b∈S.filter fun b=> !(φ i).all.contains b:=by
  intro b g q;refine W0.2 ⟨g,?_⟩;cases hq:(φ i).all.contains b with
  |false=>rfl
  |true=>
   obtain ⟨a,m,u⟩:=zu8.1 (T3.1 hq);exact absurd u (q a m)
 refine ⟨?_,?_,h.chg,fun b g=>h.own b (p b g),?_,?_,?_,?_,?_,?_⟩
 ·intro j a m;obtain ⟨v,B,D⟩:=h.fr j a m;exact ⟨v,B,D.chg T (Chg.refl [] w) (by simp) fun b g=>.inl (p b g)⟩
 ·intro j a m;obtain ⟨B,D⟩:=h.ids j a m;refine ⟨fun x z=>by simpa using B x z,?_⟩;cases a with
  |eptr y sz k c=>intro e t xs z;exact D e t xs (ya5 z rfl).2
  |_=>trivial
 ·intro b g M O;refine s (h.ex b g M O) fun a m u=>?_;rcases (h.lives i e J K a m).2 with N|N
  ·exact M (u▸N)
  ·omega
 ·intro j f A l a m;obtain ⟨q,d⟩:=ya5 A l;exact ⟨s (h.lives j f d l a m).1 fun b g u=>h.apart i j e f J d K l (Ne.symm q) b a g m u,(h.lives j f d l a m).2⟩
 ·intro k r V;obtain ⟨B,D⟩:=h.pins k r V;exact ⟨B,by simpa using D⟩
 ·intro j f A;by_cases l:f.live=true
  ·obtain ⟨q,d⟩:=ya5 A l;exact (h.ents j f d).chg T (Chg.refl [] w) (by simp) (fun b g=>.inl (p b g)) fun E a m=>⟨by simp,s (zi5 h d E m) fun b g u=>h.apart i j e f J d K E (Ne.symm q) b a g m u⟩
  ·cases f<;>first|exact trivial|exact absurd rfl l
 ·intro j f A x z;cases f with
  |hid=>cases z
  |gone=>cases z
  |_=>have:=h.eids j _ (ya5 A rfl).2 x z;simpa using this
 ·intro j k f W A d G I L;exact h.apart j k f W (ya5 A G).2 (ya5 d I).2 G I L
def Sim.frzL: ∀(ids:List Nat) {H:List (Ent T.U)} {S:List Nat},Sim T w0 S0 ⟨F,H⟩ F' w S φ->
  ∃S',(∀b∈S',b∈S)/\(∀i∈ids,∀e,H[i]?=some e->e.live=true-> ∀a,At (φ i) a->a.block∉S')/\Sim T w0 S0 ⟨F,zw9 T H ids⟩ F' w S' φ
 | [],H,S,h=>⟨S,fun _ h=>h,by simp,h⟩
 |i::r,H,S,h=>by
  have step: ∃S1,(∀b∈S1,b∈S)/\(∀e,H[i]?=some e->e.live=true-> ∀a,At (φ i) a->a.block∉S1)/\Sim T w0 S0 ⟨F,H.set i .gone⟩ F' w S1 φ:=by
   cases hi:H[i]? with
   |none=>
    refine ⟨S,fun _ h=>h,by simp,?_⟩;rw [List.set_eq_of_length_le (by simpa using hi)];exact h
   |some e=>
    cases hl:e.live with
    |true=>
     refine ⟨_,fun b hb=>(W0.1 hb).1,fun e' he' _ a ha hm=>?_,h.frz1 hi hl⟩;have:=(W0.1 hm).2;simp at this;exact this (zu8.2 ⟨a,ha,rfl⟩)
    |false=>
     have:e=.gone:=by cases e<;>first|rfl|cases hl
     subst this;refine ⟨S,fun _ h=>h,fun e' he' hl'=>?_,?_⟩
     ·grind
     ·have hs:H.set i .gone=H:=by
       obtain ⟨hlt,hg⟩:=X2.1 hi;rw [<-hg,N1]
      rw [hs];exact h
  obtain ⟨S1,k1,k2,k3⟩:=step;obtain ⟨S2,q1,q2,q3⟩:=Sim.frzL r k3;refine ⟨S2,fun b hb=>k1 b (q1 b hb),fun j hj e he hl a ha hm=>?_,q3⟩
  grind
def kv3 {t a x} (h:qa5 T t a=some x):a.ids= []:=by
 cases a with
 |cell c=>rfl
 |raw v=>rfl
 |agg cs=>
  cases t<;>simp only [qa5,reduceCtorEq] at h;split at h
  ·rename_i l b;rw [zt4 b,AV.ids,yv2]
  ·cases h
 |_=>cases t<;>cases h
def wg2 {R:Type} {r:R} {t:Ty} {a:AV T.U} {K:den T.U t->Option R} (h:rdN T H t a K=some r): ∀i∈a.ids,∃e,H[i]?=some e/\e.live=true:=by
 unfold rdN at h;split at h
 ·intro i b;cases b
 ·intro i b;cases b
 ·intro j c;simp only [AV.ids,Q5] at c;subst c;split at h
  ·rename_i b;exact ⟨_,b,rfl⟩
  ·cases h
 ·cases h
def vb7 {R:Type} {r:R} {t:Ty} {a:AV T.U} {K:den T.U t->Option R} (h:qb2 T H t a K=some r): ∀i∈a.ids,∃e,H[i]?=some e/\e.live=true:=by
 unfold qb2 at h;split at h
 ·intro j b;simp only [AV.ids,Q5] at b;subst b;split at h
  ·rename_i c;exact ⟨_,c,rfl⟩
  ·cases h
 ·intro j b;simp only [AV.ids,Q5] at b;subst b;split at h
  ·rename_i c;exact ⟨_,c,rfl⟩
  ·cases h
 ·intro j b;simp only [AV.ids,Q5] at b;subst b;split at h
  ·rename_i c;exact ⟨_,c,rfl⟩
  ·cases h
 ·split at h
  ·rename_i x d;rw [kv3 d];intro i c;cases c
  ·exact wg2 h
def vb5 {R:Type} {r:R}: ∀ {ts:List Ty} {aS:List (AV T.U)} {K:List (Cell T.U)->Option R},vb3 T H ts aS K=some r-> ∀i∈za1 aS,∃e,H[i]?=some e/\e.live=true
 | [],[],K,h=>by intro i hi;cases hi
 | [],_::_,_,h=>by cases h
 |_::_,[],_,h=>by cases h
 |t::ts,a::aS,K,h=>by
  have h:(match t.one with|true=>qb2 T H t a (fun x=>vb3 T H ts aS fun l=>K (⟨t,x⟩::l))|false=>none)=some r:=h;split at h<;>try (cases h;done)
  intro i hi;rw [za1] at hi;rcases X4.1 hi with hi|hi
  ·exact vb7 h i hi
  ·obtain ⟨x,h1,h2⟩:=jx2 h;exact vb5 h1 i hi
def vx3 {R:Type} {r:R} {t:Ty} {a:AV T.U} {K:den T.U t->Option R} (h:rdF T H t a K=some r): ∀i∈a.ids,∃e,H[i]?=some e/\e.live=true:=by
 unfold rdF at h;split at h
 ·intro i b;rw [AV.ids] at b;exact vb5 h i b
 ·exact vb7 h
def qj6 (t x):(zp6 T t x).ids= []:=by
 cases t with
 |user i=>show za1 ((T.cells i x).map AV.cell)= [];exact yv2 _
 |_=>rfl
def zz0 {R:Type} {r:R} {t:Ty} {x:Operand} {st:St T} {K:St T->Option R} (h:vg4 T t x st K=some r) (d:Sim T w0 S0 st F' w S φ): ∃b S',K b=some r/\Sim T w0 S0 b F' w S' φ/\ ∀t,(st.F.get T t).isSome=true->(b.F.get T t).isSome=true:=by
 obtain ⟨F,H⟩:=st;unfold vg4 at h;split at h<;>try (cases h;done)
 rename_i s;split at h<;>try (cases h;done)
 rename_i a j;obtain ⟨v,l,m⟩:=d.fr s a j;obtain ⟨S',p,u,z⟩:=Sim.frzL a.ids d;obtain ⟨y,A,B⟩:=jx3 (S':=S') h (fun i c D f _=>d.ents i D f) m φ p fun i c ad g=>by
  obtain ⟨e,E,G⟩:=vx3 h i c;exact u i c e E G ad (.inl g)
 refine ⟨_,S',A,z.seen l B (ze6 ?_ ?_),fun q I=>?_⟩
 ·cases t<;>rfl
 ·rw [qj6];intro i c;cases c
 ·simp only [AF.get];split
  ·rfl
  ·exact I
def ya9 {R:Type} {r:R} {te:Ty}: ∀ {ps:List (Nat×Operand)} {st:St T} {K:St T->Option R} {S:List Nat},ja3 T te ps st K=some r->Sim T w0 S0 st F' w S φ-> ∃st' S',K st'=some r/\Sim T w0 S0 st' F' w S' φ/\ ∀t,(st.F.get T t).isSome=true->(st'.F.get T t).isSome=true
 | [],st,K,S,h,hs=>⟨st,S,h,hs,fun _ h=>h⟩
 |(_,x)::ps,st,K,S,h,hs=>by
  unfold ja3 at h;split at h<;>try (cases h;done)
  split at h
  ·exact ya9 h hs
  ·obtain ⟨st',S',h1,h2,h3⟩:=zz0 h hs;obtain ⟨st2,S2,k1,k2,k3⟩:=ya9 h1 h2
   grind
def qv2 {R:Type} {r:R} (c:zb1 T P C.E) (d:dec ops k n F'=some o) {K:St T->Option R} {j:AV T.U->St T->Option R} (b:zn5 P C o ⟨F,H⟩ K j=some r) (h:Sim T w0 S0 ⟨F,H⟩ F' w S φ)
  (e: ∀st,K st=some r->zt3 P ops Q (k+1) n ds w0 S0 st) (f: ∀a st,j a st=some r->yu3 Q n ds w0 S0 a st):WR P ops Q k n ds F' w:=by
 unfold zn5 at b;split at b
 ·split at b<;>try (cases b;done)
  split at b
  ·split at b<;>try (cases b;done)
   obtain ⟨⟨l,H2⟩,m,g,i,_⟩:=zz0 b h;exact zi1 c d g i e f
  ·exact zi1 c d b h e f
 ·split at b
  ·obtain ⟨⟨l,H2⟩,m,g,i,_⟩:=ya9 b h;exact zi1 c d g i e f
  ·exact zi1 c d b h e f
 ·split at b
  ·split at b
   ·split at b<;>try (cases b;done)
    obtain ⟨⟨l,H2⟩,m,g,i,_⟩:=zz0 b h;exact zi1 c d g i e f
   ·exact zi1 c d b h e f
  ·exact zi1 c d b h e f
 ·exact zi1 c d b h e f
def yu9 {R:Type} {r:R} {w0:World} {S0:Ow} {F:AF T} {F':PF} {w:World} {φ:Nat->RA}: ∀(l:List (Nat×Ty)) {aS:List (AV T.U)} {us:List Value} {H:List (Ent T.U)} {S:List Nat} {K:List (AV T.U)->List (Ent T.U)->Option R},gw6 T l aS H K=some r->Sim T w0 S0 ⟨F,H⟩ F' w S φ->VRL T w S φ aS us->
  ∃aS' H' S',K aS' H'=some r/\Sim T w0 S0 ⟨F,H'⟩ F' w S' φ/\VRL T w S' φ aS' us
 | [],aS,us,H,S,K,h,hs,hv=>⟨aS,H,S,h,hs,hv⟩
 |(j,t)::l,aS,us,H,S,K,h,hs,hv=>by
  unfold gw6 at h;split at h<;>try (cases h;done)
  rename_i a ha;obtain ⟨v,h1,h2⟩:=hv.get T ha;obtain ⟨S',k1,k2,k3⟩:=Sim.frzL a.ids hs;obtain ⟨y,h3,h4⟩:=jx3 (S':=S') h (fun i hi en hen _=>hs.ents i en hen) h2 φ k1 fun i hi ad had=>by
   obtain ⟨e,he,hl⟩:=vx3 h i hi;exact k2 i hi e he hl ad (.inl had)
  have hv':=(hv.chg T (Chg.refl [] w) (by simp) fun b hb=>.inl (k1 b hb)).set T j h4;rw [show us.set j v=us by
   obtain ⟨hlt,hg⟩:=X2.1 h1;rw [<-hg,N1]] at hv'
  exact yu9 l h3 k3 hv'
end
end Go.X
namespace Go.X
open Go.RowKit Go.V
section
variable {T:Tab} {w w':World} {S S':List Nat} {φ φ':Nat->RA} {w0:World} {S0:Ow} {F:AF T} {H:List (Ent T.U)} {F':PF}
def DRel.append {D E r d fe xs ys s G} (t:DRel T w S φ D d fe xs none s) (u:DRel T w S φ E d fe ys none G) (W:s.length=xs.length*T.size d)
  (O: ∀b,(b∈D.xs/\ ∀a,D.ad=some a->a.block≠b)\/(b∈E.xs/\ ∀a,E.ad=some a->a.block≠b)->b∈r.xs/\ ∀a,r.ad=some a->a.block≠b) (x: ∀b∈D.xs,b∉E.xs):DRel T w S φ' r d fe (xs++ys) none (s++G):=by
 have e: ∀j,¬vg9 T (T.size d) (none:Option (Nat×List (AV T.U))) j:=fun j h=>h;have K:(xs.flatMap (T.cells d)).length=xs.length*T.size d:=zc1 (T.len d) xs;have part: ∀(j:Nat) (c:Cell T.U) (v:Value),((xs++ys).flatMap (T.cells d))[j]?=some c->(s++G)[j]?=some v->
   (j<xs.length*T.size d/\(xs.flatMap (T.cells d))[j]?=some c/\s[j]?=some v)\/(∃i,j=xs.length*T.size d+i/\(ys.flatMap (T.cells d))[i]?=some c/\G[i]?=some v/\i%T.size d=j%T.size d):=by
  intro j c v l p;rw [J1] at l;rcases J9 j (xs.length*T.size d) with h|h
  ·rw [X8 (by omega)] at l p;exact .inl ⟨h,l,p⟩
  ·rw [Z2 (by omega)] at l p;rw [K] at l;rw [W] at p;exact .inr ⟨j-xs.length*T.size d,by omega,l,p,by
    conv=>rhs;rw [show j=(j-xs.length*T.size d)+xs.length*T.size d by omega]
    rw [Nat.add_mul_mod_self_right]⟩
 refine ⟨fun j c v l p _=>?_,fun j y c c' v z L l p _ M N _=>?_,fun a cs h=>by cases h⟩
 ·rcases part j c v l p with ⟨_,f,g⟩|⟨i,_,f,g,I⟩
  ·exact ⟨(t.cl j c v f g (e j)).1,fun b m=>O b (.inl ((t.cl j c v f g (e j)).2 b m))⟩
  ·rw [<-I];exact ⟨(u.cl i c v f g (e i)).1,fun b m=>O b (.inr ((u.cl i c v f g (e i)).2 b m))⟩
 ·intro b m;rcases part j c v l p with ⟨_,f,g⟩|⟨i,X,f,g,I⟩<;>rcases part y c' z M N with ⟨_,A,B⟩|⟨J,Y,A,B,V⟩
  ·exact t.ap j y c c' v z L f g (e j) A B (e y) b m
  ·rw [<-V];exact fun q=>x b ((t.cl j c v f g (e j)).2 b m).1 ((u.cl J c' z A B (e J)).2 b q).1
  ·rw [<-I] at m;exact fun q=>x b ((t.cl y c' z A B (e y)).2 b q).1 ((u.cl i c v f g (e i)).2 b m).1
  ·rw [<-I] at m;rw [<-V];exact u.ap i J c c' v z (by omega) f g (e i) A B (e J) b m
end
section
variable {T:Tab} (P:Program) {R:Type}
end
section
variable {T:Tab} {P:Program} {C:Ctx T} {w w':World} {S S':List Nat} {φ φ':Nat->RA} {w0:World} {S0:Ow} {F:AF T} {H:List (Ent T.U)} {F':PF}
variable {ops:Array Oper} {Q:Exit->Act->World->Prop} {k n:Nat} {ds:List Deferred} {o:Oper}
def DC.one {e c v} (h:DC T w S e c v):v.oneCell'=true:=by
 obtain ⟨t,x⟩:=c;have a:yo0 T w S ⟨t,x⟩ v->v.oneCell'=true:=fun h=>by
  have:=CellsR.one (T:=T) (cs:= [⟨t,x⟩]) (vs:= [v]) (w:=w) (S:=S) ⟨rfl,fun j c u b d=>by
   cases j with
   |zero=>simp at b d;subst b;subst d;exact h
   |succ j=>simp at b⟩
  exact this v (by simp)
 cases t with
 |list t=>
  by_cases f:e=0
  ·exact a (h.1 f)
  ·obtain ⟨B,ad,cap,g,rfl,_⟩:=h.2 f;rfl
 |_=>exact a h
end
section
variable {T:Tab} (P:Program) (C:Ctx T) {R:Type}
def yj5 (_:Program) (_:Ctx T) (_:Oper) (_:St T) (_:St T->Option R):Option (Option R):=none
def zj7 (o:Oper) (st:St T) (K:St T->Option R) (Kp:AV T.U->St T->Option R):Option R:=
 match zo3 P C o st K with
 |some z=>z
 |none=>match yj5 P C o st K with
  |some z=>z
  |none=>zn5 P C o st K Kp
end
section
variable {T:Tab} {P:Program} {C:Ctx T} {w:World} {S:List Nat} {φ:Nat->RA} {w0:World} {S0:Ow} {F:AF T} {H:List (Ent T.U)} {F':PF}
variable {ops:Array Oper} {Q:Exit->Act->World->Prop} {k n:Nat} {ds:List Deferred} {o:Oper}
def ji6 {R:Type} {r:R} (hd:dec ops k n F'=some o) {K:St T->Option R} (hz:yj5 P C o ⟨F,H⟩ K=some (some r)) (h:Sim T w0 S0 ⟨F,H⟩ F' w S φ)
  (HK: ∀st,K st=some r->zt3 P ops Q (k+1) n ds w0 S0 st):WR P ops Q k n ds F' w:=by
 unfold yj5 at hz;cases hz
def ji5 {R:Type} {r:R} (hE:zb1 T P C.E) (hd:dec ops k n F'=some o) {K:St T->Option R} {Kp:AV T.U->St T->Option R} (hs:zj7 P C o ⟨F,H⟩ K Kp=some r) (h:Sim T w0 S0 ⟨F,H⟩ F' w S φ)
  (HK: ∀st,K st=some r->zt3 P ops Q (k+1) n ds w0 S0 st) (HP: ∀a st,Kp a st=some r->yu3 Q n ds w0 S0 a st):WR P ops Q k n ds F' w:=by
 unfold zj7 at hs;split at hs
 ·rename_i z hz;exact ji7 hd hz hs h HK
 ·split at hs
  ·rename_i z hz;subst hs;exact ji6 hd hz h HK
  ·exact qv2 hE hd hs h HK HP
end
end Go.X
namespace Go.X
open Go.RowKit Go.V
def j9 {R:Type} (c:Bool) (x y:Option R):Option R:=if c=true then x else y
def zo8 {R:Type} {c:Bool} {x y:Option R} {r:R} (h:j9 c x y=some r):(c=true/\x=some r)\/(c=false/\y=some r):=by
 unfold j9 at h;cases c
 ·exact .inr ⟨rfl,by simpa using h⟩
 ·exact .inl ⟨rfl,by simpa using h⟩
section
variable {T:Tab} (P:Program) (C:Ctx T) {R:Type}
def gu1 (_:Program) (_:Ctx T) (_:Oper) (_:St T) (_:St T->Option R):Option (Option R):=none
end
section
variable {T:Tab} {P:Program} {C:Ctx T} {w w':World} {S S':List Nat} {φ φ':Nat->RA} {w0:World} {S0:Ow} {F:AF T} {H:List (Ent T.U)} {F':PF}
variable {ops:Array Oper} {Q:Exit->Act->World->Prop} {k n:Nat} {ds:List Deferred} {o:Oper}
def qv3 {R:Type} {r:R} (hd:dec ops k n F'=some o) {K:St T->Option R} (hz:gu1 P C o ⟨F,H⟩ K=some (some r)) (h:Sim T w0 S0 ⟨F,H⟩ F' w S φ)
  (HK: ∀st,K st=some r->zt3 P ops Q (k+1) n ds w0 S0 st):WR P ops Q k n ds F' w:=by
 unfold gu1 at hz;cases hz
end
end Go.X
