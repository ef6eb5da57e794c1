import Derived.Test.YtbanjakljpjknaaGreatA3
set_option linter.defProp false
namespace Go.X
open Go.RowKit Go.V
section
variable {T:Tab} {P:Program} {w w':World} {S S':List Nat} {φ φ':Nat->RA} {w0:World} {S0:Ow} {F:AF T} {H:List (Ent T.U)} {F':PF}
variable {rd:List Nat} {ops:Array Oper} {Q:Exit->Act->World->Prop} {k n:Nat} {ds:List Deferred} {o:Oper}
def zk8 {t n sz} (h:zh5 P t=some (n,sz)): ∃e a,P.underlying t=some (.array n e)/\P.info? e=some a/\a.size=sz/\ ∀w,(sizeOf e).run P w=.ok sz w:=by
 unfold zh5 at h;split at h
 ·rename_i m e c;split at h
  ·rename_i a b;simp only [X0,X7] at h;obtain ⟨rfl,rfl⟩:=h;exact ⟨e,a,c,b,rfl,fun w=>by simp [sizeOf,typeInfo,b]⟩
  ·cases h
 ·cases h
def yo1 (b a d:Nat):(⟨b,a,none⟩:Addr).add d=⟨b,a+d,none⟩:=by unfold Addr.add;split<;>simp_all
def QR.indexArr {t x y b d f sz h i} (u:dec ops k n F'=some o) (a:o.op=.indexAddr t x y) (c:zh5 P t=some (f,sz)) (j:ev F' x=some (.pointer (some ⟨b,d,none⟩))) (l:ev F' y=some (.int h i)) (g:0<=i/\i<(f:Int)):
  QR P F' o S φ rd w (.pointer (some ⟨b,d+i.toNat*sz,none⟩)):=by
 obtain ⟨e,m,p,_,_,q⟩:=zk8 c;intro v _ _;have r:=g.1;have s:=g.2;simp [execOp,a,u9 j,u9 l,Instr.indexAt,asIntOf,run_underlying p,Instr.sureAddr,r,s,q,yo1]
def kt4 {Z:Prop} {R:Type} {r:R} {t:TypeId} {x y:Operand} {V sz:Nat} (G:dec ops k n F'=some o) (l:o.op=.indexAddr t x y) (p:zh5 P t=some (V,sz)) {s:AV T.U} {kk:IntKind} {j:Int} (W:aev T F x=some s) (hy:aev T F y=some (cI T kk j)) {K0:AV T.U->Option R} (d:yg4 T V sz H s j K0=some r)
  (h:Sim T w0 S0 ⟨F,H⟩ F' w S φ) (K: ∀a v,K0 a=some r->QR P F' o S φ rd w v->VR T w S φ a v->okA H a->Z):Z:=by
 obtain ⟨X,I,M⟩:=u0 h.fr W;obtain ⟨Y,J,h4⟩:=u0 h.fr hy;have e:=zb0 h4;subst e;have q:=zd4 h W;unfold yg4 at d;split at d
 ·rename_i i o1;obtain ⟨g,L,rfl⟩:=M;split at d
  ·rename_i e cs hi;split at d
   ·rename_i b r hl;split at d
    ·rename_i ty m xs hb;have:=zu3 hb;subst this;split at d
     ·rename_i f;rw [X3] at f;have u:=X1 f.1;have z:=X1 f.2;obtain ⟨A,B⟩:=za7 d;exact K _ _ B (QR.indexArr G l p I J A) ⟨g,L,by omega,by simp⟩ ⟨q.1,trivial⟩
     ·cases d
    ·obtain ⟨A,B⟩:=za7 d;exact K _ _ B (QR.indexArr G l p I J A) ⟨g,L,rfl⟩ ⟨q.1,trivial⟩
   ·cases d
  ·cases d
 ·rename_i e xs k1 c;split at d
  ·rename_i f;rw [X3] at f;have u:=X1 f.1;have z:=X1 f.2;obtain ⟨A,C⟩:=za7 d;obtain ⟨D,B⟩:=za7 C;obtain ⟨ad,cap,hc,hk,rfl⟩:=M;subst u;subst z;exact K _ _ B (QR.indexArr G l p I J A) ⟨ad,cap,hc,D,by simp [U9,U2]⟩ ⟨q.1,trivial⟩
  ·cases d
 ·rename_i i s k1 c;split at d
  ·rename_i e ty xs hi;split at d
   ·rename_i f;rw [X3,X3] at f;have u:=X1 f.1;have z:=X1 f.2.1;have N:=X1 f.2.2;obtain ⟨A,C⟩:=za7 d;obtain ⟨D,B⟩:=za7 C;obtain ⟨g,L,rfl⟩:=M;subst u;subst z;subst N;refine K _ _ B (QR.indexArr G l p I J A) ⟨g,L,by simp [U9,U2]⟩ ⟨q.1,?_⟩;intro e1 t1 ys E;have O:H[i]?=some (.row e ty xs):=hi;rw [O] at E;simp only [X0,Ent.row.injEq] at E;obtain ⟨rfl,rfl,hh⟩:=E;have:=eq_of_heq hh;subst this;exact ⟨D,rfl⟩
   ·cases d
  ·cases d
 ·cases d
def gv2 (P:Program) (t:TypeId):Option (Nat×Nat):=match P.underlying t with|some (.pointer a)=>zh5 P a|_=>zh5 P t
def ve9 {c:Nat} {l h:Option Int} {kl kh:IntKind} (i:0<=l.getD 0/\l.getD 0<=h.getD c/\h.getD c<=(c:Int)) (w:World):(Instr.sliceBounds false c c (l.map (Value.int kl)) (h.map (Value.int kh)) none).run P w=.ok ((l.getD 0).toNat,(h.getD c).toNat,c) w:=by
 obtain ⟨d,f,g⟩:=i;cases l<;>cases h<;>simp only [Option.getD_none,V0] at d f g⊢
 ·simp [Instr.sliceBounds]
 ·rename_i b;simp [Instr.sliceBounds,Instr.sliceBound,asIntOf,f,g]
 ·rename_i a;simp [Instr.sliceBounds,Instr.sliceBound,asIntOf,d,f]
 ·rename_i a b;have e:a<=((b.toNat:Nat):Int):=by omega
  have j:0<=b:=by omega
  have m: ¬max b 0<a:=by omega
  simp [Instr.sliceBounds,Instr.sliceBound,asIntOf,d,j,g,e,m]
def QR.sliceArr {t x} {q r:Option Operand} {b d c sz} {l m:Option Int} {kl kh} (B:dec ops k n F'=some o) (h:o.op=.slice t x q r none) (f:gv2 P t=some (c,sz)) (s:ev F' x=some (.pointer (some ⟨b,d,none⟩)))
  (u:q.map (evD F')=l.map (Value.int kl)) (v:r.map (evD F')=m.map (Value.int kh)) (z:0<=l.getD 0/\l.getD 0<=m.getD c/\m.getD c<=(c:Int)):
  QR P F' o S φ rd w (.slice (some (if c=(l.getD 0).toNat then ⟨b,d,none⟩ else ⟨b,d+(l.getD 0).toNat*sz,none⟩)) ((m.getD c).toNat-(l.getD 0).toNat) (c-(l.getD 0).toNat)):=by
 intro i _ _;have y:=ve9 (P:=P) (kl:=kl) (kh:=kh) z i;unfold gv2 at f;split at f
 ·rename_i a A;obtain ⟨e,j,g,_,_,p⟩:=zk8 f;have:(Instr.sliceAt t (.pointer (some ⟨b,d,none⟩)) (l.map (Value.int kl)) (m.map (Value.int kh)) none).run P i=.ok (.slice (some (if c=(l.getD 0).toNat then ⟨b,d,none⟩ else ⟨b,d+(l.getD 0).toNat*sz,none⟩)) ((m.getD c).toNat-(l.getD 0).toNat) (c-(l.getD 0).toNat)) i:=by
   simp [Instr.sliceAt,Instr.slice,run_underlying A,run_underlying g,asAddr,y,p,yo1]
  simp [execOp,h,u9 s,u,v,this]
 ·obtain ⟨e,j,g,_,_,p⟩:=zk8 f;have:(Instr.sliceAt t (.pointer (some ⟨b,d,none⟩)) (l.map (Value.int kl)) (m.map (Value.int kh)) none).run P i=.ok (.slice (some (if c=(l.getD 0).toNat then ⟨b,d,none⟩ else ⟨b,d+(l.getD 0).toNat*sz,none⟩)) ((m.getD c).toNat-(l.getD 0).toNat) (c-(l.getD 0).toNat)) i:=by
   simp [Instr.sliceAt,run_underlying g,Instr.sureAddr,y,p,yo1]
  simp [execOp,h,u9 s,u,v,this]
def gf3 {Z:Prop} {R:Type} {r:R} {t:TypeId} {x:Operand} {W q:Option Operand} {f sz:Nat} (Y:dec ops k n F'=some o) (y:o.op=.slice t x W q none) (z:gv2 P t=some (f,sz)) {s:AV T.U} {l m:Option Int} (hx:aev T F x=some s) (D:qk7 F W=some l) (E:qk7 F q=some m)
  {K0:AV T.U->Option R} (d:yu0 T f sz H s l m K0=some r) (h:Sim T w0 S0 ⟨F,H⟩ F' w S φ) (K: ∀a v,K0 a=some r->QR P F' o S φ rd w v->VR T w S φ a v->okA H a->Z):Z:=by
 obtain ⟨X,h1,h2⟩:=u0 h.fr hx;obtain ⟨kl,e1⟩:=yy8 h.fr D;obtain ⟨kh,e2⟩:=yy8 h.fr E;have G:=zd4 h hx;unfold yu0 at d;simp only at d;split at d
 ·rename_i i o1;obtain ⟨g,hg,rfl⟩:=h2;split at d
  ·rename_i e cs q;split at d
   ·rename_i b r hl;split at d
    ·rename_i ty mm xs hb;have:=zu3 hb;subst this;split at d
     ·rename_i p;rw [X3] at p;have A:=X1 p.1;have B:=X1 p.2;obtain ⟨I,J⟩:=za7 d;refine K (.asl i o1 sz f (l.getD 0).toNat ((m.getD f).toNat-(l.getD 0).toNat)) _ J (QR.sliceArr Y y z h1 e1 e2 I) ⟨g,_,hg,rfl,by omega,?_⟩ ⟨G.1,trivial⟩;split
      ·left;omega
      ·right;rfl
     ·cases d
    ·cases d
   ·cases d
  ·cases d
 ·rename_i e xs k1 c;split at d
  ·rename_i p;rw [X3,X3] at p;have A:=X1 p.1;have B:=X1 p.2.1;have L:=X1 p.2.2;subst A;subst B;subst L;obtain ⟨hn,M⟩:=za7 d;obtain ⟨I,J⟩:=za7 M;obtain ⟨ad,cap,N,hk,rfl⟩:=h2;refine K (.cell ⟨.list e,_⟩) _ J (QR.sliceArr Y y z h1 e1 e2 I) ?_ ⟨fun i q=>(by cases q),trivial⟩;show CR T w S (.list e) (List.take ((m.getD f).toNat-(l.getD 0).toNat) (List.drop (l.getD 0).toNat xs)) _;have j:ad=some ⟨bk ad,of ad,none⟩:=by
    generalize hv:Value.slice ad xs.length cap=v at N;cases N with
    |list _ _ ad' cap' u hcap hnil j O hrel=>
     simp only [Value.slice.injEq,true_and] at hv;obtain ⟨rfl,rfl⟩:=hv;exact (j (by intro e;subst e;simp at hk)).1
   have h3:=CR.sub N (i:=0) (m:=f) (by omega);rw [vm5,N6] at h3;have V:(xs.take f).length=f:=by rw [Y6];omega
   have h4:CR T w S (.list e) (xs.take f) (.slice ad (xs.take f).length f):=CR.recap (by rw [V];exact h3) (by omega) (by intro e;rw [e] at j;cases j);have h5:=CR.sub h4 (i:=(l.getD 0).toNat) (m:=(m.getD f).toNat-(l.getD 0).toNat) (by omega);rw [List.drop_take,List.take_take,J5 (by omega)] at h5;have C:zm5 ad f (l.getD 0).toNat (szT T e)=some (if f=(l.getD 0).toNat then ⟨bk ad,of ad+(0*szT T e+0),none⟩ else ⟨bk ad,of ad+(0*szT T e+0)+(l.getD 0).toNat*szT T e,none⟩):=by
    unfold zm5;generalize bk ad=b at *;generalize of ad=o1 at *;subst j;split
    ·simp
    ·simp [yo1]
   rwa [C] at h5
  ·cases d
 ·cases d
def gv1 {Z:Prop} {R:Type} {r:R} {t:TypeId} {x:Operand} {n0 sz:Nat} (hop:o.op=.sliceToArrayPointer t x) (hai:zh5 P t=some (n0,sz)) {s:AV T.U} (hx:aev T F x=some s)
  {K0:AV T.U->Option R} (hK0:yr1 T n0 sz H s K0=some r) (h:Sim T w0 S0 ⟨F,H⟩ F' w S φ) (K: ∀a v,K0 a=some r->QR P F' o S φ rd w v->VR T w S φ a v->okA H a->Z):Z:=by
 obtain ⟨X,h1,h2⟩:=u0 h.fr hx;have hok:=zd4 h hx;obtain ⟨e0,inf,hu,_,_,_⟩:=zk8 hai;have run: ∀(ad:Option Addr) (m cap:Nat),X=.slice ad m cap->n0<=m->QR P F' o S φ rd w (.pointer ad):=by
  intro ad m cap e hm w1 _ _;subst e;simp [execOp,hop,u9 h1,Instr.arrayAt,run_underlying hu,Nat.not_lt.2 hm]
 unfold yr1 at hK0;split at hK0
 ·rename_i e xs;split at hK0
  ·rename_i hm;rw [X3] at hm;have hm2:=Y1 hm.2;obtain ⟨hn,hK⟩:=za7 hK0;have h2:CR T w S (.list e) xs X:=h2;have h2':=h2;cases h2' with
   |list _ _ ad cap u hcap hnil had hcell hrel=>
    have hq:=run ad _ _ rfl hn;have ha:=(had (by intro e;subst e;simp at hn;omega)).1;refine K _ _ hK hq ⟨ad,cap,h2,by omega,?_⟩ ⟨fun i hi=>(by cases hi),trivial⟩
    grind
  ·cases hK0
 ·rename_i i;split at hK0
  ·rename_i e ty xs hi;split at hK0
   ·rename_i hm;rw [X3] at hm;have hm1:=X1 hm.1;have hm2:=Y1 hm.2;subst hm1;obtain ⟨hn,hK⟩:=za7 hK0;rw [VR] at h2;subst h2;obtain ⟨g,c,B,vals,a1,a2,_⟩:=jm3 h hi (by omega);refine K _ _ hK (run _ _ _ rfl (by omega)) ⟨g,a1,by rw [a1];simp⟩ ⟨hok.1,?_⟩
    grind
   ·cases hK0
  ·cases hK0
 ·cases hK0
def gf6 {t e a} (b:P.underlying t=some (.array a e)):zk7 P t=false/\(P.underlying t).isSome=true:=by
 unfold zk7;rw [b];exact ⟨rfl,rfl⟩
def qw8 {α e:Type} {f:α->List e} {sz:Nat} (c: ∀y,(f y).length=sz) (l:List α) (a b:Nat):((l.flatMap f).drop (a*sz)).take (b*sz)=((l.drop a).take b).flatMap f:=by
 have g:(l.flatMap f).drop (a*sz)=(l.drop a).flatMap f:=by
  induction l generalizing a with
  |nil=>simp
  |cons x r d=>
   cases a with
   |zero=>simp
   |succ a=>rw [V9,List.drop_succ_cons,U4,J0,List.drop_append,c,T4 (by rw [c];omega),N5,M2,d]
 rw [g];generalize l.drop a=l;induction l generalizing b with
 |nil=>simp
 |cons x r d=>
  cases b with
  |zero=>simp
  |succ b=>rw [V9,List.take_succ_cons,V9,U4,J0,List.take_append,c,Q4 (by rw [c];omega),N5,d]
def gz7 {Z:Prop} {R:Type} {r:R} {t:TypeId} {x:Operand} {m sz:Nat} (G:dec ops k n F'=some o) (C:o.op=.load t x) (L:zh5 P t=some (m,sz)) {ok:Bool} (hk:ok=true->yb2 P t=some (m*sz)) {s:AV T.U} (hx:aev T F x=some s)
  {K0:AV T.U->Option R} {D:Option R} (b:yp7 T m sz ok H s K0 D=some r) (h:Sim T w0 S0 ⟨F,H⟩ F' w S φ) (M: ∀i∈s.ids,i∈rd) (K: ∀a v,K0 a=some r->QR P F' o S φ rd w v->VR T w S φ a v->okA H a->Z) (I:D=some r->Z):Z:=by
 obtain ⟨X,h1,h2⟩:=u0 h.fr hx;obtain ⟨e0,inf,hu,_,_,_⟩:=zk8 L;obtain ⟨u1,u2⟩:=gf6 hu;unfold yp7 at b;split at b
 ·rename_i e xs E c;split at b
  ·rename_i l;rw [X3,X3] at l;have q:=X1 l.2.1;have y:=X1 l.2.2;subst q;subst y;obtain ⟨N,O⟩:=za7 b;obtain ⟨ad,cap,V,W,rfl⟩:=h2;have z:bk ad∉S:=by
    generalize hv:Value.slice ad xs.length cap=v at V;cases V with
    |list _ _ ad' cap' u hcap hnil z Y hrel=>
     simp only [Value.slice.injEq,true_and] at hv;obtain ⟨rfl,rfl⟩:=hv;exact (z (by intro e;subst e;simp at W)).2.2
   obtain ⟨_,_,p,J,hcr⟩:=ju7 V;have d:=hcr.cut (E*szT T e) (m*szT T e);rw [qw8 (za9 T e)] at d;have f:((xs.drop E).take m).length=m:=by rw [Y6,Q7];omega
   have j:=d.1;rw [flatMap_lenT (za9 T e),f] at j;exact K _ _ O (QR.loadA G (fun w1 hc1 _=>J.chg hc1 (.inl z)) (by rw [zy9 G C,u9 h1,M3]) u1 u2 (hk l.1) _ j.symm rfl) ⟨_,rfl,f,d⟩ ⟨fun i A=>(by cases A),trivial⟩
  ·exact I b
 ·rename_i i s E c;split at b
  ·rename_i e ty xs A;split at b
   ·rename_i l;rw [X3,X3,X3] at l;have q:=X1 l.2.1;have y:=X1 l.2.2.1;have hm3:=X1 l.2.2.2;subst q;subst y;subst hm3;obtain ⟨N,O⟩:=za7 b;obtain ⟨hj,_⟩:=(zd4 h hx).2 e ty xs A;obtain ⟨g,hg,rfl⟩:=h2;obtain ⟨g',carr,B,p,a1,a2,a3,a4,a5,a6,a7,a8,_⟩:=jm3 h A (by omega);rw [hg] at a1;simp only [X0,Addr.mk.injEq,and_true] at a1;subst a1;have J:Rg w (φ i).ad p:=a3.rg;rw [hg] at J;have d:=a7.cut (E*szT T ty) (m*szT T ty);rw [qw8 (za9 T ty)] at d;have f:((xs.drop E).take m).length=m:=by rw [Y6,Q7];omega
    have j:=d.1;rw [flatMap_lenT (za9 T ty),f] at j;exact K _ _ O (QR.loadA (ad:=some ⟨g,0,none⟩) G (fun w1 _ hsm=>Rg.same J (show w1.heap[g]?=w.heap[g]? from hsm i (M i (by simp [AV.ids])) _ hg a4.lt)) (by rw [zy9 G C,u9 h1];rfl) u1 u2 (hk l.1) _ j.symm rfl) ⟨_,rfl,f,d⟩ ⟨fun i A=>(by cases A),trivial⟩
   ·exact I b
  ·exact I b
 ·exact I b
def ys3 {R:Type} (T:Tab) (n sz:Nat) (a:AV T.U) (j:Int) (K:AV T.U->Option R):Option R:=
 match a with
 | .arr ty m xs=>match Nat.beq m n&&(Nat.beq (szT T ty) sz&&(ty.one&&Nat.beq sz 1)) with
  |true=>if 0<=j/\j<((n:Nat):Int) then K (.cell ⟨ty,xs.getD j.toNat (ya7 T ty)⟩) else none
  |false=>none
 | .agg (.cell c::cs)=>match c.t.one&&Nat.beq sz 1,js2 T c.t n (.cell c::cs) with
  |true,some xs=>if 0<=j/\j<((n:Nat):Int) then K (.cell ⟨c.t,xs.getD j.toNat (ya7 T c.t)⟩) else none
  |_,_=>none
 |_=>none
def kw1 {e a d} (b:P.info? e=some a) (h:a.size=1) (c:P.underlying e=some d) (f:ye3 d=false) {cs j v} (g:cs[j]?=some v) (w):(part e cs j).run P w=.ok v w:=by
 refine yq0 ?_ w;unfold jb4;simp only [b,c,f];exact g
def kv5 {t} (h:t.one=true):szT T t=1:=by cases t<;>first|rfl|cases h
def kt5 {Z:Prop} {R:Type} {r:R} {t e:TypeId} {d:TypeDesc} {x y:Operand} {A sz:Nat} (L:o.op=.index t x y) (M:zh5 P t=some (A,sz)) (B:P.underlying t=some (.array A e)) (hu:P.underlying e=some d) (N:ye3 d=false) {s:AV T.U} {kk:IntKind} {j:Int} (hx:aev T F x=some s) (hy:aev T F y=some (cI T kk j))
  {O:AV T.U->Option R} (b:ys3 T A sz s j O=some r) (h:Sim T w0 S0 ⟨F,H⟩ F' w S φ) (K: ∀a v,O a=some r->QR P F' o S φ rd w v->VR T w S φ a v->okA H a->Z):Z:=by
 obtain ⟨X,h1,h2⟩:=u0 h.fr hx;obtain ⟨Y,h3,h4⟩:=u0 h.fr hy;have e1:=zb0 h4;subst e1;obtain ⟨e0,inf,l,C,V,J⟩:=zk8 M;rw [B] at l;simp only [X0,TypeDesc.array.injEq,true_and] at l;subst l;have go: ∀(ty:Ty) (xs:List (den T.U ty)) (us:Array Value),ty.one=true->sz=1->X=.agg us->CellsR T w S (xs.flatMap (zc6 T ty)) us.toList->xs.length=A->(0<=j/\j<(A:Int))->O (.cell ⟨ty,xs.getD j.toNat (ya7 T ty)⟩)=some r->Z:=by
  intro ty xs us f D hX q hl z E;subst hX;have W:j.toNat<xs.length:=by omega
  have hg:=zn8 (ya7 T ty) W;have G:(xs.flatMap (zc6 T ty))[j.toNat]?=some ⟨ty,xs.getD j.toNat (ya7 T ty)⟩:=by
   have:=yk4 (za9 T ty) hg;rw [kv5 f,Nat.mul_one,ja2 T f] at this;have h5:=congrArg (·[0]?) this;simpa [Z3,Q6] using h5
  have hul:j.toNat<us.toList.length:=by rw [<-q.1];exact (X2.1 G).1
  obtain ⟨u,I⟩: ∃u,us.toList[j.toNat]?=some u:=⟨_,Y0 hul⟩;have hcr:=q.2 _ _ _ G I;refine K _ u E (fun w1 _ _=>?_) hcr ⟨fun i hi=>(by cases hi),trivial⟩;have hp:=kw1 (P:=P) C (by rw [V,D]) hu N (cs:=us) (j:=j.toNat) (by simpa using I) w1;have b1:=z.1;have b2:=z.2;have J:=J w1;rw [D] at J;simp [execOp,L,u9 h1,u9 h3,Instr.index,asIntOf,run_underlying B,b1,b2,J,hp]
 unfold ys3 at b;split at b
 ·rename_i ty m xs;split at b
  ·rename_i g;rw [X3,X3,X3] at g;have hm1:=X1 g.1;have p:=X1 g.2.2.2;subst hm1;obtain ⟨z,E⟩:=za7 b;obtain ⟨us,rfl,hl,q⟩:=h2;exact go ty xs us g.2.2.1 p rfl q hl z E
  ·cases b
 ·rename_i c cs;split at b
  ·rename_i xs g hr;rw [X3] at g;have p:=X1 g.2;obtain ⟨z,E⟩:=za7 b;obtain ⟨us,rfl,q⟩:=h2;obtain ⟨q1,q2⟩:=yf1 hr q;exact go c.t xs us g.1 p rfl q2 q1 z E
  ·cases b
 ·cases b
def ki8 {a b:AV T.U} (h:vq7 T a b=true):a=b:=by
 unfold vq7 at h;split at h
 ·rw [X3] at h;obtain ⟨h1,h2⟩:=h;have h1:=zb6 h1;subst h1;have h2:=eq_of_beq (show (_==_)=true from h2)
  grind
 ·have h2:=eq_of_beq (show (_==_)=true from h)
  grind
 ·cases h
def qj4: ∀ {z r s},qb8 T z r=some s->r=z++s
 | [],r,s,h=>by simp only [qb8,X0] at h;exact h
 |_::_,[],s,h=>by cases h
 |a::z,b::r,s,h=>by
  unfold qb8 at h;split at h
  ·rename_i c;rw [<-ki8 c,qj4 h];rfl
  ·cases h
def js1 {t x z} (b:z=(zc6 T t x).map .cell): ∀ {m r vs},qb4 T z m r=true->VRL T w S φ r vs->CellsR T w S ((List.replicate m x).flatMap (zc6 T t)) vs
 |0,r,vs,h,a=>by
  have:r= []:=by simpa [qb4] using h
  subst this;cases vs with
  |nil=>exact ⟨rfl,fun j c v h=>by simp at h⟩
  |cons v r=>exact a.elim
 |m+1,r,vs,h,a=>by
  unfold qb4 at h;split at h
  ·rename_i s f;have:=qj4 f;subst this;have d:=a.take T z.length;rw [List.take_left' rfl] at d;have e:=a.drop T z.length;rw [List.drop_left' rfl] at e;rw [List.replicate_succ,V9,<-List.take_append_drop z.length vs];refine CellsR.app ?_ (js1 b h e);subst b;exact VRL.cells.1 d
  ·cases h
def kb9 {a:AV T.U} (h:qp2 a=true):a=.raw (.slice none 0 0):=by
 unfold qp2 at h;split at h
 ·rfl
 ·cases h
def qy3 {e:Ty}: ∀ {aS:List (AV T.U)} {vs:List Value},aS.all qp2=true->VRL T w S φ aS vs->CellsR T w S ((List.replicate aS.length ([]:List (den T.U e))).flatMap (zc6 T (.nl e))) vs
 | [],[],_,_=>⟨rfl,fun j c v h=>by cases h⟩
 | [],_::_,_,hv=>hv.elim
 |_::_,[],_,hv=>hv.elim
 |a::aS,v::vs,h,hv=>by
  rw [V6,X3] at h;have h1:=kb9 h.1;subst h1;have h2:v=.slice none 0 0:=hv.1;subst h2;show CellsR T w S (([⟨.nl e,([]:List (den T.U e))⟩]:List (Cell T.U))++(List.replicate aS.length ([]:List (den T.U e))).flatMap (zc6 T (.nl e))) ([.slice none 0 0]++vs);refine CellsR.app ?_ (qy3 h.2 hv.2);refine ⟨rfl,fun j c v hj hv=>?_⟩
  match j with
  |0=>
   simp only [Y4,X0] at hj hv;subst hj;subst hv;exact .nl e [] none 0 (.list e [] none 0 (fun _ _=>.slice none 0 0) (W6 0) (fun _=>⟨rfl,rfl⟩) (fun h=>absurd rfl h) (fun k j c h=>by simp at h) (fun k j c h=>by simp at h)) fun _=>⟨rfl,rfl⟩
  |j+1=>simp at hj
def vi1 {t:Ty} {m:Nat} {aS:List (AV T.U)} {xs:List (den T.U t)} {vs:List Value} (h:vo3 T m aS t=some xs) (hv:VRL T w S φ aS vs):xs.length=m/\CellsR T w S (xs.flatMap (zc6 T t)) vs:=by
 unfold vo3 at h;split at h
 ·split at h
  ·rename_i hb;rw [X3] at hb;simp only [X0] at h;subst h;have:=X1 hb.2;subst this;exact ⟨Z9,qy3 hb.1 hv⟩
  ·cases h
 ·cases h
def vz9 {t:Ty} {m:Nat} {aS:List (AV T.U)} {xs:List (den T.U t)} {vs:List Value} (h:gq1 T t m aS=some xs) (hv:VRL T w S φ aS vs):xs.length=m/\CellsR T w S (xs.flatMap (zc6 T t)) vs:=by
 unfold gq1 at h;split at h
 ·rename_i ys hys;simp only [X0] at h;subst h;exact vi1 hys hv
 split at h
 ·rename_i l hl;split at h
  ·rename_i x hx;split at h
   ·rename_i hr;simp only [X0] at h;subst h;exact ⟨Z9,js1 (by rw [zp0 T hx];exact zt4 hl) hr hv⟩
   ·exact yf1 h hv
  ·cases h
 ·cases h
def yv0: ∀ {ls:Lay} {aS cs:List (AV T.U)},yy1 T ls aS=some cs->(∀i∈za1 cs,i∈za1 aS)/\ ∀ {w:World} {S:List Nat} {φ:Nat->RA} {vs:List Value},VRL T w S φ aS vs->BR T w S φ cs vs
 | [],[],cs,h=>by
  simp only [yy1,X0] at h;subst h;exact ⟨fun i hi=>hi,fun hv=>⟨hv,trivial⟩⟩
 | [],_::_,cs,h=>by cases h
 |none::r,[],cs,h=>by cases h
 |none::r,a::s,cs,h=>by
  unfold yy1 at h;simp only at h;split at h
  ·rename_i hn;split at h
   ·rename_i l hl;simp only [X0] at h;subst h;obtain ⟨h1,h2⟩:=yv0 hl;refine ⟨fun i hi=>?_,fun {w S φ vs} hv=>?_⟩
    ·rw [za1] at hi⊢;exact X4.2 ((X4.1 hi).imp id (h1 i))
    ·match vs,hv with
     |v::vs,hv=>
      have:=h2 hv.2;exact ⟨by rw [zj2,zq6 T hn];exact ⟨hv.1,this.1⟩,ye6 T hn,this.2⟩
   ·cases h
  ·cases h
 |some (t,m)::r,aS,cs,h=>by
  unfold yy1 at h;split at h
  ·rename_i xs l hx hl;simp only [X0] at h;subst h;obtain ⟨h1,h2⟩:=yv0 hl;refine ⟨fun i hi=>?_,fun {w S φ vs} hv=>?_⟩
   ·rw [za1] at hi;rcases X4.1 hi with hi|hi
    ·cases hi
    ·have:=h1 i hi;rw [<-List.take_append_drop (m*szT T t) aS,yn1];exact X4.2 (.inr this)
   ·obtain ⟨q1,q2⟩:=vz9 hx (hv.take T (m*szT T t));have q3:=h2 (hv.drop T (m*szT T t));refine ⟨?_,q1,q3.2⟩;rw [zj2,<-List.take_append_drop (m*szT T t) vs];exact VRL.app T (VRL.cells.2 q2) q3.1
  ·cases h
def qx2 {ls:Option Lay} {aS cs:List (AV T.U)} (h:gz4 T ls aS=some cs):(∀i∈za1 cs,i∈za1 aS)/\ ∀ {w:World} {S:List Nat} {φ:Nat->RA} {vs:List Value},VRL T w S φ aS vs->BR T w S φ cs vs:=by
 unfold gz4 at h;split at h
 ·split at h
  ·rename_i hn;simp only [X0] at h;subst h;exact ⟨fun i hi=>hi,fun hv=>BR.of T hv hn⟩
  ·cases h
 ·exact yv0 h
def kr5 {g a cs} (h:boxA T g a=some cs):(∀i∈za1 cs,i∈a.ids)/\ ∀ {w:World} {S:List Nat} {φ:Nat->RA} {v:Value},VR T w S φ a v->BR T w S φ cs v.cells.toList:=by
 unfold boxA at h;split at h
 ·rename_i z j;obtain ⟨t,m,xs⟩:=z;have:=zu3 j;subst this;simp only [X0] at h;subst h;refine ⟨fun i c=>c,fun {w S φ v} d=>?_⟩;obtain ⟨us,rfl,e,f⟩:=d;refine ⟨?_,e,trivial⟩;rw [zj2,zj2,V5];exact VRL.cells.2 f
 ·split at h
  ·rename_i b;obtain ⟨e,f⟩:=qx2 h;exact ⟨fun i c=>by have:=e i c;rwa [yh8 b] at this,fun d=>f (zk9 b d)⟩
  ·cases h
def vz6 {e} (p:dec ops k n F'=some o) (l:o.op=.alloc e) {q cs b} (d:qt4 T P e=some cs) (s:gz4 T q cs=some b) (h:Sim T w0 S0 ⟨F,H⟩ F' w S φ)
  (K:zt3 P ops Q (k+1) n ds w0 S0 (⟨zc2 T F o.dst (.ptr H.length 0),H++ [.blk e b]⟩:St T)):WR P ops Q k n ds F' w:=by
 unfold qt4 at d;split at d
 ·rename_i c t;simp only [X0] at d;subst d;obtain ⟨u,v⟩:=qx2 s;refine WR.alloc (qu2 p l) c t fun g w' f=>K _ _ ⟨g::S,yd4 φ H.length ⟨some ⟨g,0,none⟩,0,0,[]⟩,?_⟩;have x:=h.add (r:=⟨some ⟨g,0,none⟩,0,0,[]⟩) f.chg f.fresh f.blk.lt (fun a y=>yr2 y) (e:=.blk e b)
   ⟨g,c,by rw [za8],f.blk,by simp,v (ye7 T _)⟩ (by intro j z;have:=u j z;rw [yp9] at this;cases this)
  refine x.slot ⟨g,by rw [za8],rfl⟩ ⟨by intro i m;simp [AV.ids] at m;subst m;simp,trivial⟩
 ·cases d
def ue6 {U:Nat->Type}:AV U->Bool| .ptr _ _=>true| .eptr _ _ _ _=>true| .lptr _ _ _ _=>true| .aptr _ _ _ _ _ _=>true| .fn (.func _) _ _=>true|_=>false
def kj1 {x} (c:o.op=.nilCheck x) {a} (h:ue6 a=true) {v} (d:ev F' x=some v) (e:VR T w S φ a v):QR P F' o S φ rd w v:=by
 intro i _ _;cases a<;>first|(cases h;done)|skip
 ·obtain ⟨g,_,rfl⟩:=e;simp [execOp,c,u9 d]
 ·obtain ⟨g,_,rfl⟩:=e;simp [execOp,c,u9 d]
 ·obtain ⟨ad,cap,_,_,rfl⟩:=e;simp [execOp,c,u9 d]
 ·rename_i f a b;cases f<;>first|(cases h;done)|skip
  obtain ⟨j,l,rfl,_⟩:=e;simp [execOp,c,u9 d]
 ·obtain ⟨g,_,_,rfl⟩:=e;simp [execOp,c,u9 d]
end
end Go.X
namespace Go.X
open Go.RowKit Go.V
section
variable {T:Tab} {P:Program} {w w':World} {S S':List Nat} {φ φ':Nat->RA} {w0:World} {S0:Ow} {F:AF T} {H:List (Ent T.U)} {F':PF}
variable {rd:List Nat} {ops:Array Oper} {Q:Exit->Act->World->Prop} {k n:Nat} {ds:List Deferred} {o:Oper}
def zy2 {t a b c} (h:qg3 P t=some (c,a,b)):jd4 P t=some (a,b,.int c):=by
 unfold qg3 at h;split at h
 ·rename_i d e f;split at h
  ·rename_i i g;simp only [X0,X7] at h;obtain ⟨rfl,rfl,rfl⟩:=h;simp [jd4,f,g]
  ·cases h
 ·cases h
def kv1 {t m p d} (q:dec ops k n F'=some o) (b:o.op=.makeMap t none) (_:qg3 P t=some (d,m,p)) (h:Sim T w0 S0 ⟨F,H⟩ F' w S φ)
  (K:zt3 P ops Q (k+1) n ds w0 S0 (⟨zc2 T F o.dst (.mp H.length),H++ [.map d []]⟩:St T)):WR P ops Q k n ds F' w:=by
 have f:yf8 ops k n F'=some (o.dst,t):=by
  unfold yf8;rw [q];cases o;simp only at b;subst b;rfl
 refine WR.mkMap f fun g w' c=>K _ _ ⟨g::S,yd4 φ H.length ⟨some ⟨g,0,none⟩,0,0,[]⟩,?_⟩;have s:=h.add (r:=⟨some ⟨g,0,none⟩,0,0,[]⟩) c.chg c.fresh c.blk.lt (fun a u=>yr2 u) (e:=.map d [])
  ⟨g,#[],0,by rw [za8],c.blk,by simp,trivial,MapKept.stamped_empty 0⟩ (by intro j v;cases v)
 exact s.slot ⟨g,by rw [za8],rfl⟩ ⟨by intro i l;simp [AV.ids] at l;subst l;simp,trivial⟩
def kd8 {t m p d ty} (q:dec ops k n F'=some o) (b:o.op=.makeMap t none) (_:qg3 P t=some (d,m,p)) (h:Sim T w0 S0 ⟨F,H⟩ F' w S φ)
  (K:zt3 P ops Q (k+1) n ds w0 S0 (⟨zc2 T F o.dst (.mp H.length),H++ [.tmap d ty []]⟩:St T)):WR P ops Q k n ds F' w:=by
 have f:yf8 ops k n F'=some (o.dst,t):=by
  unfold yf8;rw [q];cases o;simp only at b;subst b;rfl
 refine WR.mkMap f fun g w' c=>K _ _ ⟨g::S,yd4 φ H.length ⟨some ⟨g,0,none⟩,0,0,[]⟩,?_⟩;have s:=h.add (r:=⟨some ⟨g,0,none⟩,0,0,[]⟩) c.chg c.fresh c.blk.lt (fun a u=>yr2 u) (e:=.tmap d ty [])
  ⟨g,#[],0,by rw [za8],c.blk,by simp,trivial,MapKept.stamped_empty 0⟩ (by intro j v;cases v)
 exact s.slot ⟨g,by rw [za8],rfl⟩ ⟨by intro i l;simp [AV.ids] at l;subst l;simp,trivial⟩
def TR.find {kd:IntKind} {ty:Ty} {x:Int}: ∀ {es:List (Int×den T.U ty)} {l:List MapEntry} (i:Nat),TR T w S kd ty es l->
  (Instr.findNow (.int kd) (.int kd x) l i=some none/\kp9 es x=false/\vz3 T ty es x=ya7 T ty/\(∀a,yw1 es x a=es++ [(x,a)])/\yx2 es x=es/\ ∀e∈l,e.key≠.int kd x)\/
  ∃j e,Instr.findNow (.int kd) (.int kd x) l i=some (some (i+j,e.val))/\l[j]?=some e/\e.key=.int kd x/\CR T w S ty (vz3 T ty es x) e.val/\kp9 es x=true/\(∀a v,CR T w S ty a v->TR T w S kd ty (yw1 es x a) (l.modify j fun e=> {e with key:=.int kd x,val:=v}))/\TR T w S kd ty (yx2 es x) (l.eraseIdx j)
 | [],[],_,_=>.inl ⟨rfl,rfl,rfl,fun _=>rfl,rfl,by simp⟩
 | [],_::_,_,h=>h.elim
 |_::_,[],_,h=>h.elim
 |(y,a)::r,e::l,i,h=>by
  obtain ⟨h1,h2,h3⟩:=h;by_cases hx:x=y
  ·subst hx;refine .inr ⟨0,e,?_,rfl,h1,?_,?_,?_,?_⟩
   ·unfold Instr.findNow;rw [h1];simp [Instr.sameNow]
   ·simpa [vz3] using h2
   ·simp [kp9]
   ·intro b v hb;simp only [yw1,if_true];exact ⟨rfl,hb,h3⟩
   ·simp only [yx2,if_true];exact h3
  ·have hf:Instr.findNow (.int kd) (.int kd x) (e::l) i=Instr.findNow (.int kd) (.int kd x) l (i+1):=by
    rw [Instr.findNow,h1];simp only [Instr.sameNow,if_true]
    grind
   rcases TR.find (x:=x) (i+1) h3 with ⟨g1,g2,g3,g4,g5,g6⟩|⟨j,e',g1,g2,g3,g4,g5,g6,g7⟩
   ·refine .inl ⟨hf.trans g1,by simp [kp9,hx,g2],by simp [vz3,hx,g3],fun b=>by simp [yw1,hx,g4],by simp [yx2,hx,g5],?_⟩
    grind
   ·refine .inr ⟨j+1,e',by rw [hf,g1];simp;omega,by simpa using g2,g3,by simpa [vz3,hx] using g4,by simp [kp9,hx,g5],fun b v hb=>?_,?_⟩
    ·simp only [yw1,hx,if_false];exact ⟨h1,h2,g6 b v hb⟩
    ·simp only [yx2,hx,if_false];exact ⟨h1,h2,g7⟩
def TR.snoc {b ty x a v c} (d:CR T w S ty a v): ∀ {es l},TR T w S b ty es l->TR T w S b ty (es++ [(x,a)]) (l++ [{key:=.int b x,val:=v,born:=c}])
 | [],[],_=>⟨rfl,d,trivial⟩
 | [],_::_,h=>h.elim
 |_::_,[],h=>h.elim
 |(_,_)::_,_::_,h=>⟨h.1,h.2.1,TR.snoc d h.2.2⟩
def yn7 {i g f ty es es' l l' c c'} (h:Sim T w0 S0 ⟨F,H⟩ F' w S φ) (j:H[i]?=some (.tmap f ty es)) (p:(φ i).ad=some ⟨g,0,none⟩) (t:Mp w g l c)
  (e:g∈S) (u:TR T w S f ty es' l'.toList) (m:MapKept.Stamped l' c'):Sim T w0 S0 ⟨F,H.set i (.tmap f ty es')⟩ F' {w with heap:=w.heap.setIfInBounds g (.map l' c')} S φ:=by
 have a:=MapKept.heap_set (o':=.map l' c') t;have s:Chg [g] w {w with heap:=w.heap.setIfInBounds g (.map l' c')}:=⟨rfl,rfl,rfl,by simp,fun r _ v=>a.2 r (by simpa using v)⟩;refine h.upd j rfl s ?_ ⟨g,_,_,p,a.1,e,u.chg T s ?_ fun b d=>.inl d,m⟩ ?_ ?_
 ·intro b d;simp at d;subst d;exact ⟨_,.inl p,rfl⟩
 ·intro b d;simp at d;subst d;exact e
 ·intro q x;cases x
 ·intro z A xs y;cases y
def gf9 {i g:Nat} {t kt et:TypeId} {kd:IntKind} {ty:Ty} {es:List (Int×den T.U ty)} {l:Array MapEntry} {c:Nat} {x:Int} {a:den T.U ty} {v:Value} (hmk:qg3 P t=some (kd,kt,et)) (h:Sim T w0 S0 ⟨F,H⟩ F' w S φ) (hHi:H[i]?=some (.tmap kd ty es)) (hg:(φ i).ad=some ⟨g,0,none⟩) (hm:Mp w g l c)
  (hgS:g∈S) (ht:TR T w S kd ty es l.toList) (hst:MapKept.Stamped l c) (hv:CR T w S ty a v): ∃w',(Instr.mapUpdate t (.map (some g)) (.int kd x) v).run P w=.ok () w'/\Sim T w0 S0 ⟨F,H.set i (.tmap kd ty (yw1 es x a))⟩ F' w' S φ:=by
 obtain ⟨hu,hkd⟩:=zp9 (zy2 hmk);have hb:w.heap[g]?=some (.map l c):=hm;rcases TR.find (x:=x) 0 ht with ⟨g1,_,_,g4,_,g6⟩|⟨j,e',g1,g2,g3,_,_,g6,_⟩
 ·refine ⟨_,?_,yn7 (l':=l.push {key:=.int kd x,val:=v,born:=c}) (c':=c+1) h hHi hg hm hgS ?_ (MapKept.stamped_push hst g6)⟩
  ·simp [Instr.mapUpdate,run_underlying hu,MapKept.run_getObj_map hb,MapKept.run_checkKey hkd (show MapKept.IsKey (.int kd) (.int kd x) from rfl),MapKept.run_findKey hkd g1,MapKept.run_setObj_map _ hb,Result.andThen]
  ·rw [g4,Array.toList_push];exact TR.snoc hv ht
 ·have hlt:j<l.size:=by have:=(X2.1 g2).1;simpa using this
  have g2':l[j]?=some e':=by simpa using g2
  have hl':(l.modify j fun e=> {e with key:=.int kd x,val:=v}).toList=l.toList.modify j fun e=> {e with key:=.int kd x,val:=v}:=by simp
  refine ⟨_,?_,yn7 (l':=l.modify j fun e=> {e with key:=.int kd x,val:=v}) (c':=c) h hHi hg hm hgS (by rw [hl'];exact g6 a v hv) (MapKept.stamped_modify hst j _ (fun _ _=>rfl) fun e _ he=>?_)⟩
  ·rw [W9] at g1;have g2'':l[j]=e':=by rw [Z6 hlt] at g2';exact X5 g2'
   simp [Instr.mapUpdate,run_underlying hu,MapKept.run_getObj_map hb,MapKept.run_checkKey hkd (show MapKept.IsKey (.int kd) (.int kd x) from rfl),MapKept.run_findKey hkd g1,MapKept.run_setObj_map _ hb,Result.andThen,g2',g2'',g3,MapKept.run_keyThatStays (show MapKept.IsKey (.int kd) (.int kd x) from rfl)]
  ·grind
def gf8 {i g t z A ty' at2 a ty es l c x} (q:qg3 P t=some (a,z,A)) (h:Sim T w0 S0 ⟨F,H⟩ F' w S φ) (d:H[i]?=some (.tmap a ty es)) (u:(φ i).ad=some ⟨g,0,none⟩) (r:Mp w g l c)
  (e:g∈S) (v:TR T w S a ty es l.toList) (f:MapKept.Stamped l c): ∃w',(Builtin.delete_ (t::at2).toArray ty' #[.map (some g),.int a x]).run P w=.ok (.tuple #[]) w'/\Sim T w0 S0 ⟨F,H.set i (.tmap a ty (yx2 es x))⟩ F' w' S φ:=by
 obtain ⟨y,b⟩:=zp9 (zy2 q);have m:w.heap[g]?=some (.map l c):=r;rcases TR.find (x:=x) 0 v with ⟨p,_,_,_,B,_⟩|⟨j,E,p,C,G,_,_,_,D⟩
 ·refine ⟨_,?_,yn7 (l':=l) (c':=c) h d u r e (by rw [B];exact v) f⟩;simp [Builtin.delete_,run_underlying y,MapKept.run_getObj_map m,MapKept.run_checkKey b (show MapKept.IsKey (.int a) (.int a x) from rfl),MapKept.run_findKey b p,MapKept.run_setObj_map _ m,Result.andThen]
 ·have s:j<l.size:=by have:=(X2.1 C).1;simpa using this
  refine ⟨_,?_,yn7 (l':=l.eraseIdxIfInBounds j) (c':=c) h d u r e ?_ (MapKept.stamped_erase f j)⟩
  ·rw [W9] at p;simp [Builtin.delete_,run_underlying y,MapKept.run_getObj_map m,MapKept.run_checkKey b (show MapKept.IsKey (.int a) (.int a x) from rfl),MapKept.run_findKey b p,MapKept.run_setObj_map _ m,Result.andThen]
  ·have:(l.eraseIdxIfInBounds j).toList=l.toList.eraseIdx j:=by
    unfold Array.eraseIdxIfInBounds;rw [dif_pos s,Array.toList_eraseIdx]
   rw [this];exact D
def wi8 {ty z} (h:zTy ty z=true):CR T w S ty (ya7 T ty) z:=by
 unfold zTy at h;split at h
 ·rename_i k i x;rw [X3] at h;have:=zb6 h.1;subst this;have a:x=0:=by simpa [zTy.eqZ] using h.2
  subst a;exact .int _ _
 ·rename_i b;have d:b=false:=by simpa using h
  subst d;exact .bool _
 ·rename_i e n c;rw [X3] at h;have f:=X1 h.1;have g:=X1 h.2;subst f;subst g;exact .list e [] none 0 (fun _ _=>.int .i64 0) (W6 _) (fun _=>⟨rfl,rfl⟩) (fun h=>absurd rfl h) (fun k j c h=>by simp at h) (fun k j c h=>by simp at h)
 ·cases h
def kk2 {b ty} (h:gu3 P b ty=true): ∃z,(P.info? b).bind (·.zero)=some z/\CR T w S ty (ya7 T ty) z:=by
 unfold gu3 at h;split at h
 ·rename_i c a;split at h
  ·rename_i z d;exact ⟨z,by rw [a];exact d,wi8 h⟩
  ·cases h
 ·cases h
def MR.snoc {b x a v c} (d:VR T w S φ a v): ∀ {es l},MR T w S φ b es l->MR T w S φ b (es++ [(x,a)]) (l++ [{key:=.int b x,val:=v,born:=c}])
 | [],[],_=>⟨rfl,d,trivial⟩
 | [],_::_,h=>h.elim
 |_::_,[],h=>h.elim
 |(_,_)::_,_::_,h=>⟨h.1,h.2.1,MR.snoc d h.2.2⟩
def MR.find2 {kd:IntKind} {x:Int}: ∀ {es:List (Int×AV T.U)} {l:List MapEntry} (i:Nat),MR T w S φ kd es l->
  (Instr.findNow (.int kd) (.int kd x) l i=some none/\(∀a,yw1 es x a=es++ [(x,a)])/\yx2 es x=es/\ ∀e∈l,e.key≠.int kd x)\/
  ∃j e,Instr.findNow (.int kd) (.int kd x) l i=some (some (i+j,e.val))/\l[j]?=some e/\e.key=.int kd x/\(∀a v,VR T w S φ a v->MR T w S φ kd (yw1 es x a) (l.modify j fun e=> {e with key:=.int kd x,val:=v}))/\MR T w S φ kd (yx2 es x) (l.eraseIdx j)
 | [],[],_,_=>.inl ⟨rfl,fun _=>rfl,rfl,by simp⟩
 | [],_::_,_,h=>h.elim
 |_::_,[],_,h=>h.elim
 |(y,a)::r,e::l,i,h=>by
  obtain ⟨h1,h2,h3⟩:=h;by_cases hx:x=y
  ·subst hx;refine .inr ⟨0,e,?_,rfl,h1,?_,?_⟩
   ·unfold Instr.findNow;rw [h1];simp [Instr.sameNow]
   ·intro b v hb;simp only [yw1,if_true];exact ⟨rfl,hb,h3⟩
   ·simp only [yx2,if_true];exact h3
  ·have hf:Instr.findNow (.int kd) (.int kd x) (e::l) i=Instr.findNow (.int kd) (.int kd x) l (i+1):=by
    rw [Instr.findNow,h1];simp only [Instr.sameNow,if_true]
    grind
   rcases MR.find2 (x:=x) (i+1) h3 with ⟨g1,g4,g5,g6⟩|⟨j,e',g1,g2,g3,g6,g7⟩
   ·refine .inl ⟨hf.trans g1,fun b=>by simp [yw1,hx,g4],by simp [yx2,hx,g5],?_⟩
    grind
   ·refine .inr ⟨j+1,e',by rw [hf,g1];simp;omega,by simpa using g2,g3,fun b v hb=>?_,?_⟩
    ·simp only [yw1,hx,if_false];exact ⟨h1,h2,g6 b v hb⟩
    ·simp only [yx2,hx,if_false];exact ⟨h1,h2,g7⟩
def qf4 {U:Nat->Type} (x:Int) (a:AV U): ∀(es:List (Int×AV U)) (q:Nat),q∈idsM (yw1 es x a)->q∈idsM es\/q∈a.ids
 | [],q,h=>by simpa [yw1,idsM] using h
 |(y,b)::r,q,h=>by
  unfold yw1 at h;split at h
  ·rw [idsM] at h⊢
   grind
  ·rw [idsM] at h⊢;rcases X4.1 h with h|h
   ·exact .inl (X4.2 (.inl h))
   ·rcases qf4 x a r q h with h|h
    ·exact .inl (X4.2 (.inr h))
    ·exact .inr h
def qf3 {U} (x:Int): ∀(es:List (Int×AV U)) (q:Nat),q∈idsM (yx2 es x)->q∈idsM es
 | [],q,h=>h
 |(y,b)::r,q,h=>by
  unfold yx2 at h;rw [idsM];split at h
  ·exact X4.2 (.inr h)
  ·rw [idsM] at h;rcases X4.1 h with h|h
   ·exact X4.2 (.inl h)
   ·exact X4.2 (.inr (qf3 x r q h))
def jp5 {i g j es es' l l' c c'} (h:Sim T w0 S0 ⟨F,H⟩ F' w S φ) (m:H[i]?=some (.map j es)) (s:(φ i).ad=some ⟨g,0,none⟩) (u:Mp w g l c)
  (e:g∈S) (v:MR T w S φ j es' l'.toList) (p:MapKept.Stamped l' c') (f: ∀q∈idsM es',q<H.length):Sim T w0 S0 ⟨F,H.set i (.map j es')⟩ F' {w with heap:=w.heap.setIfInBounds g (.map l' c')} S φ:=by
 have a:=MapKept.heap_set (o':=.map l' c') u;have t:Chg [g] w {w with heap:=w.heap.setIfInBounds g (.map l' c')}:=⟨rfl,rfl,rfl,by simp,fun r _ x=>a.2 r (by simpa using x)⟩;have y: ∀b∈ [g],b∈S:=by intro b d;simp at d;subst d;exact e
 refine h.upd m rfl t ?_ ⟨g,_,_,s,a.1,e,v.chg T t y fun b d=>.inl d,p⟩ ?_ ?_
 ·intro b d;simp at d;subst d;exact ⟨_,.inl s,rfl⟩
 ·exact f
 ·intro A B xs z;cases z
def wa5 {i g t R V b es l c x a v} (A:qg3 P t=some (b,R,V)) (h:Sim T w0 S0 ⟨F,H⟩ F' w S φ) (p:H[i]?=some (.map b es)) (G:(φ i).ad=some ⟨g,0,none⟩) (B:Mp w g l c)
  (r:g∈S) (I:MR T w S φ b es l.toList) (s:MapKept.Stamped l c) (J:VR T w S φ a v) (C: ∀q∈a.ids,q<H.length): ∃w',(Instr.mapUpdate t (.map (some g)) (.int b x) v).run P w=.ok () w'/\Sim T w0 S0 ⟨F,H.set i (.map b (yw1 es x a))⟩ F' w' S φ:=by
 obtain ⟨K,d⟩:=zp9 (zy2 A);have y:w.heap[g]?=some (.map l c):=B;have m: ∀q∈idsM (yw1 es x a),q<H.length:=fun q W=>(qf4 x a es q W).elim (h.eids _ _ p q) (C q);rcases MR.find2 (x:=x) 0 I with ⟨z,X,_,Y⟩|⟨j,L,z,M,N,Z,_⟩
 ·refine ⟨_,?_,jp5 (l':=l.push {key:=.int b x,val:=v,born:=c}) (c':=c+1) h p G B r ?_ (MapKept.stamped_push s Y) m⟩
  ·simp [Instr.mapUpdate,run_underlying K,MapKept.run_getObj_map y,MapKept.run_checkKey d (show MapKept.IsKey (.int b) (.int b x) from rfl),MapKept.run_findKey d z,MapKept.run_setObj_map _ y,Result.andThen]
  ·rw [X,Array.toList_push];exact MR.snoc J I
 ·have D:j<l.size:=by have:=(X2.1 M).1;simpa using this
  have f:l[j]?=some L:=by simpa using M
  have E:(l.modify j fun e=> {e with key:=.int b x,val:=v}).toList=l.toList.modify j fun e=> {e with key:=.int b x,val:=v}:=by simp
  refine ⟨_,?_,jp5 (l':=l.modify j fun e=> {e with key:=.int b x,val:=v}) (c':=c) h p G B r (by rw [E];exact Z a v J) (MapKept.stamped_modify s j _ (fun _ _=>rfl) fun e _ O=>by rw [f] at O;have:=X5 O;subst this;exact N.symm) m⟩;rw [W9] at z;have u:l[j]=L:=by rw [Z6 D] at f;exact X5 f
  simp [Instr.mapUpdate,run_underlying K,MapKept.run_getObj_map y,MapKept.run_checkKey d (show MapKept.IsKey (.int b) (.int b x) from rfl),MapKept.run_findKey d z,MapKept.run_setObj_map _ y,Result.andThen,f,u,N,MapKept.run_keyThatStays (show MapKept.IsKey (.int b) (.int b x) from rfl)]
def wa4 {i g t B C ty' at2 a es l c x} (s:qg3 P t=some (a,B,C)) (h:Sim T w0 S0 ⟨F,H⟩ F' w S φ) (e:H[i]?=some (.map a es)) (y:(φ i).ad=some ⟨g,0,none⟩) (u:Mp w g l c)
  (f:g∈S) (z:MR T w S φ a es l.toList) (m:MapKept.Stamped l c): ∃w',(Builtin.delete_ (t::at2).toArray ty' #[.map (some g),.int a x]).run P w=.ok (.tuple #[]) w'/\Sim T w0 S0 ⟨F,H.set i (.map a (yx2 es x))⟩ F' w' S φ:=by
 obtain ⟨A,b⟩:=zp9 (zy2 s);have p:w.heap[g]?=some (.map l c):=u;have d: ∀q∈idsM (yx2 es x),q<H.length:=fun q D=>h.eids _ _ e q (qf3 x es q D);rcases MR.find2 (x:=x) 0 z with ⟨r,_,E,_⟩|⟨j,J,r,G,K,_,I⟩
 ·refine ⟨_,?_,jp5 (l':=l) (c':=c) h e y u f (by rw [E];exact z) m d⟩;simp [Builtin.delete_,run_underlying A,MapKept.run_getObj_map p,MapKept.run_checkKey b (show MapKept.IsKey (.int a) (.int a x) from rfl),MapKept.run_findKey b r,MapKept.run_setObj_map _ p,Result.andThen]
 ·have v:j<l.size:=by have:=(X2.1 G).1;simpa using this
  refine ⟨_,?_,jp5 (l':=l.eraseIdxIfInBounds j) (c':=c) h e y u f ?_ (MapKept.stamped_erase m j) d⟩
  ·rw [W9] at r;simp [Builtin.delete_,run_underlying A,MapKept.run_getObj_map p,MapKept.run_checkKey b (show MapKept.IsKey (.int a) (.int a x) from rfl),MapKept.run_findKey b r,MapKept.run_setObj_map _ p,Result.andThen]
  ·have:(l.eraseIdxIfInBounds j).toList=l.toList.eraseIdx j:=by
    unfold Array.eraseIdxIfInBounds;rw [dif_pos v,Array.toList_eraseIdx]
   rw [this];exact I
def qf6 {t E G I} (z:dec ops k n F'=some o) (d:o.op=.insert t E G I\/o.op=.mapUpdate t E G I) (b:o.dst=none) {m a kx x} (hm:aev T F E=some m) (hk:aev T F G=some (cI T kx x)) (hv:aev T F I=some a) {H1} (f:gi1 T P t H m kx x a=some H1)
  (h:Sim T w0 S0 ⟨F,H⟩ F' w S φ) (K:zt3 P ops Q (k+1) n ds w0 S0 (⟨F,H1⟩:St T)):WR P ops Q k n ds F' w:=by
 obtain ⟨M,A,h2⟩:=u0 h.fr hm;obtain ⟨X,B,h4⟩:=u0 h.fr hk;obtain ⟨V,C,h6⟩:=u0 h.fr hv;have e:=zb0 h4;subst e;have J:=zd4 h hv;unfold gi1 at f;split at f
 ·rename_i i kd kt et r;split at f
  ·rename_i L es j;split at f
   ·rename_i p;rw [X3] at p;have N:=zb6 p.1;have O:=zb6 p.2;subst N;subst O;simp only [X0] at f;subst f;obtain ⟨g,s,rfl⟩:=h2;obtain ⟨g',l,c,q,R,W,Y,Z⟩:=h.ents i _ j;rw [s] at q;simp only [X0,Addr.mk.injEq,and_true] at q;subst q;obtain ⟨w',u,v⟩:=wa5 (x:=x) r h j s R W Y Z h6 J.1;rcases d with d|d
    ·refine WR.skip z (w':=w') ?_ (by rw [b];exact K _ _ ⟨S,φ,v⟩);cases o;simp only at d b;subst d;subst b;simp [execOp,u9 A,u9 B,u9 C,u]
    ·refine WR.skip z (w':=w') ?_ (by rw [b];exact K _ _ ⟨S,φ,v⟩);cases o;simp only at d b;subst d;subst b;simp [execOp,u9 A,u9 B,u9 C,u]
   ·cases f
  ·rename_i L ty es j;split at f
   ·rename_i y p D;rw [X3] at p;have N:=zb6 p.1;have O:=zb6 p.2;subst N;subst O;simp only [X0] at f;subst f;obtain ⟨g,s,rfl⟩:=h2;obtain ⟨g',l,c,q,R,W,Y,Z⟩:=h.ents i _ j;rw [s] at q;simp only [X0,Addr.mk.injEq,and_true] at q;subst q;unfold wm2 at D;split at D
    ·rename_i cl;have e:=Cell.as_eq D;subst e;obtain ⟨w',u,v⟩:=gf9 (x:=x) r h j s R W Y Z h6;rcases d with d|d
     ·refine WR.skip z (w':=w') ?_ (by rw [b];exact K _ _ ⟨S,φ,v⟩);cases o;simp only at d b;subst d;subst b;simp [execOp,u9 A,u9 B,u9 C,u]
     ·refine WR.skip z (w':=w') ?_ (by rw [b];exact K _ _ ⟨S,φ,v⟩);cases o;simp only at d b;subst d;subst b;simp [execOp,u9 A,u9 B,u9 C,u]
    ·cases D
   ·cases f
  ·cases f
 ·cases f
def qg2 {R:Type} {r:R} {f:IntKind} {x:Int} {d:Bool} {z:AV T.U} {Z:Value} (g:VR T w S φ z Z) {K:AV T.U->Option R}: ∀ {es:List (Int×AV T.U)} {l:List MapEntry} (i:Nat),jj5 T d z x K es=some r->MR T w S φ f es l->
  ∃a q,K a=some r/\Instr.findNow (.int f) (.int f x) l i=some q/\VR T w S φ a (lkV Z d q)/\ ∀j∈a.ids,j∈z.ids\/j∈idsM es
 | [],[],i,h,_=>by
  refine ⟨_,none,h,rfl,?_,fun j c=>.inl ?_⟩
  ·cases d
   ·exact g
   ·exact ⟨_,rfl,g,CR.bool _,trivial⟩
  ·cases d
   ·exact c
   ·simpa [AV.ids,za1] using c
 | [],_::_,_,_,h=>h.elim
 |_::_,[],_,_,h=>h.elim
 |(y,b)::es,e::l,i,h,s=>by
  obtain ⟨t,p,u⟩:=s;unfold jj5 at h;unfold Instr.findNow;rw [t];simp only [Instr.sameNow,if_true];split at h
  ·rename_i v;subst v;rw [show (x==x)=true from by simp];refine ⟨_,some (i,e.val),h,rfl,?_,fun j c=>.inr ?_⟩
   ·cases d
    ·exact p
    ·exact ⟨_,rfl,p,CR.bool _,trivial⟩
   ·rw [idsM];cases d
    ·exact X4.2 (.inl c)
    ·exact X4.2 (.inl (by simpa [AV.ids,za1] using c))
  ·rename_i m;rw [show (x==y)=false from by simpa using m];obtain ⟨a,q,A,B,C,D⟩:=qg2 g (i+1) h u;exact ⟨a,q,A,B,C,fun j c=>(D j c).imp id fun c=>by rw [idsM];exact X4.2 (.inr c)⟩
def gz9 {Z:Prop} {R:Type} {r:R} {t:TypeId} {xm xk:Operand} {f:Bool} (hd:dec ops k n F'=some o) (p:o.op=.lookup t xm xk f) {m:AV T.U} {L:IntKind} {x:Int} (hm:aev T F xm=some m) (hk:aev T F xk=some (cI T L x)) {K0:AV T.U->Option R} (b:jp1 T P t f H m L x K0=some r)
  (h:Sim T w0 S0 ⟨F,H⟩ F' w S φ) (N: ∀i∈m.ids,i∈rd) (K: ∀a v,K0 a=some r->QR P F' o S φ rd w v->VR T w S φ a v->(∀i∈a.ids,i<H.length)->Z):Z:=by
 obtain ⟨M,h1,h2⟩:=u0 h.fr hm;obtain ⟨X,h3,h4⟩:=u0 h.fr hk;have e:=zb0 h4;subst e;unfold jp1 at b;split at b
 ·rename_i i kd kt et O;split at b
  ·rename_i kd' es s;split at b
   ·rename_i z C D;rw [X3] at C;obtain ⟨V,W⟩:=C;have V:=zb6 V;have W:=zb6 W;subst V;subst W;obtain ⟨g,Y,rfl⟩:=h2;obtain ⟨g',l,c,E,a2,a3,a4,a5⟩:=h.ents i _ s;rw [Y] at E;simp only [X0,Addr.mk.injEq,and_true] at E;subst E;obtain ⟨y,d,hze⟩: ∃y,(P.info? et).bind (·.zero)=some y/\z=ofV T y:=by
     unfold vl9 at D;split at D
     ·rename_i inf hinf;split at D
      ·rename_i y d;simp only [X0] at D;exact ⟨y,by rw [hinf];exact d,D.symm⟩
      ·cases D
     ·cases D
    subst hze;obtain ⟨a,q,q1,q2,q3,q4⟩:=qg2 (ql6 T y) 0 b a4;have G:zx6 ops k n F'=some (o.dst,t,.map (some g),.int L x,f):=by
     unfold zx6;rw [hd];cases o;simp only at p;subst p;simp only [u9 h1,u9 h3]
    refine K a _ q1 (fun w1 _ I=>?_) q3 fun j A=>?_
    ·have J:Mp w1 g l c:=(I i (N i (by simp [AV.ids])) _ Y a2.lt).trans a2;have u:=js3 (P:=P) J G (zy2 O) rfl q q2 d _ rfl;unfold zo7 at u;rw [hd] at u;simp only [X0,X7] at u;exact u.2
    ·rcases q4 j A with A|A
     ·rw [ql5] at A;cases A
     ·exact h.eids _ _ s j A
   ·cases b
  ·rename_i kd' ty es s;split at b
   ·rename_i C;rw [X3,X3] at C;have V:=zb6 C.1;have W:=zb6 C.2.1;subst V;subst W;obtain ⟨g,Y,rfl⟩:=h2;obtain ⟨g',l,c,E,a2,a3,a4,a5⟩:=h.ents i _ s;rw [Y] at E;simp only [X0,Addr.mk.injEq,and_true] at E;subst E;obtain ⟨y,d,hzr⟩:=kk2 (T:=T) (w:=w) (S:=S) C.2.2;have G:zx6 ops k n F'=some (o.dst,t,.map (some g),.int L x,f):=by
     unfold zx6;rw [hd];cases o;simp only at p;subst p;simp only [u9 h1,u9 h3]
    have hq: ∀q,Instr.findNow (.int L) (.int L x) l.toList 0=some q->QR P F' o S φ rd w (lkV y f q):=fun q q2 w1 _ I=>by
     have J:Mp w1 g l c:=(I i (N i (by simp [AV.ids])) _ Y a2.lt).trans a2;have u:=js3 (P:=P) J G (zy2 O) rfl q q2 d _ rfl;unfold zo7 at u;rw [hd] at u;simp only [X0,X7] at u;exact u.2
    have B: ∀j∈(vo1 T f ty es x).ids,j<H.length:=by
     intro j A;cases f<;>simp [vo1,AV.ids,za1] at A
    rcases TR.find (x:=x) 0 a4 with ⟨g1,g2,g3,_⟩|⟨j,e',g1,g2,g3,g4,g5,_⟩
    ·refine K _ _ b (hq _ g1) ?_ B;cases f
     ·show CR T w S ty _ _;rw [g3];exact hzr
     ·exact ⟨_,rfl,by rw [g3];exact hzr,by rw [g2];exact CR.bool _,trivial⟩
    ·refine K _ _ b (hq _ g1) ?_ B;cases f
     ·exact g4
     ·exact ⟨_,rfl,g4,by rw [g5];exact CR.bool _,trivial⟩
   ·cases b
  ·cases b
 ·cases b
end
end Go.X
namespace Go.X
open Go.RowKit Go.V
structure CallSpec (T:Tab) where
 call: {R:Type}->List (AV T.U)->List (Ent T.U)->(AV T.U->List (Ent T.U)->Option R)->(AV T.U->List (Ent T.U)->Option R)->Option R
 q: {R:Type}->List (AV T.U)->List (Ent T.U)->(AV T.U->Option R)->Option R
 isq:Bool
 wr:List (AV T.U)->List (Ent T.U)->List Nat
structure Ctx (T:Tab) where
 ty:TypeId->Option Ty
 E:List (FuncId×CallSpec T)
 pin:Nat
 ms:List (Nat×Nat)
 lay:TypeId->Option Lay:=fun _=>none
 dr:TypeId->Option (Nat×List TypeId):=fun _=>none
 pm:TypeId->Option (TypeId×Nat):=fun _=>none
section
variable {T:Tab} (P:Program) (C:Ctx T)
def qo9:List (FuncId×CallSpec T)->FuncId->Option (CallSpec T)
 | [],_=>none
 |(g,c)::r,f=>match Nat.beq g f with|true=>some c|false=>qo9 r f
def zj5:AV T.U->Bool| .eptr _ _ _ _=>false|_=>true
def wl7:Op->Bool| .move _=>true| .assign _=>true| .fieldAddr _ _ _=>true|_=>false
def zs6 (f:FuncId):Bool:=match P.funcs[f]? with|some fn=> !(fn.name== "runtime.NumGoroutine")&&fn.body.isSome|none=>false
def lenM (t:TypeId) (H:List (Ent T.U)) (a:AV T.U):Option Int:=
 match P.underlying t with
 |some (.map _ _)=>match a with
  | .mp i=>match H[i]? with|some (.tmap _ _ m)=>some ((m.length:Nat):Int)|_=>none
  |_=>none
 |_=>none
def qq4:List (AV T.U)->List Nat
 | []=> []
 | .mp i::r=>i::qq4 r
 |_::r=>qq4 r
def lenOf (t:TypeId) (H:List (Ent T.U)) (a:AV T.U):Option Int:=
 match P.underlying t with
 |some (.slice _)=>match lenA T H a with|some n=>some ((n:Nat):Int)|none=>none
 |some .string=>match a with| .cell ⟨.str,s⟩=>some ((ByteArray.size s:Nat):Int)|_=>none
 |_=>none
section
variable {R:Type}
def jj7 (c:Bool) (x y:AV T.U) (K:AV T.U->Option R):Option R:=
 match gr4 T c x y with
 |some z=>K z
 |none=>match zj5 x&&zj5 y with|true=>if c=true then K x else K y|false=>none
def yo4 (c:Call) (st:St T) (K:AV T.U->List (Ent T.U)->Option R) (Kp:AV T.U->List (Ent T.U)->Option R):Option R:=
 match zx4 T st.F c.args.toList with
 |none=>none
 |some aS=>
  match c.callee with
  | .value f=>match aev T st.F f with
   |some (.fn (.func g) first caps)=>match zs6 P g,qo9 C.E g with
    |true,some cs=>match (first++aS++caps).all zj5 with|true=>cs.call (first++aS++caps) st.H K Kp|false=>none
    |_,_=>none
   |_=>none
  | .builtin .append=>match aS,c.argTypes.toList with
   | [s,x],[t,t']=>match Nat.beq t t',C.ty t with|true,some e=>appA T P e t st.H s x K|_,_=>none
   |_,_=>none
  | .builtin .clear=>match aS,c.argTypes.toList with
   | [s],[t]=>yr4 T P t st.H s K
   |_,_=>none
  | .builtin .delete=>match aS,c.argTypes.toList with
   | [m,.cell ⟨.int kx,x⟩],t::_=>(match gw3 T P t st.H m kx x with|some H1=>K (.tup []) H1|none=>none)
   |_,_=>none
  |_=>none
def vj9 (o:Oper) (F:AF T):List Nat:=
 match o.op with
 | .load _ x=>match aev T F x with|some a=>a.ids|none=> []
 | .convert _ _ x=>match aev T F x with|some a=>a.ids|none=> []
 | .lookup _ m _ _=>match aev T F m with|some a=>a.ids|none=> []
 | .call c=>match c.callee with
  | .value f=>match aev T F f,zx4 T F c.args.toList with|some a,some aS=>a.ids++za1 aS|_,_=> []
  | .builtin .len=>match zx4 T F c.args.toList with|some aS=>qq4 aS|none=> []
  |_=> []
 |_=> []
def gq2:Op->Bool
 | .indexAddr t _ _=>(zh5 P t).isSome
 | .index t _ _=>(zh5 P t).isSome
 | .slice t _ _ _ none=>(gv2 P t).isSome
 | .sliceToArrayPointer _ _=>true
 | .load t _=>(zh5 P t).isSome
 | .nilCheck _=>true
 | .lookup _ _ _ _=>true
 |_=>false
def gq5 (t:TypeId):Bool:=match P.underlying t with|some (.array _ e)=>(match P.underlying e with|some d=> !ye3 d|none=>false)|_=>false
def yq6 (o:Oper) (st:St T) (K:AV T.U->Option R):Option R:=
 match o.op with
 | .indexAddr t x y=>match zh5 P t,aev T st.F x,aev T st.F y with
  |some (n,sz),some s,some (.cell ⟨.int _,j⟩)=>yg4 T n sz st.H s j K
  |_,_,_=>none
 | .index t x y=>match zh5 P t,aev T st.F x,aev T st.F y,gq5 P t with
  |some (n,sz),some s,some (.cell ⟨.int _,j⟩),true=>ys3 T n sz s j K
  |_,_,_,_=>none
 | .slice t x c d none=>match gv2 P t,aev T st.F x,qk7 st.F c,qk7 st.F d with
  |some (n,sz),some s,some l,some h=>yu0 T n sz st.H s l h K
  |_,_,_,_=>none
 | .sliceToArrayPointer t x=>match zh5 P t,aev T st.F x with
  |some (n,sz),some s=>yr1 T n sz st.H s K
  |_,_=>none
 | .load t x=>match zh5 P t,aev T st.F x with
  |some (n,sz),some p=>yp7 T n sz (match P.info? t with|some i=>Nat.beq i.size (n*sz)|none=>false) st.H p K (j6 (loadA T P t st.H p) K)
  |_,_=>none
 | .nilCheck x=>match aev T st.F x with|some a=>(match ue6 a with|true=>K a|false=>none)|none=>none
 | .lookup t m x e=>match aev T st.F m,aev T st.F x with
  |some a,some (.cell ⟨.int f,x⟩)=>jp1 T P t e st.H a f x fun b=>match zj5 b with|true=>K b|false=>none
  |_,_=>none
 |_=>none
def zr9 (o:Oper) (st:St T) (K:AV T.U->Option R):Option R:=
 match jq9 T P o.op st.F with
 |some a=>match wl7 o.op||zj5 a with|true=>K a|false=>none
 |none=>match o.op with
  | .pick c a b=>match aev T st.F c,aev T st.F a,aev T st.F b with
   |some (.cell ⟨.bool,c⟩),some x,some y=>jj7 c x y K
   |_,_,_=>none
  | .binOp b _ x y _=>match aev T st.F x,aev T st.F y with
   |some x,some y=>divA T b x y K
   |_,_=>none
  | .load t x=>match aev T st.F x with
   |some p=>match loadA T P t st.H p with|some a=>K a|none=>none
   |none=>none
  | .convert s d x=>match P.underlying s,P.underlying d,aev T st.F x with
   |some (.slice e),some .string,some a=>match P.underlying e with
    |some (.int .u8)=>rdF T st.H (.list (.int .u8)) a fun xs=>K (.cell ⟨.str,yz0 xs⟩)
    |_=>none
   |_,_,_=>none
  | .index t x y=>match P.underlying t,aev T st.F x,aev T st.F y with
   |some .string,some (.cell ⟨.str,s⟩),some (.cell ⟨.int _,j⟩)=>jk1 s j fun b=>K (cI T .u8 b)
   |_,_,_=>none
  | .indexAddr t x y=>match aev T st.F x,aev T st.F y with
   |some s,some (.cell ⟨.int _,j⟩)=>zy0 T P t st.H s j K
   |_,_=>none
  | .slice t x lo hi none=>match aev T st.F x,qk7 st.F lo,qk7 st.F hi with
   |some s,some l,some h=>match l,h with
    |none,none=>none
    |l,h=>yh2 T P t st.H s l h K
   |_,_,_=>none
  | .typeAssert x _ at_ ok=>match aev T st.F x with
   |some a=>match jc2 T P a at_ ok with|some b=>(match zj5 b with|true=>K b|false=>none)|none=>none
   |none=>none
  | .call c=>match zx4 T st.F c.args.toList with
   |none=>none
   |some aS=>match c.callee with
    | .builtin .len=>match aS,c.argTypes.toList with
     | [a],[t]=>match lenOf P t st.H a with
      |some n=>K (cI T .i64 n)
      |none=>match lenM P t st.H a with|some n=>K (cI T .i64 n)|none=>none
     |_,_=>none
    | .builtin .min=>match minA T aS with|some a=>K a|none=>none
    | .builtin .max=>match maxA T aS with|some a=>K a|none=>none
    |_=>none
  |_=>none
def zz6 (o:Oper) (st:St T) (K:AV T.U->Option R):Option R:=match gq2 P o.op with|true=>yq6 P o st K|false=>zr9 P o st K
def stepA (o:Oper) (st:St T) (K:St T->Option R) (j:AV T.U->St T->Option R):Option R:=
 let f:=fun (a:AV T.U) (H:List (Ent T.U))=>K ⟨zc2 T st.F o.dst a,H⟩
 match o.op with
 | .alloc e=>match qt4 T P e with
  |some cs=>(match gz4 T (C.lay e) cs with|some cs=>f (.ptr st.H.length 0) (st.H++ [.blk e cs])|none=>none)
  |none=>none
 | .box e x=>match aev T st.F x with
  |some a=>match boxA T (C.lay e) a with|some cs=>f (.ptr st.H.length 0) (st.H++ [.blk e cs])|none=>none
  |none=>none
 | .makeMap t none=>match qg3 P t,C.ty t with
  |some (k,_,_),none=>f (.mp st.H.length) (st.H++ [.map k []])
  |some (k,_,_),some ty=>f (.mp st.H.length) (st.H++ [.tmap k ty []])
  |none,_=>none
 | .insert t m x v=>match o.dst,aev T st.F m,aev T st.F x,aev T st.F v with
  |none,some a,some (.cell ⟨.int h,x⟩),some b=>(match zj5 b,gi1 T P t st.H a h x b with|true,some H1=>K ⟨st.F,H1⟩|_,_=>none)
  |_,_,_,_=>none
 | .mapUpdate t m x v=>match o.dst,aev T st.F m,aev T st.F x,aev T st.F v with
  |none,some a,some (.cell ⟨.int h,x⟩),some b=>(match zj5 b,gi1 T P t st.H a h x b with|true,some H1=>K ⟨st.F,H1⟩|_,_=>none)
  |_,_,_,_=>none
 | .store t x y=>match o.dst,aev T st.F x,aev T st.F y with
  |none,some p,some a=>match jm5 T P t st.H p a with|some H1=>K ⟨st.F,H1⟩|none=>none
  |_,_,_=>none
 | .makeSlice t x y=>match aev T st.F x,aev T st.F y,C.ty t with
  |some (.cell ⟨.int _,l⟩),some (.cell ⟨.int _,c⟩),some e=>qc9 T P e t st.H l c f
  |_,_,_=>none
 | .buildSlice t g ps=>match zy5 T st.F ps.toList,C.ty t with
  |some l,some ty=>match vm2 T P ty t g l with|some (e,xs)=>f (.own st.H.length) (st.H++ [.row e ty xs])|none=>none
  |some l,none=>match qn9 T P t g l with|some (e,sz,cs)=>f (.sl st.H.length sz 0 g) (st.H++ [.blk e cs])|none=>none
  |_,_=>none
 | .call c=>match reads c with
  |true=>zz6 P o st fun a=>f a st.H
  |false=>yo4 P C c st f fun a H=>j a ⟨st.F,H⟩
 | .convert s d x=>match P.underlying s,P.underlying d,aev T st.F x with
  |some .string,some (.slice e),some (.cell ⟨.str,b⟩)=>match P.underlying e with
   |some (.int .u8)=>f (.cell ⟨.list (.int .u8),zw0 b⟩) st.H
   |_=>none
  |some (.slice _),some (.slice e),some (.own i)=>match Nat.beq s d,C.ty d,P.underlying e,appA.rowIn T (.int .u8) st.H (.own i) with
   |true,some _,some (.int .u8),some (x::xs)=>f (.cell ⟨.list (.int .u8),x::xs⟩) (st.H.set i .gone)
   |_,_,_,_=>none
  |_,_,_=>zz6 P o st fun a=>f a st.H
 | .panic x=>match aev T st.F x with|some (.ifc t a)=>j (.ifc t a) st|_=>none
 |_=>zz6 P o st fun a=>f a st.H
where
 reads (c:Call):Bool:=match c.callee with| .builtin .len=>true| .builtin .min=>true| .builtin .max=>true|_=>false
end
end
section
variable {T:Tab} {P:Program} {C:Ctx T} {w w':World} {S S':List Nat} {φ φ':Nat->RA} {w0:World} {S0:Ow} {F:AF T} {H:List (Ent T.U)} {F':PF}
variable {rd:List Nat} {ops:Array Oper} {Q:Exit->Act->World->Prop} {k n:Nat} {ds:List Deferred} {o:Oper}
def zc0 (T:Tab) (P:Program) (f:FuncId) (cs:CallSpec T):Prop:=
 ∀ {R:Type} (aS:List (AV T.U)) (H:List (Ent T.U)) (K Kp:AV T.U->List (Ent T.U)->Option R) (r:R),cs.call aS H K Kp=some r->
  ∀(w0:World) (S0:Ow) (F:AF T) (F':PF) (w:World) (S:List Nat) (φ:Nat->RA),Sim T w0 S0 ⟨F,H⟩ F' w S φ-> ∀vs:List Value,VRL T w S φ aS vs->(∀a∈aS,okA H a)->
  Calls P f vs.toArray w fun e w'=>match e with
   | .returned v=> ∃a H1,K a H1=some r/\ ∃S1 φ1,Sim T w0 S0 ⟨F,H1⟩ F' w' S1 φ1/\VR T w' S1 φ1 a v/\okA H1 a
   | .panicked ch=> ∃a H1,Kp a H1=some r/\ ∃v,ch= [{v:=v,recovered:=false}]/\ ∃S1 φ1,Sim T w0 S0 ⟨F,H1⟩ F' w' S1 φ1/\VR T w' S1 φ1 a v/\okA H1 a
   | .outgrown=>False
def zl5 (T:Tab) (P:Program) (f:FuncId) (cs:CallSpec T):Prop:=
 ∀ {R:Type} (aS:List (AV T.U)) (H:List (Ent T.U)) (K:AV T.U->Option R) (r:R),cs.q aS H K=some r->
  ∀(w0:World) (S0:Ow) (F:AF T) (F':PF) (w:World) (S:List Nat) (φ:Nat->RA),Sim T w0 S0 ⟨F,H⟩ F' w S φ-> ∀vs:List Value,VRL T w S φ aS vs->(∀a∈aS,okA H a)->
  ∃a v,K a=some r/\VR T w S φ a v/\okA H a/\ ∀w1,Chg S w w1->Same φ (za1 aS) w w1->Calls P f vs.toArray w1 (zu2 w1 v)
structure Keeps (T:Tab) (l:List Nat) (H H1:List (Ent T.U)):Prop where
 len:H.length<=H1.length
 same: ∀e,e<H.length->e∉l->H1[e]?=H[e]?
 row: ∀(e:Nat) (ty:TypeId) (t:Ty) (ys:List (den T.U t)),e<H.length->H1[e]?=some (.row ty t ys)-> ∃xs,H[e]?=some (.row ty t xs)
def yj9 (cs:CallSpec T):Prop:=
 ∀ {R:Type} (aS:List (AV T.U)) (H:List (Ent T.U)) (K Kp:AV T.U->List (Ent T.U)->Option R) (r:R),cs.call aS H K Kp=some r->
  (∃a H1,K a H1=some r/\Keeps T (cs.wr aS H) H H1/\ ∀ {R':Type} (K' Kp':AV T.U->List (Ent T.U)->Option R'),cs.call aS H K' Kp'=K' a H1)\/
  ∃a H1,Kp a H1=some r/\Keeps T (cs.wr aS H) H H1/\ ∀ {R':Type} (K' Kp':AV T.U->List (Ent T.U)->Option R'),cs.call aS H K' Kp'=Kp' a H1
def zb1 (T:Tab) (P:Program) (E:List (FuncId×CallSpec T)):Prop:= ∀f cs,qo9 E f=some cs->zc0 T P f cs/\zl5 T P f cs/\yj9 cs
def ze6 {a} (h:zj5 a=true) (b: ∀i∈a.ids,i<H.length):okA H a:=⟨b,by cases a<;>first|trivial|cases h⟩
def jt5 {l:List Operand} (hs:Sim T w0 S0 ⟨F,H⟩ F' w S φ): ∀ {aS:List (AV T.U)},zx4 T F l=some aS-> ∀i∈za1 aS,i<H.length:=by
 induction l with
 |nil=>intro aS h;simp only [zx4,X0] at h;subst h;intro i hi;cases hi
 |cons x r ih=>
  intro aS h;unfold zx4 at h;split at h
  ·rename_i a l ha hl;simp only [X0] at h;subst h;intro i hi;rw [za1] at hi;rcases X4.1 hi with hi|hi
   ·exact (zd4 hs ha).1 i hi
   ·exact ih hl i hi
  ·cases h
def vi9 {aS cs:List (AV T.U)} {o0:Nat} {m:Nat} (h1: ∀i∈za1 cs,i<m) (h2: ∀i∈za1 aS,i<m): ∀i∈za1 (yl7 T cs o0 aS),i<m:=fun i hi=>(jf8 i hi).elim (h1 i) (h2 i)
def je8 {c m}: ∀ {ps cs b},ja0 T c cs ps=some b->(∀i∈za1 cs,i<m)->(∀i∈za1 (ps.map Prod.snd),i<m)-> ∀i∈za1 b,i<m
 | [],cs,b,h,e,_=>by simp only [ja0,X0] at h;subst h;exact e
 |(j,a)::r,cs,b,h,e,f=>by
  rw [U0,za1] at f;unfold ja0 at h;split at h
  ·split at h
   ·rename_i d;simp only [X3] at d;exact je8 h (vi9 e (by rw [yh8 d.1];exact fun i g=>f i (X4.2 (.inl g)))) fun i g=>f i (X4.2 (.inr g))
   ·cases h
  ·cases h
def jq4 {l:List (Nat×Operand)} (hs:Sim T w0 S0 ⟨F,H⟩ F' w S φ): ∀ {aS:List (Nat×AV T.U)},zy5 T F l=some aS-> ∀i∈za1 (aS.map Prod.snd),i<H.length:=by
 induction l with
 |nil=>intro aS h;simp only [zy5,X0] at h;subst h;intro i hi;cases hi
 |cons x r ih=>
  intro aS h;obtain ⟨j,x⟩:=x;unfold zy5 at h;split at h
  ·rename_i a l ha hl;simp only [X0] at h;subst h;intro i hi;rw [U0,za1] at hi;rcases X4.1 hi with hi|hi
   ·exact (zd4 hs ha).1 i hi
   ·exact ih hl i hi
  ·cases h
def vs6 {t lit x y a neg} (h:eqA T P t lit x y neg=some a):a.ids= []:=by
 unfold eqA at h;split at h
 ·simp only [X0] at h;subst h;rfl
 split at h
 ·simp only [X0] at h;subst h;rfl
 split at h
 ·split at h
  ·simp only [X0] at h;subst h;rfl
  ·cases h
 ·simp only at h;split at h
  ·split at h
   ·simp only [X0] at h;subst h;rfl
   ·cases h
  ·cases h
 ·cases h
def wi4 {u x a} (h:unA T u x=some a):a.ids= []:=by
 unfold unA at h;split at h
 ·unfold unI at h;split at h
  ·simp only [X0] at h;subst h;rfl
  ·simp only [X0] at h;subst h;rfl
  ·cases h
 ·split at h
  ·simp only [X0] at h;subst h;rfl
  ·cases h
 ·cases h
def kr1 {b t lit x y a} (h:gv7 T P b t lit x y=some a):a.ids= []:=by
 unfold gv7 at h;split at h
 ·split at h
  ·cases b<;>simp only [wj0,X0,reduceCtorEq] at h<;>subst h<;>rfl
  ·cases h
 ·simp only [X0] at h;subst h;rfl
 ·simp only [X0] at h;subst h;rfl
 ·exact vs6 h
 ·exact vs6 h
 ·cases h
def ke8 {p a} (c:Sim T w0 S0 ⟨F,H⟩ F' w S φ) (h:jq9 T P p F=some a): ∀i∈a.ids,i<H.length:=by
 unfold jq9 at h;split at h
 ·exact (zd4 c h).1
 ·exact (zd4 c h).1
 ·split at h
  ·rw [kr1 h];intro i b;cases b
  ·cases h
 ·split at h
  ·rw [wi4 h];intro i b;cases b
  ·cases h
 ·split at h
  ·simp only [X0] at h;subst h;intro i b;cases b
  ·cases h
 ·split at h
  ·rename_i vs e;have:=(zd4 c e).1;intro i b;exact this i (by rw [AV.ids];exact zi2 (X6 h) i b)
  ·cases h
 ·split at h
  ·rename_i x e;have:=(zd4 c e).1;unfold qo7 at h;split at h
   ·split at h
    ·intro i b;exact this i (by rw [AV.ids];exact jt9 h i b)
    ·cases h
   ·cases h
  ·cases h
 ·split at h
  ·rename_i x d e t;have:=(zd4 c e).1;split at h
   ·cases h
   ·simp only [X0] at h;subst h;intro i b;exact this i (by rw [AV.ids] at b;exact b)
  ·cases h
 ·split at h
  ·rename_i x y e q;simp only [X0] at h;subst h;intro i b;rw [AV.ids] at b;rcases X4.1 b with b|b
   ·exact jt5 c e i b
   ·exact jt5 c q i b
  ·cases h
 ·split at h
  ·rename_i u z l r g s;split at h
   ·rename_i cs j;simp only [X0] at h;subst h;unfold qt4 at g;split at g
    ·simp only [X0] at g;subst g;intro i b;rw [AV.ids] at b;exact je8 j (by rw [yp9];intro i b;cases b) (jq4 c s) i b
    ·cases g
   ·cases h
  ·cases h
 ·split at h
  ·rename_i x v f m A e B;have:=(zd4 c e).1;split at h
   ·cases h
   ·unfold vh7 at h;split at h<;>simp only [X0,reduceCtorEq] at h<;>subst h<;>exact this
  ·cases h
 ·cases h
def kw3 {e a} (d:Sim T w0 S0 ⟨F,H⟩ F' w S φ) (h:jq9 T P e F=some a) (c:(wl7 e||zj5 a)=true):okA H a:=by
 rcases J2 _ _▸c with c|c
 ·cases e<;>first|cases c|skip
  ·exact zd4 d h
  ·exact zd4 d h
  ·unfold jq9 at h;simp only at h;split at h
   ·rename_i x i f m j g l;have b:=zd4 d g;split at h
    ·cases h
    ·unfold vh7 at h;split at h<;>simp only [X0,reduceCtorEq] at h<;>subst h
     ·exact ⟨b.1,trivial⟩
     ·exact b
     ·exact ⟨b.1,trivial⟩
     ·exact ⟨b.1,trivial⟩
   ·cases h
 ·exact ze6 c (ke8 d h)
def VR.int (a:IntKind) (x:Int):VR T w S φ (cI T a x) (.int a x):=by rw [VR];exact CR.int _ _
def VR.bool (x):VR T w S φ (cB T x) (.bool x):=by rw [VR];exact CR.bool _
def qc0 {a v} (c:dec ops k n F'=some o) (d:(execOp (evD F') o).run P w=.ok (.value v) w) (h:Sim T w0 S0 ⟨F,H⟩ F' w S φ) (e:VR T w S φ a v) (b:okA H a) (K:zt3 P ops Q (k+1) n ds w0 S0 (⟨zc2 T F o.dst a,H⟩:St T)):WR P ops Q k n ds F' w:=
 .val c d (K _ _ ⟨S,φ,h.slot e b⟩)
def ke6 {c x y z} (h:gr4 T c x y=some z) {X Y} (d:VR T w S φ x X) (e:VR T w S φ y Y):VR T w S φ z (if c=true then X else Y)/\z.ids= []/\zj5 z=true:=by
 unfold gr4 at h;split at h
 ·split at h
  ·rename_i f;have:=zb6 f;subst this;simp only [X0] at h;subst h;have a:=zb0 d;have b:=zb0 e;subst a;subst b;refine ⟨?_,rfl,rfl⟩;cases c<;>exact .int _ _
  ·cases h
 ·simp only [X0] at h;subst h;have a:=zh2 d;have b:=zh2 e;subst a;subst b;refine ⟨?_,rfl,rfl⟩;cases c<;>exact .bool _
 ·cases h
def uj1 {Z:Prop} {R:Type} {r:R} {c x y:Operand} (N:dec ops k n F'=some o) (g:o.op=.pick c x y) {t:Bool} {a b:AV T.U} (u:aev T F c=some (cB T t)) (l:aev T F x=some a) (m:aev T F y=some b) {p:AV T.U->Option R} (d:jj7 t a b p=some r)
  (h:Sim T w0 S0 ⟨F,H⟩ F' w S φ) (K: ∀a v,p a=some r->QR P F' o S φ rd w v->VR T w S φ a v->okA H a->Z):Z:=by
 obtain ⟨O,A,B⟩:=u0 h.fr u;have e:=zh2 B;subst e;obtain ⟨X,D,q⟩:=u0 h.fr l;obtain ⟨Y,E,s⟩:=u0 h.fr m;have f:QR P F' o S φ rd w (if t=true then X else Y):=fun V _ _=>by simp [execOp,g,u9 A,u9 D,u9 E,asBool]
 unfold jj7 at d;split at d
 ·rename_i z G;obtain ⟨I,J,L⟩:=ke6 G q s;exact K _ _ d f I (ze6 L (by rw [J];intro i M;cases M))
 ·split at d
  ·rename_i j;simp only [X3] at j;cases t with
   |true=>rw [if_pos rfl] at d f;exact K _ _ d f q (zd4 h l)
   |false=>rw [if_neg (by simp)] at d f;exact K _ _ d f s (zd4 h m)
  ·cases d
def yc7 {R:Type} {c:Prop} {_:Decidable c} {x:Option R} {r:R} (h:(if c then none else x)=some r): ¬c/\x=some r:=by
 grind
def zal4 {Z:Prop} {R:Type} {r:R} {b:BinOp} {t ty:TypeId} {x y:Operand} (J:dec ops k n F'=some o) (f:o.op=.binOp b t x y ty) {a c:AV T.U} (G:aev T F x=some a) (I:aev T F y=some c) {D:AV T.U->Option R} (d:divA T b a c D=some r)
  (h:Sim T w0 S0 ⟨F,H⟩ F' w S φ) (K: ∀a v,D a=some r->QR P F' o S φ rd w v->VR T w S φ a v->okA H a->Z):Z:=by
 obtain ⟨X,p,q⟩:=u0 h.fr G;obtain ⟨Y,s,u⟩:=u0 h.fr I;have m: ∀(E:IntKind) (z:Int),okA H (cI T E z):=fun E z=>⟨fun i m=>(by cases m),trivial⟩;unfold divA at d;split at d
 ·split at d
  ·rename_i A;have:=zb6 A;subst this;have g:=zb0 q;have j:=zb0 u;subst g;subst j;unfold divA.divI at d;obtain ⟨e,l⟩:=yc7 d;exact K _ _ l (fun B _ _=>by simp [execOp,f,u9 p,u9 s,eqGuard,binOp,Op.intDiv,e]) (.int _ _) (m _ _)
  ·cases d
 ·split at d
  ·rename_i A;have:=zb6 A;subst this;have g:=zb0 q;have j:=zb0 u;subst g;subst j;unfold divA.remI at d;obtain ⟨e,l⟩:=yc7 d;exact K _ _ l (fun B _ _=>by simp [execOp,f,u9 p,u9 s,eqGuard,binOp,Op.intDiv,e]) (.int _ _) (m _ _)
  ·cases d
 ·have g:=zb0 q;have j:=zb0 u;subst g;subst j;unfold divA.shlI at d;obtain ⟨e,l⟩:=yc7 d;exact K _ _ l (fun B _ _=>by simp [execOp,f,u9 p,u9 s,eqGuard,binOp,Op.shift,e,qi7]) (.int _ _) (m _ _)
 ·have g:=zb0 q;have j:=zb0 u;subst g;subst j;unfold divA.shrI at d;obtain ⟨e,l⟩:=yc7 d;exact K _ _ l (fun B _ _=>by simp [execOp,f,u9 p,u9 s,eqGuard,binOp,Op.shift,e,ze0]) (.int _ _) (m _ _)
 ·cases d
def qu5 {Z:Prop} {t:TypeId} {x:Operand} (B:dec ops k n F'=some o) (p:o.op=.load t x) {i m sz z j c:Nat} {e:TypeId} {cs r:List (AV T.U)} {ty:Ty} {xs:List (den T.U ty)} {a:AV T.U} (D:aev T F x=some (.aptr i m sz z j c)) (E:H[i]?=some (.blk e cs)) (f:jd3 T cs m=some (.arr ty z xs::r)) (q:szT T ty=sz) (G:zu0 T P t (zw1 T ty (xs.getD j (ya7 T ty))) c=some a)
  (h:Sim T w0 S0 ⟨F,H⟩ F' w S φ) (s:i∈rd) (K: ∀v,QR P F' o S φ rd w v->VR T w S φ a v->okA H a->Z):Z:=by
 obtain ⟨v,I,g,A,V,rfl⟩:=u0 h.fr D;obtain ⟨W,X,l,u,J,Y,a4,L,M⟩:=gg4 (h.ents i _ E) f;rw [A] at u;simp only [X0,Addr.mk.injEq,and_true] at u;subst u;subst q;have d:=M.cut (j*szT T ty) (szT T ty);rw [yk4 (za9 T ty) (zn8 (ya7 T ty) (show j<xs.length by omega))] at d;have N:Rg w (some ⟨g,m+j*szT T ty,none⟩) ((l.drop (j*szT T ty)).take (szT T ty)):=Rg.sub L _ _ _ fun _=>rfl;exact ql2 B p (b:=g) (o0:=m+j*szT T ty) (c:=c) (by rw [I,U2]) (fun O _ y=>Rg.same N (show O.heap[g]?=w.heap[g]? from y i s _ A J.lt)) (CellsR.vrl d) (yu5 _ _) (yu4 _ _) G K
def gj2 {Z:Prop} {t:TypeId} {x:Operand} (m:dec ops k n F'=some o) (f:o.op=.load t x) {p a:AV T.U} (q:aev T F x=some p) (d:loadA T P t H p=some a) (h:Sim T w0 S0 ⟨F,H⟩ F' w S φ) (g: ∀i∈p.ids,i∈rd) (K: ∀v,QR P F' o S φ rd w v->VR T w S φ a v->okA H a->Z):Z:=by
 unfold loadA at d;split at d
 ·split at d
  ·rename_i e cs j;split at d
   ·cases d
   ·rename_i s;exact vh6 m f q j (fun i sz A c e=>s i sz A c (e▸d)) d h (g _ (by simp [AV.ids])) K
  ·cases d
 ·split at d
  ·rename_i e cs j;split at d
   ·rename_i b r l;split at d
    ·rename_i ty D xs B;have:=zu3 B;subst this;split at d
     ·rename_i u;rw [X3] at u;have y:=X1 u.1;have z:=X1 u.2;subst y;exact qu5 m f q j l z d h (g _ (by simp [AV.ids])) K
     ·cases d
    ·cases d
   ·cases d
  ·cases d
 ·split at d
  ·rename_i e ty xs j;exact qu6 m f q j d h (g _ (by simp [AV.ids])) K
  ·cases d
 ·exact qu7 m f q d h K
 ·cases d
def gf5 {t x y} (r:dec ops k n F'=some o) (f:o.op=.store t x y) (d:o.dst=none) {p a H1} (s:aev T F x=some p) (u:aev T F y=some a) (b:jm5 T P t H p a=some H1) (h:Sim T w0 S0 ⟨F,H⟩ F' w S φ) (K:zt3 P ops Q (k+1) n ds w0 S0 (⟨F,H1⟩:St T)):WR P ops Q k n ds F' w:=by
 unfold jm5 at b;split at b
 ·split at b
  ·rename_i e cs j;split at b
   ·rename_i z m;simp only [X0] at b;subst b;obtain ⟨X,A,g,D,rfl⟩:=u0 h.fr s;exact yx1 r f d A D u j (fun vs v E q=>vl4 m E q) h K
   ·cases b
  ·cases b
 ·rename_i i1 W G n1 Y Z;split at b
  ·rename_i e cs j;split at b
   ·rename_i l m I;split at b
    ·rename_i z ht;simp only [X0] at b;subst b;obtain ⟨X,A,g,D,J,rfl⟩:=u0 h.fr s;obtain ⟨ii,hii,V,f2,f3,f4⟩:=ye4 m;refine yx1 r f d A D u j (fun vs v E q=>?_) h K;have L:=zt5 I (zk9 V q);have M:=(zk9 V q).len T;obtain ⟨g1,g2,g3⟩:=BR.turn (us:=v.cells.toList) (ex:= []) ht E fun l1 l2 B N hB=>qv0 N hB J L;refine ⟨g1,fun i j=>(g3 i j).imp id (fun h=>absurd h (by simp)),fun c0 hcs=>?_⟩;exact qt1 m q (c:=c0) (p:=W+(Y*G+Z)) (by rw [M];omega)
    ·cases b
   ·cases b
  ·cases b
 ·split at b
  ·rename_i e ty xs j;split at b
   ·rename_i m I;split at b
    ·rename_i y' O;simp only [X0] at b;subst b;exact qb7 r f d s u j m I O h K
    ·cases b
   ·cases b
  ·cases b
 ·cases b
end
end Go.X
