import Derived.Test.YthhhfnfgmijggaaGreatA3
set_option linter.defProp false
namespace Go.X
open Go.RowKit Go.V
section
variable {T:Tab} {P:Program} {w w':World} {S S':List Nat} {φ φ':Nat->RA} {w0:World} {S0:Ow} {F:AF T} {H:List (Ent T.U)} {F':PF}
variable {rd:List Nat} {ops:Array Oper} {Q:Exit->Act->World->Prop} {k n:Nat} {ds:List Deferred} {o:Oper}
def zj6 {t n sz} (h:zg8 P t=some (n,sz)): ∃e a,P.underlying t=some (.array n e)/\P.info? e=some a/\a.size=sz/\ ∀w,(sizeOf e).run P w=.ok sz w:=by
 unfold zg8 at h;split at h
 ·rename_i m e c;split at h
  ·rename_i a b;simp only [X0,X7] at h;obtain ⟨rfl,rfl⟩:=h;exact ⟨e,a,c,b,rfl,fun w=>by simp [sizeOf,typeInfo,b]⟩
  ·cases h
 ·cases h
def yo3 (b o1 d):(⟨b,o1,none⟩:Addr).add d=⟨b,o1+d,none⟩:=by unfold Addr.add;split<;>simp_all
def QR.indexArr {t x y b d f sz h i} (u:dec ops k n F'=some o) (a:o.op=.indexAddr t x y) (c:zg8 P t=some (f,sz)) (j:ev F' x=some (.pointer (some ⟨b,d,none⟩))) (l:ev F' y=some (.int h i)) (g:0<=i/\i<(f:Int)):
  QR P F' o S φ rd w (.pointer (some ⟨b,d+i.toNat*sz,none⟩)):=by
 obtain ⟨e,m,p,_,_,q⟩:=zj6 c;intro v _ _;have r:=g.1;have s:=g.2;simp [execOp,a,v6 j,v6 l,Instr.indexAt,asIntOf,run_underlying p,Instr.sureAddr,r,s,q,yo3]
def kw4 {Z:Prop} {R:Type} {r:R} {t:TypeId} {x y:Operand} {V sz:Nat} (G:dec ops k n F'=some o) (l:o.op=.indexAddr t x y) (p:zg8 P t=some (V,sz)) {s:AV T.U} {kk:IntKind} {j:Int} (hx:aev T F x=some s) (hy:aev T F y=some (cI T kk j)) {K0:AV T.U->Option R} (d:yh3 T V sz H s j K0=some r)
  (h:Sim T w0 S0 ⟨F,H⟩ F' w S φ) (K: ∀a v,K0 a=some r->QR P F' o S φ rd w v->VR T w S φ a v->okA H a->Z):Z:=by
 obtain ⟨X,I,M⟩:=v4 h.fr hx;obtain ⟨Y,J,h4⟩:=v4 h.fr hy;have e:=w8 h4;subst e;have q:=zc9 h hx;unfold yh3 at d;split at d
 ·rename_i i o1;obtain ⟨g,L,rfl⟩:=M;split at d
  ·rename_i e cs hi;split at d
   ·rename_i b r hl;split at d
    ·rename_i ty m xs hb;have:=zt7 hb;subst this;split at d
     ·rename_i f;rw [X3] at f;have u:=X1 f.1;have z:=X1 f.2;obtain ⟨A,B⟩:=g9 d;exact K _ _ B (QR.indexArr G l p I J A) ⟨g,L,by omega,by simp⟩ ⟨q.1,trivial⟩
     ·cases d
    ·obtain ⟨A,B⟩:=g9 d;exact K _ _ B (QR.indexArr G l p I J A) ⟨g,L,rfl⟩ ⟨q.1,trivial⟩
   ·cases d
  ·cases d
 ·rename_i e xs k1 c;split at d
  ·rename_i f;rw [X3] at f;have u:=X1 f.1;have z:=X1 f.2;obtain ⟨A,C⟩:=g9 d;obtain ⟨D,B⟩:=g9 C;obtain ⟨ad,cap,hc,hk,rfl⟩:=M;subst u;subst z;exact K _ _ B (QR.indexArr G l p I J A) ⟨ad,cap,hc,D,by simp [J6,V0]⟩ ⟨q.1,trivial⟩
  ·cases d
 ·rename_i i s k1 c;split at d
  ·rename_i e ty xs hi;split at d
   ·rename_i f;rw [X3,X3] at f;have u:=X1 f.1;have z:=X1 f.2.1;have N:=X1 f.2.2;obtain ⟨A,C⟩:=g9 d;obtain ⟨D,B⟩:=g9 C;obtain ⟨g,L,rfl⟩:=M;subst u;subst z;subst N;refine K _ _ B (QR.indexArr G l p I J A) ⟨g,L,by simp [J6,V0]⟩ ⟨q.1,?_⟩;intro e1 t1 ys E;have O:H[i]?=some (.row e ty xs):=hi;rw [O] at E;simp only [X0,Ent.row.injEq] at E;obtain ⟨rfl,rfl,hh⟩:=E;have:=eq_of_heq hh;subst this;exact ⟨D,rfl⟩
   ·cases d
  ·cases d
 ·cases d
def we4 (P:Program) (t:TypeId):Option (Nat×Nat):=match P.underlying t with|some (.pointer a)=>zg8 P a|_=>zg8 P t
def ve6 {c:Nat} {l h:Option Int} {kl kh:IntKind} (i:0<=l.getD 0/\l.getD 0<=h.getD c/\h.getD c<=(c:Int)) (w:World):(Instr.sliceBounds false c c (l.map (Value.int kl)) (h.map (Value.int kh)) none).run P w=.ok ((l.getD 0).toNat,(h.getD c).toNat,c) w:=by
 obtain ⟨d,f,g⟩:=i;cases l<;>cases h<;>simp only [Option.getD_none,V3] at d f g⊢
 ·simp [Instr.sliceBounds]
 ·rename_i b;simp [Instr.sliceBounds,Instr.sliceBound,asIntOf,f,g]
 ·rename_i a;simp [Instr.sliceBounds,Instr.sliceBound,asIntOf,d,f]
 ·rename_i a b;have e:a<=((b.toNat:Nat):Int):=by omega
  have j:0<=b:=by omega
  have m: ¬max b 0<a:=by omega
  simp [Instr.sliceBounds,Instr.sliceBound,asIntOf,d,j,g,e,m]
def QR.sliceArr {t x} {q r:Option Operand} {b d c sz} {l m:Option Int} {kl kh} (B:dec ops k n F'=some o) (h:o.op=.slice t x q r none) (f:we4 P t=some (c,sz)) (s:ev F' x=some (.pointer (some ⟨b,d,none⟩)))
  (u:q.map (evD F')=l.map (Value.int kl)) (v:r.map (evD F')=m.map (Value.int kh)) (z:0<=l.getD 0/\l.getD 0<=m.getD c/\m.getD c<=(c:Int)):
  QR P F' o S φ rd w (.slice (some (if c=(l.getD 0).toNat then ⟨b,d,none⟩ else ⟨b,d+(l.getD 0).toNat*sz,none⟩)) ((m.getD c).toNat-(l.getD 0).toNat) (c-(l.getD 0).toNat)):=by
 intro i _ _;have y:=ve6 (P:=P) (kl:=kl) (kh:=kh) z i;unfold we4 at f;split at f
 ·rename_i a A;obtain ⟨e,j,g,_,_,p⟩:=zj6 f;have:(Instr.sliceAt t (.pointer (some ⟨b,d,none⟩)) (l.map (Value.int kl)) (m.map (Value.int kh)) none).run P i=.ok (.slice (some (if c=(l.getD 0).toNat then ⟨b,d,none⟩ else ⟨b,d+(l.getD 0).toNat*sz,none⟩)) ((m.getD c).toNat-(l.getD 0).toNat) (c-(l.getD 0).toNat)) i:=by
   simp [Instr.sliceAt,Instr.slice,run_underlying A,run_underlying g,asAddr,y,p,yo3]
  simp [execOp,h,v6 s,u,v,this]
 ·obtain ⟨e,j,g,_,_,p⟩:=zj6 f;have:(Instr.sliceAt t (.pointer (some ⟨b,d,none⟩)) (l.map (Value.int kl)) (m.map (Value.int kh)) none).run P i=.ok (.slice (some (if c=(l.getD 0).toNat then ⟨b,d,none⟩ else ⟨b,d+(l.getD 0).toNat*sz,none⟩)) ((m.getD c).toNat-(l.getD 0).toNat) (c-(l.getD 0).toNat)) i:=by
   simp [Instr.sliceAt,run_underlying g,Instr.sureAddr,y,p,yo3]
  simp [execOp,h,v6 s,u,v,this]
def gf1 {Z:Prop} {R:Type} {r:R} {t:TypeId} {x:Operand} {Y q:Option Operand} {f sz:Nat} (hd:dec ops k n F'=some o) (y:o.op=.slice t x Y q none) (z:we4 P t=some (f,sz)) {s:AV T.U} {l m:Option Int} (hx:aev T F x=some s) (D:qj4 F Y=some l) (E:qj4 F q=some m)
  {K0:AV T.U->Option R} (d:yt7 T f sz H s l m K0=some r) (h:Sim T w0 S0 ⟨F,H⟩ F' w S φ) (K: ∀a v,K0 a=some r->QR P F' o S φ rd w v->VR T w S φ a v->okA H a->Z):Z:=by
 obtain ⟨X,h1,h2⟩:=v4 h.fr hx;obtain ⟨kl,e1⟩:=yx9 h.fr D;obtain ⟨kh,e2⟩:=yx9 h.fr E;have G:=zc9 h hx;unfold yt7 at d;simp only at d;split at d
 ·rename_i i o1;obtain ⟨g,hg,rfl⟩:=h2;split at d
  ·rename_i e cs q;split at d
   ·rename_i b r hl;split at d
    ·rename_i ty mm xs hb;have:=zt7 hb;subst this;split at d
     ·rename_i p;rw [X3] at p;have A:=X1 p.1;have B:=X1 p.2;obtain ⟨I,J⟩:=g9 d;refine K (.asl i o1 sz f (l.getD 0).toNat ((m.getD f).toNat-(l.getD 0).toNat)) _ J (QR.sliceArr hd y z h1 e1 e2 I) ⟨g,_,hg,rfl,by omega,?_⟩ ⟨G.1,trivial⟩;split
      ·left;omega
      ·right;rfl
     ·cases d
    ·cases d
   ·cases d
  ·cases d
 ·rename_i e xs k1 c;split at d
  ·rename_i p;rw [X3,X3] at p;have A:=X1 p.1;have B:=X1 p.2.1;have L:=X1 p.2.2;subst A;subst B;subst L;obtain ⟨hn,M⟩:=g9 d;obtain ⟨I,J⟩:=g9 M;obtain ⟨ad,cap,N,hk,rfl⟩:=h2;refine K (.cell ⟨.list e,_⟩) _ J (QR.sliceArr hd y z h1 e1 e2 I) ?_ ⟨fun i q=>(by cases q),trivial⟩;show CR T w S (.list e) (List.take ((m.getD f).toNat-(l.getD 0).toNat) (List.drop (l.getD 0).toNat xs)) _;have j:ad=some ⟨bk ad,of ad,none⟩:=by
    generalize hv:Value.slice ad xs.length cap=v at N;cases N with
    |list _ _ ad' cap' u hcap hnil j O hrel=>
     simp only [Value.slice.injEq,true_and] at hv;obtain ⟨rfl,rfl⟩:=hv;exact (j (by intro e;subst e;simp at hk)).1
   have h3:=CR.sub N (i:=0) (m:=f) (by omega);rw [vm3,N3] at h3;have V:(xs.take f).length=f:=by rw [Y6];omega
   have h4:CR T w S (.list e) (xs.take f) (.slice ad (xs.take f).length f):=CR.recap (by rw [V];exact h3) (by omega) (by intro e;rw [e] at j;cases j);have h5:=CR.sub h4 (i:=(l.getD 0).toNat) (m:=(m.getD f).toNat-(l.getD 0).toNat) (by omega);rw [List.drop_take,List.take_take,K6 (by omega)] at h5;have C:zm2 ad f (l.getD 0).toNat (szT T e)=some (if f=(l.getD 0).toNat then ⟨bk ad,of ad+(0*szT T e+0),none⟩ else ⟨bk ad,of ad+(0*szT T e+0)+(l.getD 0).toNat*szT T e,none⟩):=by
    unfold zm2;generalize bk ad=b at *;generalize of ad=o1 at *;subst j;split
    ·simp
    ·simp [yo3]
   rwa [C] at h5
  ·cases d
 ·cases d
def we3 {Z:Prop} {R:Type} {r:R} {t:TypeId} {x:Operand} {p sz:Nat} (q:o.op=.sliceToArrayPointer t x) (y:zg8 P t=some (p,sz)) {s:AV T.U} (N:aev T F x=some s)
  {O:AV T.U->Option R} (b:yr3 T p sz H s O=some r) (h:Sim T w0 S0 ⟨F,H⟩ F' w S φ) (K: ∀a v,O a=some r->QR P F' o S φ rd w v->VR T w S φ a v->okA H a->Z):Z:=by
 obtain ⟨X,h1,j⟩:=v4 h.fr N;have z:=zc9 h N;obtain ⟨e0,inf,hu,_,_,_⟩:=zj6 y;have run: ∀(ad:Option Addr) (m cap:Nat),X=.slice ad m cap->p<=m->QR P F' o S φ rd w (.pointer ad):=by
  intro ad m cap e d w1 _ _;subst e;simp [execOp,q,v6 h1,Instr.arrayAt,run_underlying hu,Nat.not_lt.2 d]
 unfold yr3 at b;split at b
 ·rename_i e xs;split at b
  ·rename_i d;rw [X3] at d;have A:=Y1 d.2;obtain ⟨C,D⟩:=g9 b;have j:CR T w S (.list e) xs X:=j;have E:=j;cases E with
   |list _ _ ad cap u V Y G I hrel=>
    have hq:=run ad _ _ rfl C;have ha:=(G (by intro e;subst e;simp at C;omega)).1;refine K _ _ D hq ⟨ad,cap,j,by omega,?_⟩ ⟨fun i l=>(by cases l),trivial⟩;have J:ad=some ⟨bk ad,of ad+(0*szT T e+0),none⟩:=by rw [M5];exact ha
    exact congrArg Value.pointer J
  ·cases b
 ·rename_i i;split at b
  ·rename_i e ty xs l;split at b
   ·rename_i d;rw [X3] at d;have L:=X1 d.1;have A:=Y1 d.2;subst L;obtain ⟨C,D⟩:=g9 b;rw [VR] at j;subst j;obtain ⟨g,c,B,vals,a1,a2,_⟩:=jm0 h l (by omega);refine K _ _ D (run _ _ _ rfl (by omega)) ⟨g,a1,by rw [a1];simp⟩ ⟨z.1,?_⟩;intro e1 t1 ys f;have M:H[i]?=some (.row e ty xs):=l;rw [M] at f;simp only [X0,Ent.row.injEq] at f;obtain ⟨rfl,rfl,hh⟩:=f;have:=eq_of_heq hh;subst this;exact ⟨by omega,rfl⟩
   ·cases b
  ·cases b
 ·cases b
def gf4 {t e a} (b:P.underlying t=some (.array a e)):zp4 P t=false/\(P.underlying t).isSome=true:=by
 unfold zp4;rw [b];exact ⟨rfl,rfl⟩
def qw8 {α e:Type} {f:α->List e} {sz:Nat} (c: ∀y,(f y).length=sz) (l:List α) (a b:Nat):((l.flatMap f).drop (a*sz)).take (b*sz)=((l.drop a).take b).flatMap f:=by
 have g:(l.flatMap f).drop (a*sz)=(l.drop a).flatMap f:=by
  induction l generalizing a with
  |nil=>simp
  |cons x r d=>
   cases a with
   |zero=>simp
   |succ a=>rw [J2,List.drop_succ_cons,J0,J8,List.drop_append,c,R3 (by rw [c];omega),N2,N1,d]
 rw [g];generalize l.drop a=l;induction l generalizing b with
 |nil=>simp
 |cons x r d=>
  cases b with
  |zero=>simp
  |succ b=>rw [J2,List.take_succ_cons,J2,J0,J8,List.take_append,c,Q5 (by rw [c];omega),N2,d]
def wh6 {Z:Prop} {R:Type} {r:R} {t:TypeId} {x:Operand} {m sz:Nat} (G:dec ops k n F'=some o) (C:o.op=.load t x) (L:zg8 P t=some (m,sz)) {ok:Bool} (hk:ok=true->qr7 P t=some (m*sz)) {s:AV T.U} (hx:aev T F x=some s)
  {K0:AV T.U->Option R} {D:Option R} (b:yp9 T m sz ok H s K0 D=some r) (h:Sim T w0 S0 ⟨F,H⟩ F' w S φ) (M: ∀i∈s.ids,i∈rd) (K: ∀a v,K0 a=some r->QR P F' o S φ rd w v->VR T w S φ a v->okA H a->Z) (I:D=some r->Z):Z:=by
 obtain ⟨X,h1,h2⟩:=v4 h.fr hx;obtain ⟨e0,inf,hu,_,_,_⟩:=zj6 L;obtain ⟨u1,u2⟩:=gf4 hu;unfold yp9 at b;split at b
 ·rename_i e xs E c;split at b
  ·rename_i l;rw [X3,X3] at l;have q:=X1 l.2.1;have y:=X1 l.2.2;subst q;subst y;obtain ⟨N,O⟩:=g9 b;obtain ⟨ad,cap,V,Y,rfl⟩:=h2;have z:bk ad∉S:=by
    generalize hv:Value.slice ad xs.length cap=v at V;cases V with
    |list _ _ ad' cap' u hcap hnil z hcell hrel=>
     simp only [Value.slice.injEq,true_and] at hv;obtain ⟨rfl,rfl⟩:=hv;exact (z (by intro e;subst e;simp at Y)).2.2
   obtain ⟨_,_,p,J,hcr⟩:=ju1 V;have d:=hcr.cut (E*szT T e) (m*szT T e);rw [qw8 (w6 T e)] at d;have f:((xs.drop E).take m).length=m:=by rw [Y6,Q8];omega
   have j:=d.1;rw [flatMap_lenT (w6 T e),f] at j;exact K _ _ O (QR.loadA G (fun w1 hc1 _=>J.chg hc1 (.inl z)) (by rw [zz3 G C,v6 h1,J5]) u1 u2 (hk l.1) _ j.symm rfl) ⟨_,rfl,f,d⟩ ⟨fun i A=>(by cases A),trivial⟩
  ·exact I b
 ·rename_i i s E c;split at b
  ·rename_i e ty xs A;split at b
   ·rename_i l;rw [X3,X3,X3] at l;have q:=X1 l.2.1;have y:=X1 l.2.2.1;have hm3:=X1 l.2.2.2;subst q;subst y;subst hm3;obtain ⟨N,O⟩:=g9 b;obtain ⟨hj,_⟩:=(zc9 h hx).2 e ty xs A;obtain ⟨g,hg,rfl⟩:=h2;obtain ⟨g',carr,B,p,a1,a2,a3,a4,a5,a6,a7,a8,_⟩:=jm0 h A (by omega);rw [hg] at a1;simp only [X0,Addr.mk.injEq,and_true] at a1;subst a1;have J:Rg w (φ i).ad p:=a3.rg;rw [hg] at J;have d:=a7.cut (E*szT T ty) (m*szT T ty);rw [qw8 (w6 T ty)] at d;have f:((xs.drop E).take m).length=m:=by rw [Y6,Q8];omega
    have j:=d.1;rw [flatMap_lenT (w6 T ty),f] at j;exact K _ _ O (QR.loadA (ad:=some ⟨g,0,none⟩) G (fun w1 _ hsm=>Rg.same J (show w1.heap[g]?=w.heap[g]? from hsm i (M i (by simp [AV.ids])) _ hg a4.lt)) (by rw [zz3 G C,v6 h1];rfl) u1 u2 (hk l.1) _ j.symm rfl) ⟨_,rfl,f,d⟩ ⟨fun i A=>(by cases A),trivial⟩
   ·exact I b
  ·exact I b
 ·exact I b
def ys5 {R:Type} (T:Tab) (n sz:Nat) (a:AV T.U) (j:Int) (K:AV T.U->Option R):Option R:=
 match a with
 | .arr ty m xs=>match Nat.beq m n&&(Nat.beq (szT T ty) sz&&(ty.one&&Nat.beq sz 1)) with
  |true=>if 0<=j/\j<((n:Nat):Int) then K (.cell ⟨ty,xs.getD j.toNat (yb5 T ty)⟩) else none
  |false=>none
 | .agg (.cell c::cs)=>match c.t.one&&Nat.beq sz 1,jr4 T c.t n (.cell c::cs) with
  |true,some xs=>if 0<=j/\j<((n:Nat):Int) then K (.cell ⟨c.t,xs.getD j.toNat (yb5 T c.t)⟩) else none
  |_,_=>none
 |_=>none
def ky5 {e a d} (b:P.info? e=some a) (h:a.size=1) (c:P.underlying e=some d) (f:yf3 d=false) {cs j v} (g:cs[j]?=some v) (w):(part e cs j).run P w=.ok v w:=by
 refine yq3 ?_ w;unfold ja0;simp only [b,c,f];exact g
def ky1 {t} (h:t.one=true):szT T t=1:=by cases t<;>first|rfl|cases h
def kw5 {Z:Prop} {R:Type} {r:R} {t e:TypeId} {d:TypeDesc} {x y:Operand} {A sz:Nat} (L:o.op=.index t x y) (M:zg8 P t=some (A,sz)) (B:P.underlying t=some (.array A e)) (hu:P.underlying e=some d) (N:yf3 d=false) {s:AV T.U} {kk:IntKind} {j:Int} (hx:aev T F x=some s) (hy:aev T F y=some (cI T kk j))
  {O:AV T.U->Option R} (b:ys5 T A sz s j O=some r) (h:Sim T w0 S0 ⟨F,H⟩ F' w S φ) (K: ∀a v,O a=some r->QR P F' o S φ rd w v->VR T w S φ a v->okA H a->Z):Z:=by
 obtain ⟨X,h1,h2⟩:=v4 h.fr hx;obtain ⟨Y,h3,h4⟩:=v4 h.fr hy;have e1:=w8 h4;subst e1;obtain ⟨e0,inf,l,C,V,J⟩:=zj6 M;rw [B] at l;simp only [X0,TypeDesc.array.injEq,true_and] at l;subst l;have go: ∀(ty:Ty) (xs:List (den T.U ty)) (us:Array Value),ty.one=true->sz=1->X=.agg us->CellsR T w S (xs.flatMap (zd1 T ty)) us.toList->xs.length=A->(0<=j/\j<(A:Int))->O (.cell ⟨ty,xs.getD j.toNat (yb5 T ty)⟩)=some r->Z:=by
  intro ty xs us f D hX q hl z E;subst hX;have hjl:j.toNat<xs.length:=by omega
  have hg:=zo2 (yb5 T ty) hjl;have G:(xs.flatMap (zd1 T ty))[j.toNat]?=some ⟨ty,xs.getD j.toNat (yb5 T ty)⟩:=by
   have:=yk7 (w6 T ty) hg;rw [ky1 f,Nat.mul_one,yz1 T f] at this;have h5:=congrArg (·[0]?) this;simpa [Z3,Q7] using h5
  have hul:j.toNat<us.toList.length:=by rw [<-q.1];exact (X2.1 G).1
  obtain ⟨u,I⟩: ∃u,us.toList[j.toNat]?=some u:=⟨_,Y0 hul⟩;have hcr:=q.2 _ _ _ G I;refine K _ u E (fun w1 _ _=>?_) hcr ⟨fun i hi=>(by cases hi),trivial⟩;have hp:=ky5 (P:=P) C (by rw [V,D]) hu N (cs:=us) (j:=j.toNat) (by simpa using I) w1;have b1:=z.1;have b2:=z.2;have J:=J w1;rw [D] at J;simp [execOp,L,v6 h1,v6 h3,Instr.index,asIntOf,run_underlying B,b1,b2,J,hp]
 unfold ys5 at b;split at b
 ·rename_i ty m xs;split at b
  ·rename_i g;rw [X3,X3,X3] at g;have hm1:=X1 g.1;have p:=X1 g.2.2.2;subst hm1;obtain ⟨z,E⟩:=g9 b;obtain ⟨us,rfl,hl,q⟩:=h2;exact go ty xs us g.2.2.1 p rfl q hl z E
  ·cases b
 ·rename_i c cs;split at b
  ·rename_i xs g hr;rw [X3] at g;have p:=X1 g.2;obtain ⟨z,E⟩:=g9 b;obtain ⟨us,rfl,q⟩:=h2;obtain ⟨q1,q2⟩:=yg3 hr q;exact go c.t xs us g.1 p rfl q2 q1 z E
  ·cases b
 ·cases b
def kj8 {a b} (h:vr4 T a b=true):a=b:=by
 unfold vr4 at h;split at h
 ·rw [X3] at h;obtain ⟨d,c⟩:=h;have d:=zb8 d;subst d;have c:=eq_of_beq (show (_==_)=true from c);exact congrArg (fun z=>AV.cell ⟨.int _,z⟩) c
 ·have c:=eq_of_beq (show (_==_)=true from h);exact congrArg (fun z=>AV.cell ⟨.bool,z⟩) c
 ·cases h
def qh2: ∀ {z r s},jz4 T z r=some s->r=z++s
 | [],r,s,h=>by simp only [jz4,X0] at h;exact h
 |_::_,[],s,h=>by cases h
 |a::z,b::r,s,h=>by
  unfold jz4 at h;split at h
  ·rename_i c;rw [<-kj8 c,qh2 h];rfl
  ·cases h
def jr3 {t x z} (b:z=(zd1 T t x).map .cell): ∀ {m r vs},jy8 T z m r=true->VRL T w S φ r vs->CellsR T w S ((List.replicate m x).flatMap (zd1 T t)) vs
 |0,r,vs,h,a=>by
  have:r= []:=by simpa [jy8] using h
  subst this;cases vs with
  |nil=>exact ⟨rfl,fun j c v h=>by simp at h⟩
  |cons v r=>exact a.elim
 |m+1,r,vs,h,a=>by
  unfold jy8 at h;split at h
  ·rename_i s f;have:=qh2 f;subst this;have d:=a.take T z.length;rw [List.take_left' rfl] at d;have e:=a.drop T z.length;rw [List.drop_left' rfl] at e;rw [List.replicate_succ,J2,<-List.take_append_drop z.length vs];refine CellsR.app ?_ (jr3 b h e);subst b;exact VRL.cells.1 d
  ·cases h
def ka1 {t m as xs vs} (h:gv9 T t m as=some xs) (a:VRL T w S φ as vs):xs.length=m/\CellsR T w S (xs.flatMap (zd1 T t)) vs:=by
 unfold gv9 at h;split at h
 ·rename_i l b;split at h
  ·rename_i x c;split at h
   ·rename_i d;simp only [X0] at h;subst h;exact ⟨Z9,jr3 (by rw [zp6 T c];exact zt2 b) d a⟩
   ·exact yg3 h a
  ·cases h
 ·cases h
def yu7: ∀ {p as cs},yx1 T p as=some cs->(∀i∈v5 cs,i∈v5 as)/\ ∀ {w:World} {S:List Nat} {φ:Nat->RA} {vs:List Value},VRL T w S φ as vs->BR T w S φ cs vs
 | [],[],cs,h=>by
  simp only [yx1,X0] at h;subst h;exact ⟨fun i b=>b,fun c=>⟨c,trivial⟩⟩
 | [],_::_,cs,h=>by cases h
 |none::r,[],cs,h=>by cases h
 |none::r,a::s,cs,h=>by
  unfold yx1 at h;simp only at h;split at h
  ·rename_i g;split at h
   ·rename_i l d;simp only [X0] at h;subst h;obtain ⟨e,f⟩:=yu7 d;refine ⟨fun i b=>?_,fun {w S φ vs} c=>?_⟩
    ·rw [v5] at b⊢;exact X4.2 ((X4.1 b).imp id (e i))
    ·match vs,c with
     |v::vs,c=>
      have:=f c.2;exact ⟨by rw [zi0,zq6 T g];exact ⟨c.1,this.1⟩,yf6 T g,this.2⟩
   ·cases h
  ·cases h
 |some (t,m)::r,as,cs,h=>by
  unfold yx1 at h;split at h
  ·rename_i xs l q d;simp only [X0] at h;subst h;obtain ⟨e,f⟩:=yu7 d;refine ⟨fun i b=>?_,fun {w S φ vs} c=>?_⟩
   ·rw [v5] at b;rcases X4.1 b with b|b
    ·cases b
    ·have:=e i b;rw [<-List.take_append_drop (m*szT T t) as,yn2];exact X4.2 (.inr this)
   ·obtain ⟨u,x⟩:=ka1 q (c.take T (m*szT T t));have j:=f (c.drop T (m*szT T t));refine ⟨?_,u,j.2⟩;rw [zi0,<-List.take_append_drop (m*szT T t) vs];exact VRL.app T (VRL.cells.2 x) j.1
  ·cases h
def qx5 {a as cs} (h:wh3 T a as=some cs):(∀i∈v5 cs,i∈v5 as)/\ ∀ {w:World} {S:List Nat} {φ:Nat->RA} {vs:List Value},VRL T w S φ as vs->BR T w S φ cs vs:=by
 unfold wh3 at h;split at h
 ·split at h
  ·rename_i b;simp only [X0] at h;subst h;exact ⟨fun i c=>c,fun d=>BR.of T d b⟩
  ·cases h
 ·exact yu7 h
def ku4 {g a cs} (h:boxA T g a=some cs):(∀i∈v5 cs,i∈a.ids)/\ ∀ {w:World} {S:List Nat} {φ:Nat->RA} {v:Value},VR T w S φ a v->BR T w S φ cs v.cells.toList:=by
 unfold boxA at h;split at h
 ·rename_i z j;obtain ⟨t,m,xs⟩:=z;have:=zt7 j;subst this;simp only [X0] at h;subst h;refine ⟨fun i c=>c,fun {w S φ v} d=>?_⟩;obtain ⟨us,rfl,e,f⟩:=d;refine ⟨?_,e,trivial⟩;rw [zi0,zi0,M4];exact VRL.cells.2 f
 ·split at h
  ·rename_i b;obtain ⟨e,f⟩:=qx5 h;exact ⟨fun i c=>by have:=e i c;rwa [yi3 b] at this,fun d=>f (zj7 b d)⟩
  ·cases h
def vz9 {e} (p:dec ops k n F'=some o) (l:o.op=.alloc e) {q cs b} (d:qs2 T P e=some cs) (s:wh3 T q cs=some b) (h:Sim T w0 S0 ⟨F,H⟩ F' w S φ)
  (K:zz0 P ops Q (k+1) n ds w0 S0 (⟨zb2 T F o.dst (.ptr H.length 0),H++ [.blk e b]⟩:St T)):WR P ops Q k n ds F' w:=by
 unfold qs2 at d;split at d
 ·rename_i c t;simp only [X0] at d;subst d;obtain ⟨u,v⟩:=qx5 s;refine WR.alloc (qs8 p l) c t fun g w' f=>K _ _ ⟨g::S,setR φ H.length ⟨some ⟨g,0,none⟩,0,0,[]⟩,?_⟩;have x:=h.add (r:=⟨some ⟨g,0,none⟩,0,0,[]⟩) f.chg f.fresh f.blk.lt (fun a y=>yr4 y) (e:=.blk e b)
   ⟨g,c,by rw [w4],f.blk,by simp,v (yf9 T _)⟩ (by intro j z;have:=u j z;rw [yq2] at this;cases this)
  refine x.slot ⟨g,by rw [w4],rfl⟩ ⟨by intro i m;simp [AV.ids] at m;subst m;simp,trivial⟩
 ·cases d
def ue8 {U:Nat->Type}:AV U->Bool| .ptr _ _=>true| .eptr _ _ _ _=>true| .lptr _ _ _ _=>true| .aptr _ _ _ _ _ _=>true| .fn (.func _) _ _=>true|_=>false
def kk3 {x} (c:o.op=.nilCheck x) {a} (h:ue8 a=true) {v} (d:ev F' x=some v) (e:VR T w S φ a v):QR P F' o S φ rd w v:=by
 intro i _ _;cases a<;>first|(cases h;done)|skip
 ·obtain ⟨g,_,rfl⟩:=e;simp [execOp,c,v6 d]
 ·obtain ⟨g,_,rfl⟩:=e;simp [execOp,c,v6 d]
 ·obtain ⟨ad,cap,_,_,rfl⟩:=e;simp [execOp,c,v6 d]
 ·rename_i f a b;cases f<;>first|(cases h;done)|skip
  obtain ⟨j,l,rfl,_⟩:=e;simp [execOp,c,v6 d]
 ·obtain ⟨g,_,_,rfl⟩:=e;simp [execOp,c,v6 d]
end
end Go.X
namespace Go.X
open Go.RowKit Go.V
section
variable {T:Tab} {P:Program} {w w':World} {S S':List Nat} {φ φ':Nat->RA} {w0:World} {S0:Ow} {F:AF T} {H:List (Ent T.U)} {F':PF}
variable {rd:List Nat} {ops:Array Oper} {Q:Exit->Act->World->Prop} {k n:Nat} {ds:List Deferred} {o:Oper}
def yf7 {t a b c} (h:qx9 P t=some (c,a,b)):ys6 P t=some (a,b,.int c):=by
 unfold qx9 at h;split at h
 ·rename_i d e f;split at h
  ·rename_i i g;simp only [X0,X7] at h;obtain ⟨rfl,rfl,rfl⟩:=h;simp [ys6,f,g]
  ·cases h
 ·cases h
def kx5 {t m p d} (q:dec ops k n F'=some o) (b:o.op=.makeMap t none) (_:qx9 P t=some (d,m,p)) (h:Sim T w0 S0 ⟨F,H⟩ F' w S φ)
  (K:zz0 P ops Q (k+1) n ds w0 S0 (⟨zb2 T F o.dst (.mp H.length),H++ [.map d []]⟩:St T)):WR P ops Q k n ds F' w:=by
 have f:yg8 ops k n F'=some (o.dst,t):=by
  unfold yg8;rw [q];cases o;simp only at b;subst b;rfl
 refine WR.mkMap f fun g w' c=>K _ _ ⟨g::S,setR φ H.length ⟨some ⟨g,0,none⟩,0,0,[]⟩,?_⟩;have s:=h.add (r:=⟨some ⟨g,0,none⟩,0,0,[]⟩) c.chg c.fresh c.blk.lt (fun a u=>yr4 u) (e:=.map d [])
  ⟨g,#[],0,by rw [w4],c.blk,by simp,trivial⟩ (by intro j v;cases v)
 exact s.slot ⟨g,by rw [w4],rfl⟩ ⟨by intro i l;simp [AV.ids] at l;subst l;simp,trivial⟩
def kd9 {t m p d ty} (q:dec ops k n F'=some o) (b:o.op=.makeMap t none) (_:qx9 P t=some (d,m,p)) (h:Sim T w0 S0 ⟨F,H⟩ F' w S φ)
  (K:zz0 P ops Q (k+1) n ds w0 S0 (⟨zb2 T F o.dst (.mp H.length),H++ [.tmap d ty []]⟩:St T)):WR P ops Q k n ds F' w:=by
 have f:yg8 ops k n F'=some (o.dst,t):=by
  unfold yg8;rw [q];cases o;simp only at b;subst b;rfl
 refine WR.mkMap f fun g w' c=>K _ _ ⟨g::S,setR φ H.length ⟨some ⟨g,0,none⟩,0,0,[]⟩,?_⟩;have s:=h.add (r:=⟨some ⟨g,0,none⟩,0,0,[]⟩) c.chg c.fresh c.blk.lt (fun a u=>yr4 u) (e:=.tmap d ty [])
  ⟨g,#[],0,by rw [w4],c.blk,by simp,trivial,MapKept.stamped_empty 0⟩ (by intro j v;cases v)
 exact s.slot ⟨g,by rw [w4],rfl⟩ ⟨by intro i l;simp [AV.ids] at l;subst l;simp,trivial⟩
def TR.find {c ty x}: ∀ {es l} (i),TR T w S c ty es l->
  (Instr.findNow (.int c) (.int c x) l i=some none/\kt1 es x=false/\vz4 T ty es x=yb5 T ty/\(∀a,vz6 es x a=es++ [(x,a)])/\vz1 es x=es/\ ∀e∈l,e.key≠.int c x)\/
  ∃j e,Instr.findNow (.int c) (.int c x) l i=some (some (i+j,e.val))/\l[j]?=some e/\e.key=.int c x/\CR T w S ty (vz4 T ty es x) e.val/\kt1 es x=true/\(∀a v,CR T w S ty a v->TR T w S c ty (vz6 es x a) (l.modify j fun e=> {e with key:=.int c x,val:=v}))/\TR T w S c ty (vz1 es x) (l.eraseIdx j)
 | [],[],_,_=>.inl ⟨rfl,rfl,rfl,fun _=>rfl,rfl,by simp⟩
 | [],_::_,_,h=>h.elim
 |_::_,[],_,h=>h.elim
 |(y,a)::r,e::l,i,h=>by
  obtain ⟨f,g,m⟩:=h;by_cases d:x=y
  ·subst d;refine .inr ⟨0,e,?_,rfl,f,?_,?_,?_,?_⟩
   ·unfold Instr.findNow;rw [f];simp [Instr.sameNow]
   ·simpa [vz4] using g
   ·simp [kt1]
   ·intro b v p;simp only [vz6,if_true];exact ⟨rfl,p,m⟩
   ·simp only [vz1,if_true];exact m
  ·have D:Instr.findNow (.int c) (.int c x) (e::l) i=Instr.findNow (.int c) (.int c x) l (i+1):=by
    rw [Instr.findNow,f];simp only [Instr.sameNow,if_true];rw [show (x==y)=false from by simpa using d]
   rcases TR.find (x:=x) (i+1) m with ⟨s,t,u,z,A,B⟩|⟨j,E,s,t,u,z,A,B,G⟩
   ·refine .inl ⟨D.trans s,by simp [kt1,d,t],by simp [vz4,d,u],fun b=>by simp [vz6,d,z],by simp [vz1,d,A],?_⟩;intro q C;rcases Z0.1 C with rfl|C
    ·rw [f];simp;exact fun e=>d e.symm
    ·exact B q C
   ·refine .inr ⟨j+1,E,by rw [D,s];simp;omega,by simpa using t,u,by simpa [vz4,d] using z,by simp [kt1,d,A],fun b v p=>?_,?_⟩
    ·simp only [vz6,d,if_false];exact ⟨f,g,B b v p⟩
    ·simp only [vz1,d,if_false];exact ⟨f,g,G⟩
def TR.snoc {b ty x a v c} (d:CR T w S ty a v): ∀ {es l},TR T w S b ty es l->TR T w S b ty (es++ [(x,a)]) (l++ [{key:=.int b x,val:=v,born:=c}])
 | [],[],_=>⟨rfl,d,trivial⟩
 | [],_::_,h=>h.elim
 |_::_,[],h=>h.elim
 |(_,_)::_,_::_,h=>⟨h.1,h.2.1,TR.snoc d h.2.2⟩
def yo0 {i g f ty es es' l l' c c'} (h:Sim T w0 S0 ⟨F,H⟩ F' w S φ) (j:H[i]?=some (.tmap f ty es)) (p:(φ i).ad=some ⟨g,0,none⟩) (t:Mp w g l c)
  (e:g∈S) (u:TR T w S f ty es' l'.toList) (m:MapKept.Stamped l' c'):Sim T w0 S0 ⟨F,H.set i (.tmap f ty es')⟩ F' {w with heap:=w.heap.setIfInBounds g (.map l' c')} S φ:=by
 have a:=MapKept.heap_set (o':=.map l' c') t;have s:Chg [g] w {w with heap:=w.heap.setIfInBounds g (.map l' c')}:=⟨rfl,rfl,rfl,by simp,fun r _ v=>a.2 r (by simpa using v)⟩;refine h.upd j rfl s ?_ ⟨g,_,_,p,a.1,e,u.chg T s ?_ fun b d=>.inl d,m⟩ ?_ ?_
 ·intro b d;simp at d;subst d;exact ⟨_,.inl p,rfl⟩
 ·intro b d;simp at d;subst d;exact e
 ·intro q x;cases x
 ·intro z A xs y;cases y
def gf9 {i g t N O b ty es l c x a v} (y:qx9 P t=some (b,N,O)) (h:Sim T w0 S0 ⟨F,H⟩ F' w S φ) (m:H[i]?=some (.tmap b ty es)) (D:(φ i).ad=some ⟨g,0,none⟩) (z:Mp w g l c)
  (p:g∈S) (E:TR T w S b ty es l.toList) (q:MapKept.Stamped l c) (G:CR T w S ty a v): ∃w',(Instr.mapUpdate t (.map (some g)) (.int b x) v).run P w=.ok () w'/\Sim T w0 S0 ⟨F,H.set i (.tmap b ty (vz6 es x a))⟩ F' w' S φ:=by
 obtain ⟨I,d⟩:=zw6 (yf7 y);have s:w.heap[g]?=some (.map l c):=z;rcases TR.find (x:=x) 0 E with ⟨u,_,_,R,_,A⟩|⟨j,J,u,K,L,_,_,A,_⟩
 ·refine ⟨_,?_,yo0 (l':=l.push {key:=.int b x,val:=v,born:=c}) (c':=c+1) h m D z p ?_ (MapKept.stamped_push q A)⟩
  ·simp [Instr.mapUpdate,run_underlying I,MapKept.run_getObj_map s,MapKept.run_checkKey d (show MapKept.IsKey (.int b) (.int b x) from rfl),MapKept.run_findKey d u,MapKept.run_setObj_map _ s,Result.andThen]
  ·rw [R,Array.toList_push];exact TR.snoc G E
 ·have B:j<l.size:=by have:=(X2.1 K).1;simpa using this
  have f:l[j]?=some J:=by simpa using K
  have C:(l.modify j fun e=> {e with key:=.int b x,val:=v}).toList=l.toList.modify j fun e=> {e with key:=.int b x,val:=v}:=by simp
  refine ⟨_,?_,yo0 (l':=l.modify j fun e=> {e with key:=.int b x,val:=v}) (c':=c) h m D z p (by rw [C];exact A a v G) (MapKept.stamped_modify q j _ (fun _ _=>rfl) fun e _ M=>?_)⟩
  ·rw [U2] at u;have r:l[j]=J:=by rw [Z6 B] at f;exact X5 f
   simp [Instr.mapUpdate,run_underlying I,MapKept.run_getObj_map s,MapKept.run_checkKey d (show MapKept.IsKey (.int b) (.int b x) from rfl),MapKept.run_findKey d u,MapKept.run_setObj_map _ s,Result.andThen,f,r,L,MapKept.run_keyThatStays (show MapKept.IsKey (.int b) (.int b x) from rfl)]
  ·rw [f] at M;have:=X5 M;subst this;exact L.symm
def gf8 {i g t z A ty' at2 a ty es l c x} (q:qx9 P t=some (a,z,A)) (h:Sim T w0 S0 ⟨F,H⟩ F' w S φ) (d:H[i]?=some (.tmap a ty es)) (u:(φ i).ad=some ⟨g,0,none⟩) (r:Mp w g l c)
  (e:g∈S) (v:TR T w S a ty es l.toList) (f:MapKept.Stamped l c): ∃w',(Builtin.delete_ (t::at2).toArray ty' #[.map (some g),.int a x]).run P w=.ok (.tuple #[]) w'/\Sim T w0 S0 ⟨F,H.set i (.tmap a ty (vz1 es x))⟩ F' w' S φ:=by
 obtain ⟨y,b⟩:=zw6 (yf7 q);have m:w.heap[g]?=some (.map l c):=r;rcases TR.find (x:=x) 0 v with ⟨p,_,_,_,B,_⟩|⟨j,E,p,C,G,_,_,_,D⟩
 ·refine ⟨_,?_,yo0 (l':=l) (c':=c) h d u r e (by rw [B];exact v) f⟩;simp [Builtin.delete_,run_underlying y,MapKept.run_getObj_map m,MapKept.run_checkKey b (show MapKept.IsKey (.int a) (.int a x) from rfl),MapKept.run_findKey b p,MapKept.run_setObj_map _ m,Result.andThen]
 ·have s:j<l.size:=by have:=(X2.1 C).1;simpa using this
  refine ⟨_,?_,yo0 (l':=l.eraseIdxIfInBounds j) (c':=c) h d u r e ?_ (MapKept.stamped_erase f j)⟩
  ·rw [U2] at p;simp [Builtin.delete_,run_underlying y,MapKept.run_getObj_map m,MapKept.run_checkKey b (show MapKept.IsKey (.int a) (.int a x) from rfl),MapKept.run_findKey b p,MapKept.run_setObj_map _ m,Result.andThen]
  ·have:(l.eraseIdxIfInBounds j).toList=l.toList.eraseIdx j:=by
    unfold Array.eraseIdxIfInBounds;rw [dif_pos s,Array.toList_eraseIdx]
   rw [this];exact D
def wo8 {ty z} (h:zTy ty z=true):CR T w S ty (yb5 T ty) z:=by
 unfold zTy at h;split at h
 ·rename_i k i x;rw [X3] at h;have:=zb8 h.1;subst this;have a:x=0:=by simpa [zTy.eqZ] using h.2
  subst a;exact .int _ _
 ·rename_i b;have d:b=false:=by simpa using h
  subst d;exact .bool _
 ·rename_i e n c;rw [X3] at h;have f:=X1 h.1;have g:=X1 h.2;subst f;subst g;exact .list e [] none 0 (fun _ _=>.int .i64 0) (W8 _) (fun _=>⟨rfl,rfl⟩) (fun h=>absurd rfl h) (fun k j c h=>by simp at h) (fun k j c h=>by simp at h)
 ·cases h
def kl2 {b ty} (h:wd3 P b ty=true): ∃z,(P.info? b).bind (·.zero)=some z/\CR T w S ty (yb5 T ty) z:=by
 unfold wd3 at h;split at h
 ·rename_i c a;split at h
  ·rename_i z d;exact ⟨z,by rw [a];exact d,wo8 h⟩
  ·cases h
 ·cases h
def MR.find {b x}: ∀ {es l} (i),MR T w S φ b es l->(∀p∈es,x≠p.1)->Instr.findNow (.int b) (.int b x) l i=some none
 | [],[],_,_,_=>rfl
 | [],_::_,_,h,_=>h.elim
 |_::_,[],_,h,_=>h.elim
 |(y,a)::r,e::l,i,h,d=>by
  obtain ⟨f,m,g⟩:=h;have c:x≠y:=d _ (U8 ..);unfold Instr.findNow;rw [f];simp only [Instr.sameNow,if_true];rw [show (x==y)=false from by simpa using c];exact MR.find (i+1) g fun p j=>d p (Z4 _ j)
def MR.snoc {b x a v c} (d:VR T w S φ a v): ∀ {es l},MR T w S φ b es l->MR T w S φ b (es++ [(x,a)]) (l++ [{key:=.int b x,val:=v,born:=c}])
 | [],[],_=>⟨rfl,d,trivial⟩
 | [],_::_,h=>h.elim
 |_::_,[],h=>h.elim
 |(_,_)::_,_::_,h=>⟨h.1,h.2.1,MR.snoc d h.2.2⟩
def kb9 {U} (es:List (Int×AV U)) (x:Int) (a:AV U):idsM (es++ [(x,a)])=idsM es++a.ids:=by
 induction es with
 |nil=>simp [idsM]
 |cons p r c=>obtain ⟨y,b⟩:=p;rw [K9,idsM,idsM,c,Q4]
def qc6 {t I J L} (N:dec ops k n F'=some o) (f:o.op=.insert t I J L\/o.op=.mapUpdate t I J L) (d:o.dst=none) {m a O x} (hm:aev T F I=some m) (hk:aev T F J=some (cI T O x)) (hv:aev T F L=some a) {H1} (r:gi5 T P t H m O x a=some H1)
  (h:Sim T w0 S0 ⟨F,H⟩ F' w S φ) (K:zz0 P ops Q (k+1) n ds w0 S0 (⟨F,H1⟩:St T)):WR P ops Q k n ds F' w:=by
 obtain ⟨M,R,h2⟩:=v4 h.fr hm;obtain ⟨X,U,h4⟩:=v4 h.fr hk;obtain ⟨V,Y,h6⟩:=v4 h.fr hv;have e:=w8 h4;subst e;have Z:=zc9 h hv;unfold gi5 at r;split at r
 ·rename_i i kd kt et A;split at r
  ·rename_i kd' es s;split at r
   ·rename_i j;rw [X3,X3] at j;obtain ⟨B,C,b3⟩:=j;have B:=zb8 B;have C:=zb8 C;subst B;subst C;simp only [X0] at r;subst r;obtain ⟨g,v,rfl⟩:=h2;obtain ⟨g',l,c,u,a2,D,E⟩:=h.ents i _ s;rw [v] at u;simp only [X0,Addr.mk.injEq,and_true] at u;subst u;have hdi:yo7 ops k n F'=some (t,.map (some g),.int O x,V):=by
     unfold yo7;rw [N];rcases f with f|f<;>(cases o;simp only at f d;subst f;subst d;simp only [v6 R,v6 U,v6 Y])
    have hne: ∀p∈es,x≠p.1:=by
     intro p hp e;have:=Y8.1 b3 p hp;simp [wg0,e] at this
    refine WR.insert a2 hdi (yf7 A) rfl (MR.find 0 E hne) _ rfl fun w' hM hC=>K _ _ ⟨S,φ,h.upd s rfl hC ?_ ⟨g,_,_,v,hM,D,?_⟩ ?_ ?_⟩
    ·intro b j;simp at j;subst j;exact ⟨_,.inl v,rfl⟩
    ·rw [Array.toList_push];have hT: ∀b∈ [g],b∈S:=by intro b j;simp at j;subst j;exact D
     exact MR.snoc (h6.chg T hC hT fun b j=>.inl j) (E.chg T hC hT fun b j=>.inl j)
    ·intro q z;rw [Ent.cellIds,kb9] at z;rcases X4.1 z with z|z
     ·exact h.eids _ _ s q z
     ·exact Z.1 q z
    ·intro e1 t1 xs he;cases he
   ·cases r
  ·rename_i kd' ty es s;split at r
   ·rename_i y j G;rw [X3] at j;have B:=zb8 j.1;have C:=zb8 j.2;subst B;subst C;simp only [X0] at r;subst r;obtain ⟨g,v,rfl⟩:=h2;obtain ⟨g',l,c,u,a2,D,E,a5⟩:=h.ents i _ s;rw [v] at u;simp only [X0,Addr.mk.injEq,and_true] at u;subst u;unfold ws3 at G;split at G
    ·rename_i cl;have e:=Cell.as_eq G;subst e;obtain ⟨w',hr,hs⟩:=gf9 (x:=x) A h s v a2 D E a5 h6;rcases f with f|f
     ·refine WR.skip N (w':=w') ?_ (by rw [d];exact K _ _ ⟨S,φ,hs⟩);cases o;simp only at f d;subst f;subst d;simp [execOp,v6 R,v6 U,v6 Y,hr]
     ·refine WR.skip N (w':=w') ?_ (by rw [d];exact K _ _ ⟨S,φ,hs⟩);cases o;simp only at f d;subst f;subst d;simp [execOp,v6 R,v6 U,v6 Y,hr]
    ·cases G
   ·cases r
  ·cases r
 ·cases r
def qd3 {R:Type} {r:R} {f:IntKind} {x:Int} {d:Bool} {z:AV T.U} {Z:Value} (g:VR T w S φ z Z) {K:AV T.U->Option R}: ∀ {es:List (Int×AV T.U)} {l:List MapEntry} (i:Nat),jj0 T d z x K es=some r->MR T w S φ f es l->
  ∃a q,K a=some r/\Instr.findNow (.int f) (.int f x) l i=some q/\VR T w S φ a (lkV Z d q)/\ ∀j∈a.ids,j∈z.ids\/j∈idsM es
 | [],[],i,h,_=>by
  refine ⟨_,none,h,rfl,?_,fun j c=>.inl ?_⟩
  ·cases d
   ·exact g
   ·exact ⟨_,rfl,g,CR.bool _,trivial⟩
  ·cases d
   ·exact c
   ·simpa [AV.ids,v5] using c
 | [],_::_,_,_,h=>h.elim
 |_::_,[],_,_,h=>h.elim
 |(y,b)::es,e::l,i,h,s=>by
  obtain ⟨t,p,u⟩:=s;unfold jj0 at h;unfold Instr.findNow;rw [t];simp only [Instr.sameNow,if_true];split at h
  ·rename_i v;subst v;rw [show (x==x)=true from by simp];refine ⟨_,some (i,e.val),h,rfl,?_,fun j c=>.inr ?_⟩
   ·cases d
    ·exact p
    ·exact ⟨_,rfl,p,CR.bool _,trivial⟩
   ·rw [idsM];cases d
    ·exact X4.2 (.inl c)
    ·exact X4.2 (.inl (by simpa [AV.ids,v5] using c))
  ·rename_i m;rw [show (x==y)=false from by simpa using m];obtain ⟨a,q,A,B,C,D⟩:=qd3 g (i+1) h u;exact ⟨a,q,A,B,C,fun j c=>(D j c).imp id fun c=>by rw [idsM];exact X4.2 (.inr c)⟩
def wh8 {Z:Prop} {R:Type} {r:R} {t:TypeId} {xm xk:Operand} {f:Bool} (hd:dec ops k n F'=some o) (p:o.op=.lookup t xm xk f) {m:AV T.U} {L:IntKind} {x:Int} (hm:aev T F xm=some m) (hk:aev T F xk=some (cI T L x)) {K0:AV T.U->Option R} (b:jp0 T P t f H m L x K0=some r)
  (h:Sim T w0 S0 ⟨F,H⟩ F' w S φ) (N: ∀i∈m.ids,i∈rd) (K: ∀a v,K0 a=some r->QR P F' o S φ rd w v->VR T w S φ a v->(∀i∈a.ids,i<H.length)->Z):Z:=by
 obtain ⟨M,h1,h2⟩:=v4 h.fr hm;obtain ⟨X,h3,h4⟩:=v4 h.fr hk;have e:=w8 h4;subst e;unfold jp0 at b;split at b
 ·rename_i i kd kt et O;split at b
  ·rename_i kd' es s;split at b
   ·rename_i z C D;rw [X3] at C;obtain ⟨V,Y⟩:=C;have V:=zb8 V;have Y:=zb8 Y;subst V;subst Y;obtain ⟨g,hg,rfl⟩:=h2;obtain ⟨g',l,c,E,a2,a3,a4⟩:=h.ents i _ s;rw [hg] at E;simp only [X0,Addr.mk.injEq,and_true] at E;subst E;obtain ⟨y,d,hze⟩: ∃y,(P.info? et).bind (·.zero)=some y/\z=ofV T y:=by
     unfold vl7 at D;split at D
     ·rename_i inf hinf;split at D
      ·rename_i y d;simp only [X0] at D;exact ⟨y,by rw [hinf];exact d,D.symm⟩
      ·cases D
     ·cases D
    subst hze;obtain ⟨a,q,q1,q2,q3,q4⟩:=qd3 (qk3 T y) 0 b a4;have G:zy0 ops k n F'=some (o.dst,t,.map (some g),.int L x,f):=by
     unfold zy0;rw [hd];cases o;simp only at p;subst p;simp only [v6 h1,v6 h3]
    refine K a _ q1 (fun w1 _ I=>?_) q3 fun j A=>?_
    ·have J:Mp w1 g l c:=(I i (N i (by simp [AV.ids])) _ hg a2.lt).trans a2;have u:=jr5 (P:=P) J G (yf7 O) rfl q q2 d _ rfl;unfold yl1 at u;rw [hd] at u;simp only [X0,X7] at u;exact u.2
    ·rcases q4 j A with A|A
     ·rw [qk2] at A;cases A
     ·exact h.eids _ _ s j A
   ·cases b
  ·rename_i kd' ty es s;split at b
   ·rename_i C;rw [X3,X3] at C;have V:=zb8 C.1;have Y:=zb8 C.2.1;subst V;subst Y;obtain ⟨g,hg,rfl⟩:=h2;obtain ⟨g',l,c,E,a2,a3,a4,a5⟩:=h.ents i _ s;rw [hg] at E;simp only [X0,Addr.mk.injEq,and_true] at E;subst E;obtain ⟨y,d,hzr⟩:=kl2 (T:=T) (w:=w) (S:=S) C.2.2;have G:zy0 ops k n F'=some (o.dst,t,.map (some g),.int L x,f):=by
     unfold zy0;rw [hd];cases o;simp only at p;subst p;simp only [v6 h1,v6 h3]
    have hq: ∀q,Instr.findNow (.int L) (.int L x) l.toList 0=some q->QR P F' o S φ rd w (lkV y f q):=fun q q2 w1 _ I=>by
     have J:Mp w1 g l c:=(I i (N i (by simp [AV.ids])) _ hg a2.lt).trans a2;have u:=jr5 (P:=P) J G (yf7 O) rfl q q2 d _ rfl;unfold yl1 at u;rw [hd] at u;simp only [X0,X7] at u;exact u.2
    have B: ∀j∈(vn0 T f ty es x).ids,j<H.length:=by
     intro j A;cases f<;>simp [vn0,AV.ids,v5] at A
    rcases TR.find (x:=x) 0 a4 with ⟨g1,g2,g3,_⟩|⟨j,e',g1,g2,g3,g4,g5,_⟩
    ·refine K _ _ b (hq _ g1) ?_ B;cases f
     ·show CR T w S ty _ _;rw [g3];exact hzr
     ·exact ⟨_,rfl,by rw [g3];exact hzr,by rw [g2];exact CR.bool _,trivial⟩
    ·refine K _ _ b (hq _ g1) ?_ B;cases f
     ·exact g4
     ·exact ⟨_,rfl,g4,by rw [g5];exact CR.bool _,trivial⟩
   ·cases b
  ·cases b
 ·cases b
end
end Go.X
namespace Go.X
open Go.RowKit Go.V
structure CallSpec (T:Tab) where
 call: {R:Type}->List (AV T.U)->List (Ent T.U)->(AV T.U->List (Ent T.U)->Option R)->(AV T.U->List (Ent T.U)->Option R)->Option R
 q: {R:Type}->List (AV T.U)->List (Ent T.U)->(AV T.U->Option R)->Option R
 isq:Bool
 wr:List (AV T.U)->List (Ent T.U)->List Nat
structure Ctx (T:Tab) where
 ty:TypeId->Option Ty
 E:List (FuncId×CallSpec T)
 pin:Nat
 ms:List (Nat×Nat)
 lay:TypeId->Option Lay:=fun _=>none
 dr:TypeId->Option (Nat×List TypeId):=fun _=>none
section
variable {T:Tab} (P:Program) (C:Ctx T)
def qn3:List (FuncId×CallSpec T)->FuncId->Option (CallSpec T)
 | [],_=>none
 |(g,c)::r,f=>match Nat.beq g f with|true=>some c|false=>qn3 r f
def zh4:AV T.U->Bool| .eptr _ _ _ _=>false|_=>true
def wr7:Op->Bool| .move _=>true| .assign _=>true| .fieldAddr _ _ _=>true|_=>false
def zm3 (f:FuncId):Bool:=match P.funcs[f]? with|some fn=> !(fn.name== "runtime.NumGoroutine")&&fn.body.isSome|none=>false
def lenM (t:TypeId) (H:List (Ent T.U)) (a:AV T.U):Option Int:=
 match P.underlying t with
 |some (.map _ _)=>match a with
  | .mp i=>match H[i]? with|some (.tmap _ _ m)=>some ((m.length:Nat):Int)|_=>none
  |_=>none
 |_=>none
def qo1:List (AV T.U)->List Nat
 | []=> []
 | .mp i::r=>i::qo1 r
 |_::r=>qo1 r
def lenOf (t:TypeId) (H:List (Ent T.U)) (a:AV T.U):Option Int:=
 match P.underlying t with
 |some (.slice _)=>match lenA T H a with|some n=>some ((n:Nat):Int)|none=>none
 |some .string=>match a with| .cell ⟨.str,s⟩=>some ((ByteArray.size s:Nat):Int)|_=>none
 |_=>none
section
variable {R:Type}
def jj1 (c:Bool) (x y:AV T.U) (K:AV T.U->Option R):Option R:=
 match gx3 T c x y with
 |some z=>K z
 |none=>match zh4 x&&zh4 y with|true=>if c=true then K x else K y|false=>none
def yo6 (c:Call) (st:St T) (K:AV T.U->List (Ent T.U)->Option R) (b:AV T.U->List (Ent T.U)->Option R):Option R:=
 match zx4 T st.F c.args.toList with
 |none=>none
 |some as=>
  match c.callee with
  | .value f=>match aev T st.F f with
   |some (.fn (.func g) first a)=>match zm3 P g,qn3 C.E g with
    |true,some cs=>match (first++as++a).all zh4 with|true=>cs.call (first++as++a) st.H K b|false=>none
    |_,_=>none
   |_=>none
  | .builtin .append=>match as,c.argTypes.toList with
   | [s,x],[t,d]=>match Nat.beq t d,C.ty t with|true,some e=>appA T P e t st.H s x K|_,_=>none
   |_,_=>none
  | .builtin .clear=>match as,c.argTypes.toList with
   | [s],[t]=>yr8 T P t st.H s K
   |_,_=>none
  | .builtin .delete=>match as,c.argTypes.toList with
   | [m,.cell ⟨.int h,x⟩],t::_=>(match wf6 T P t st.H m h x with|some H1=>K (.tup []) H1|none=>none)
   |_,_=>none
  |_=>none
def vk0 (o:Oper) (F:AF T):List Nat:=
 match o.op with
 | .load _ x=>match aev T F x with|some a=>a.ids|none=> []
 | .convert _ _ x=>match aev T F x with|some a=>a.ids|none=> []
 | .lookup _ m _ _=>match aev T F m with|some a=>a.ids|none=> []
 | .call c=>match c.callee with
  | .value f=>match aev T F f,zx4 T F c.args.toList with|some a,some as=>a.ids++v5 as|_,_=> []
  | .builtin .len=>match zx4 T F c.args.toList with|some as=>qo1 as|none=> []
  |_=> []
 |_=> []
def gw0:Op->Bool
 | .indexAddr t _ _=>(zg8 P t).isSome
 | .index t _ _=>(zg8 P t).isSome
 | .slice t _ _ _ none=>(we4 P t).isSome
 | .sliceToArrayPointer _ _=>true
 | .load t _=>(zg8 P t).isSome
 | .nilCheck _=>true
 | .lookup _ _ _ _=>true
 |_=>false
def gw4 (t:TypeId):Bool:=match P.underlying t with|some (.array _ e)=>(match P.underlying e with|some d=> !yf3 d|none=>false)|_=>false
def yq9 (o:Oper) (st:St T) (K:AV T.U->Option R):Option R:=
 match o.op with
 | .indexAddr t x y=>match zg8 P t,aev T st.F x,aev T st.F y with
  |some (n,sz),some s,some (.cell ⟨.int _,j⟩)=>yh3 T n sz st.H s j K
  |_,_,_=>none
 | .index t x y=>match zg8 P t,aev T st.F x,aev T st.F y,gw4 P t with
  |some (n,sz),some s,some (.cell ⟨.int _,j⟩),true=>ys5 T n sz s j K
  |_,_,_,_=>none
 | .slice t x c d none=>match we4 P t,aev T st.F x,qj4 st.F c,qj4 st.F d with
  |some (n,sz),some s,some l,some h=>yt7 T n sz st.H s l h K
  |_,_,_,_=>none
 | .sliceToArrayPointer t x=>match zg8 P t,aev T st.F x with
  |some (n,sz),some s=>yr3 T n sz st.H s K
  |_,_=>none
 | .load t x=>match zg8 P t,aev T st.F x with
  |some (n,sz),some p=>yp9 T n sz (match P.info? t with|some i=>Nat.beq i.size (n*sz)|none=>false) st.H p K (z6 (loadA T P t st.H p) K)
  |_,_=>none
 | .nilCheck x=>match aev T st.F x with|some a=>(match ue8 a with|true=>K a|false=>none)|none=>none
 | .lookup t m x e=>match aev T st.F m,aev T st.F x with
  |some a,some (.cell ⟨.int f,x⟩)=>jp0 T P t e st.H a f x fun b=>match zh4 b with|true=>K b|false=>none
  |_,_=>none
 |_=>none
def zs1 (o:Oper) (st:St T) (K:AV T.U->Option R):Option R:=
 match jq6 T P o.op st.F with
 |some a=>match wr7 o.op||zh4 a with|true=>K a|false=>none
 |none=>match o.op with
  | .pick c a b=>match aev T st.F c,aev T st.F a,aev T st.F b with
   |some (.cell ⟨.bool,c⟩),some x,some y=>jj1 c x y K
   |_,_,_=>none
  | .binOp b _ x y _=>match aev T st.F x,aev T st.F y with
   |some x,some y=>divA T b x y K
   |_,_=>none
  | .load t x=>match aev T st.F x with
   |some p=>match loadA T P t st.H p with|some a=>K a|none=>none
   |none=>none
  | .convert s d x=>match P.underlying s,P.underlying d,aev T st.F x with
   |some (.slice e),some .string,some a=>match P.underlying e with
    |some (.int .u8)=>rdF T st.H (.list (.int .u8)) a fun xs=>K (.cell ⟨.str,yy0 xs⟩)
    |_=>none
   |_,_,_=>none
  | .index t x y=>match P.underlying t,aev T st.F x,aev T st.F y with
   |some .string,some (.cell ⟨.str,s⟩),some (.cell ⟨.int _,j⟩)=>jj7 s j fun b=>K (cI T .u8 b)
   |_,_,_=>none
  | .indexAddr t x y=>match aev T st.F x,aev T st.F y with
   |some s,some (.cell ⟨.int _,j⟩)=>yd0 T P t st.H s j K
   |_,_=>none
  | .slice t x f g none=>match aev T st.F x,qj4 st.F f,qj4 st.F g with
   |some s,some l,some h=>match l,h with
    |none,none=>none
    |l,h=>yh9 T P t st.H s l h K
   |_,_,_=>none
  | .typeAssert x _ at_ i=>match aev T st.F x with
   |some a=>match jb2 T P a at_ i with|some b=>(match zh4 b with|true=>K b|false=>none)|none=>none
   |none=>none
  | .call c=>match zx4 T st.F c.args.toList with
   |none=>none
   |some as=>match c.callee with
    | .builtin .len=>match as,c.argTypes.toList with
     | [a],[t]=>match lenOf P t st.H a with
      |some n=>K (cI T .i64 n)
      |none=>match lenM P t st.H a with|some n=>K (cI T .i64 n)|none=>none
     |_,_=>none
    | .builtin .min=>match minA T as with|some a=>K a|none=>none
    | .builtin .max=>match maxA T as with|some a=>K a|none=>none
    |_=>none
  |_=>none
def ya2 (o:Oper) (st:St T) (K:AV T.U->Option R):Option R:=match gw0 P o.op with|true=>yq9 P o st K|false=>zs1 P o st K
def stepA (o:Oper) (st:St T) (K:St T->Option R) (h:AV T.U->St T->Option R):Option R:=
 let f:=fun (a:AV T.U) (H:List (Ent T.U))=>K ⟨zb2 T st.F o.dst a,H⟩
 match o.op with
 | .alloc e=>match qs2 T P e with
  |some cs=>(match wh3 T (C.lay e) cs with|some cs=>f (.ptr st.H.length 0) (st.H++ [.blk e cs])|none=>none)
  |none=>none
 | .box e x=>match aev T st.F x with
  |some a=>match boxA T (C.lay e) a with|some cs=>f (.ptr st.H.length 0) (st.H++ [.blk e cs])|none=>none
  |none=>none
 | .makeMap t none=>match qx9 P t,C.ty t with
  |some (k,_,_),none=>f (.mp st.H.length) (st.H++ [.map k []])
  |some (k,_,_),some ty=>f (.mp st.H.length) (st.H++ [.tmap k ty []])
  |none,_=>none
 | .insert t m x v=>match o.dst,aev T st.F m,aev T st.F x,aev T st.F v with
  |none,some a,some (.cell ⟨.int g,x⟩),some b=>(match zh4 b,gi5 T P t st.H a g x b with|true,some H1=>K ⟨st.F,H1⟩|_,_=>none)
  |_,_,_,_=>none
 | .mapUpdate t m x v=>match o.dst,aev T st.F m,aev T st.F x,aev T st.F v with
  |none,some a,some (.cell ⟨.int g,x⟩),some b=>(match zh4 b,gi5 T P t st.H a g x b with|true,some H1=>K ⟨st.F,H1⟩|_,_=>none)
  |_,_,_,_=>none
 | .store t x y=>match o.dst,aev T st.F x,aev T st.F y with
  |none,some p,some a=>match jm4 T P t st.H p a with|some H1=>K ⟨st.F,H1⟩|none=>none
  |_,_,_=>none
 | .makeSlice t x y=>match aev T st.F x,aev T st.F y,C.ty t with
  |some (.cell ⟨.int _,l⟩),some (.cell ⟨.int _,c⟩),some e=>qa4 T P e t st.H l c f
  |_,_,_=>none
 | .buildSlice t len j=>match yd4 T st.F j.toList,C.ty t with
  |some l,some ty=>match vl9 T P ty t len l with|some (e,xs)=>f (.own st.H.length) (st.H++ [.row e ty xs])|none=>none
  |some l,none=>match vm0 T P t len l with|some (e,sz,cs)=>f (.sl st.H.length sz 0 len) (st.H++ [.blk e cs])|none=>none
  |_,_=>none
 | .call c=>match reads c with
  |true=>ya2 P o st fun a=>f a st.H
  |false=>yo6 P C c st f fun a H=>h a ⟨st.F,H⟩
 | .convert s d x=>match P.underlying s,P.underlying d,aev T st.F x with
  |some .string,some (.slice e),some (.cell ⟨.str,b⟩)=>match P.underlying e with
   |some (.int .u8)=>f (.cell ⟨.list (.int .u8),zv4 b⟩) st.H
   |_=>none
  |some (.slice _),some (.slice e),some (.own i)=>match Nat.beq s d,C.ty d,P.underlying e,appA.rowIn T (.int .u8) st.H (.own i) with
   |true,some _,some (.int .u8),some (x::xs)=>f (.cell ⟨.list (.int .u8),x::xs⟩) (st.H.set i .gone)
   |_,_,_,_=>none
  |_,_,_=>ya2 P o st fun a=>f a st.H
 | .panic x=>match aev T st.F x with|some (.ifc t a)=>h (.ifc t a) st|_=>none
 |_=>ya2 P o st fun a=>f a st.H
where
 reads (c:Call):Bool:=match c.callee with| .builtin .len=>true| .builtin .min=>true| .builtin .max=>true|_=>false
end
end
section
variable {T:Tab} {P:Program} {C:Ctx T} {w w':World} {S S':List Nat} {φ φ':Nat->RA} {w0:World} {S0:Ow} {F:AF T} {H:List (Ent T.U)} {F':PF}
variable {rd:List Nat} {ops:Array Oper} {Q:Exit->Act->World->Prop} {k n:Nat} {ds:List Deferred} {o:Oper}
def u0 (T:Tab) (P:Program) (f:FuncId) (cs:CallSpec T):Prop:=
 ∀ {R:Type} (as:List (AV T.U)) (H:List (Ent T.U)) (K c:AV T.U->List (Ent T.U)->Option R) (r:R),cs.call as H K c=some r->
  ∀(w0:World) (S0:Ow) (F:AF T) (F':PF) (w:World) (S:List Nat) (φ:Nat->RA),Sim T w0 S0 ⟨F,H⟩ F' w S φ-> ∀vs:List Value,VRL T w S φ as vs->(∀a∈as,okA H a)->
  Calls P f vs.toArray w fun e w'=>match e with
   | .returned v=> ∃a H1,K a H1=some r/\ ∃S1 b,Sim T w0 S0 ⟨F,H1⟩ F' w' S1 b/\VR T w' S1 b a v/\okA H1 a
   | .panicked d=> ∃a H1,c a H1=some r/\ ∃v,d= [{v:=v,recovered:=false}]/\ ∃S1 b,Sim T w0 S0 ⟨F,H1⟩ F' w' S1 b/\VR T w' S1 b a v/\okA H1 a
   | .outgrown=>False
def zi6 (T:Tab) (P:Program) (f:FuncId) (cs:CallSpec T):Prop:=
 ∀ {R:Type} (as:List (AV T.U)) (H:List (Ent T.U)) (K:AV T.U->Option R) (r:R),cs.q as H K=some r->
  ∀(w0:World) (S0:Ow) (F:AF T) (F':PF) (w:World) (S:List Nat) (φ:Nat->RA),Sim T w0 S0 ⟨F,H⟩ F' w S φ-> ∀vs:List Value,VRL T w S φ as vs->(∀a∈as,okA H a)->
  ∃a v,K a=some r/\VR T w S φ a v/\okA H a/\ ∀b,Chg S w b->Same φ (v5 as) w b->Calls P f vs.toArray b (RetV b v)
structure Keeps (T:Tab) (l:List Nat) (H H1:List (Ent T.U)):Prop where
 len:H.length<=H1.length
 same: ∀e,e<H.length->e∉l->H1[e]?=H[e]?
 row: ∀(e:Nat) (ty:TypeId) (t:Ty) (ys:List (den T.U t)),e<H.length->H1[e]?=some (.row ty t ys)-> ∃xs,H[e]?=some (.row ty t xs)
def yb4 (cs:CallSpec T):Prop:=
 ∀ {R:Type} (as:List (AV T.U)) (H:List (Ent T.U)) (K e:AV T.U->List (Ent T.U)->Option R) (r:R),cs.call as H K e=some r->
  (∃a H1,K a H1=some r/\Keeps T (cs.wr as H) H H1/\ ∀ {d:Type} (c b:AV T.U->List (Ent T.U)->Option d),cs.call as H c b=c a H1)\/
  ∃a H1,e a H1=some r/\Keeps T (cs.wr as H) H H1/\ ∀ {d:Type} (c b:AV T.U->List (Ent T.U)->Option d),cs.call as H c b=b a H1
def zb4 (T:Tab) (P:Program) (E:List (FuncId×CallSpec T)):Prop:= ∀f cs,qn3 E f=some cs->u0 T P f cs/\zi6 T P f cs/\yb4 cs
def zd3 {a} (h:zh4 a=true) (b: ∀i∈a.ids,i<H.length):okA H a:=⟨b,by cases a<;>first|trivial|cases h⟩
def jt0 {l} (c:Sim T w0 S0 ⟨F,H⟩ F' w S φ): ∀ {as},zx4 T F l=some as-> ∀i∈v5 as,i<H.length:=by
 induction l with
 |nil=>intro as h;simp only [zx4,X0] at h;subst h;intro i b;cases b
 |cons x r d=>
  intro as h;unfold zx4 at h;split at h
  ·rename_i a l e f;simp only [X0] at h;subst h;intro i b;rw [v5] at b;rcases X4.1 b with b|b
   ·exact (zc9 c e).1 i b
   ·exact d f i b
  ·cases h
def vi8 {as cs o0 m} (a: ∀i∈v5 cs,i<m) (b: ∀i∈v5 as,i<m): ∀i∈v5 (yl7 T cs o0 as),i<m:=fun i c=>(je4 i c).elim (a i) (b i)
def jd5 {c m}: ∀ {l cs b},yy8 T c cs l=some b->(∀i∈v5 cs,i<m)->(∀i∈v5 (l.map Prod.snd),i<m)-> ∀i∈v5 b,i<m
 | [],cs,b,h,e,_=>by simp only [yy8,X0] at h;subst h;exact e
 |(j,a)::r,cs,b,h,e,f=>by
  rw [U3,v5] at f;unfold yy8 at h;split at h
  ·split at h
   ·rename_i d;simp only [X3] at d;exact jd5 h (vi8 e (by rw [yi3 d.1];exact fun i g=>f i (X4.2 (.inl g)))) fun i g=>f i (X4.2 (.inr g))
   ·cases h
  ·cases h
def jq1 {l} (c:Sim T w0 S0 ⟨F,H⟩ F' w S φ): ∀ {as},yd4 T F l=some as-> ∀i∈v5 (as.map Prod.snd),i<H.length:=by
 induction l with
 |nil=>intro as h;simp only [yd4,X0] at h;subst h;intro i b;cases b
 |cons x r d=>
  intro as h;obtain ⟨j,x⟩:=x;unfold yd4 at h;split at h
  ·rename_i a l e f;simp only [X0] at h;subst h;intro i b;rw [U3,v5] at b;rcases X4.1 b with b|b
   ·exact (zc9 c e).1 i b
   ·exact d f i b
  ·cases h
def vt2 {t b x y a neg} (h:eqA T P t b x y neg=some a):a.ids= []:=by
 unfold eqA at h;split at h
 ·simp only [X0] at h;subst h;rfl
 split at h
 ·simp only [X0] at h;subst h;rfl
 split at h
 ·split at h
  ·simp only [X0] at h;subst h;rfl
  ·cases h
 ·simp only at h;split at h
  ·split at h
   ·simp only [X0] at h;subst h;rfl
   ·cases h
  ·cases h
 ·cases h
def wo4 {u x a} (h:unA T u x=some a):a.ids= []:=by
 unfold unA at h;split at h
 ·unfold unI at h;split at h
  ·simp only [X0] at h;subst h;rfl
  ·simp only [X0] at h;subst h;rfl
  ·cases h
 ·split at h
  ·simp only [X0] at h;subst h;rfl
  ·cases h
 ·cases h
def ku1 {b t c x y a} (h:wf2 T P b t c x y=some a):a.ids= []:=by
 unfold wf2 at h;split at h
 ·split at h
  ·cases b<;>simp only [wp2,X0,reduceCtorEq] at h<;>subst h<;>rfl
  ·cases h
 ·simp only [X0] at h;subst h;rfl
 ·simp only [X0] at h;subst h;rfl
 ·exact vt2 h
 ·exact vt2 h
 ·cases h
def ke9 {op a} (c:Sim T w0 S0 ⟨F,H⟩ F' w S φ) (h:jq6 T P op F=some a): ∀i∈a.ids,i<H.length:=by
 unfold jq6 at h;split at h
 ·exact (zc9 c h).1
 ·exact (zc9 c h).1
 ·split at h
  ·rw [ku1 h];intro i b;cases b
  ·cases h
 ·split at h
  ·rw [wo4 h];intro i b;cases b
  ·cases h
 ·split at h
  ·simp only [X0] at h;subst h;intro i b;cases b
  ·cases h
 ·split at h
  ·rename_i vs e;have:=(zc9 c e).1;intro i b;exact this i (by rw [AV.ids];exact zh0 (X6 h) i b)
  ·cases h
 ·split at h
  ·rename_i x e;have:=(zc9 c e).1;unfold qn1 at h;split at h
   ·split at h
    ·intro i b;exact this i (by rw [AV.ids];exact jt1 h i b)
    ·cases h
   ·cases h
  ·cases h
 ·split at h
  ·rename_i x d e s;have:=(zc9 c e).1;split at h
   ·cases h
   ·simp only [X0] at h;subst h;intro i b;exact this i (by rw [AV.ids] at b;exact b)
  ·cases h
 ·split at h
  ·rename_i x y e p;simp only [X0] at h;subst h;intro i b;rw [AV.ids] at b;rcases X4.1 b with b|b
   ·exact jt0 c e i b
   ·exact jt0 c p i b
  ·cases h
 ·split at h
  ·rename_i t z l q g r;split at h
   ·rename_i cs j;simp only [X0] at h;subst h;unfold qs2 at g;split at g
    ·simp only [X0] at g;subst g;intro i b;rw [AV.ids] at b;exact jd5 j (by rw [yq2];intro i b;cases b) (jq1 c r) i b
    ·cases g
   ·cases h
  ·cases h
 ·split at h
  ·rename_i x u f m v e A;have:=(zc9 c e).1;split at h
   ·cases h
   ·unfold vi1 at h;split at h<;>simp only [X0,reduceCtorEq] at h<;>subst h<;>exact this
  ·cases h
 ·cases h
def ky6 {op a} (d:Sim T w0 S0 ⟨F,H⟩ F' w S φ) (h:jq6 T P op F=some a) (c:(wr7 op||zh4 a)=true):okA H a:=by
 rcases V5 _ _▸c with c|c
 ·cases op<;>first|cases c|skip
  ·exact zc9 d h
  ·exact zc9 d h
  ·unfold jq6 at h;simp only at h;split at h
   ·rename_i x g f m i e j;have b:=zc9 d e;split at h
    ·cases h
    ·unfold vi1 at h;split at h<;>simp only [X0,reduceCtorEq] at h<;>subst h
     ·exact ⟨b.1,trivial⟩
     ·exact b
     ·exact ⟨b.1,trivial⟩
     ·exact ⟨b.1,trivial⟩
   ·cases h
 ·exact zd3 c (ke9 d h)
def VR.int (kk x):VR T w S φ (cI T kk x) (.int kk x):=by rw [VR];exact CR.int _ _
def VR.bool (x):VR T w S φ (cB T x) (.bool x):=by rw [VR];exact CR.bool _
def jz5 {a v} (c:dec ops k n F'=some o) (d:(execOp (evD F') o).run P w=.ok (.value v) w) (h:Sim T w0 S0 ⟨F,H⟩ F' w S φ) (e:VR T w S φ a v) (b:okA H a) (K:zz0 P ops Q (k+1) n ds w0 S0 (⟨zb2 T F o.dst a,H⟩:St T)):WR P ops Q k n ds F' w:=
 .val c d (K _ _ ⟨S,φ,h.slot e b⟩)
def ke7 {c x y z} (h:gx3 T c x y=some z) {X Y} (d:VR T w S φ x X) (e:VR T w S φ y Y):VR T w S φ z (if c=true then X else Y)/\z.ids= []/\zh4 z=true:=by
 unfold gx3 at h;split at h
 ·split at h
  ·rename_i f;have:=zb8 f;subst this;simp only [X0] at h;subst h;have a:=w8 d;have b:=w8 e;subst a;subst b;refine ⟨?_,rfl,rfl⟩;cases c<;>exact .int _ _
  ·cases h
 ·simp only [X0] at h;subst h;have a:=zf6 d;have b:=zf6 e;subst a;subst b;refine ⟨?_,rfl,rfl⟩;cases c<;>exact .bool _
 ·cases h
def uj7 {Z:Prop} {R:Type} {r:R} {c x y:Operand} (N:dec ops k n F'=some o) (g:o.op=.pick c x y) {t:Bool} {a b:AV T.U} (u:aev T F c=some (cB T t)) (l:aev T F x=some a) (m:aev T F y=some b) {p:AV T.U->Option R} (d:jj1 t a b p=some r)
  (h:Sim T w0 S0 ⟨F,H⟩ F' w S φ) (K: ∀a v,p a=some r->QR P F' o S φ rd w v->VR T w S φ a v->okA H a->Z):Z:=by
 obtain ⟨O,A,B⟩:=v4 h.fr u;have e:=zf6 B;subst e;obtain ⟨X,D,q⟩:=v4 h.fr l;obtain ⟨Y,E,s⟩:=v4 h.fr m;have f:QR P F' o S φ rd w (if t=true then X else Y):=fun V _ _=>by simp [execOp,g,v6 A,v6 D,v6 E,asBool]
 unfold jj1 at d;split at d
 ·rename_i z G;obtain ⟨I,J,L⟩:=ke7 G q s;exact K _ _ d f I (zd3 L (by rw [J];intro i M;cases M))
 ·split at d
  ·rename_i j;simp only [X3] at j;cases t with
   |true=>rw [if_pos rfl] at d f;exact K _ _ d f q (zc9 h l)
   |false=>rw [if_neg (by simp)] at d f;exact K _ _ d f s (zc9 h m)
  ·cases d
def ye3 {R:Type} {c:Prop} {_:Decidable c} {x:Option R} {r:R} (h:(if c then none else x)=some r): ¬c/\x=some r:=by
 split at h
 ·cases h
 ·rename_i a;exact ⟨a,h⟩
def zaj8 {Z:Prop} {R:Type} {r:R} {b:BinOp} {t ty:TypeId} {x y:Operand} (J:dec ops k n F'=some o) (f:o.op=.binOp b t x y ty) {a c:AV T.U} (G:aev T F x=some a) (I:aev T F y=some c) {D:AV T.U->Option R} (d:divA T b a c D=some r)
  (h:Sim T w0 S0 ⟨F,H⟩ F' w S φ) (K: ∀a v,D a=some r->QR P F' o S φ rd w v->VR T w S φ a v->okA H a->Z):Z:=by
 obtain ⟨X,p,q⟩:=v4 h.fr G;obtain ⟨Y,s,u⟩:=v4 h.fr I;have m: ∀(E:IntKind) (z:Int),okA H (cI T E z):=fun E z=>⟨fun i m=>(by cases m),trivial⟩;unfold divA at d;split at d
 ·split at d
  ·rename_i A;have:=zb8 A;subst this;have g:=w8 q;have j:=w8 u;subst g;subst j;unfold divA.divI at d;obtain ⟨e,l⟩:=ye3 d;exact K _ _ l (fun B _ _=>by simp [execOp,f,v6 p,v6 s,eqGuard,binOp,Op.intDiv,e]) (.int _ _) (m _ _)
  ·cases d
 ·split at d
  ·rename_i A;have:=zb8 A;subst this;have g:=w8 q;have j:=w8 u;subst g;subst j;unfold divA.remI at d;obtain ⟨e,l⟩:=ye3 d;exact K _ _ l (fun B _ _=>by simp [execOp,f,v6 p,v6 s,eqGuard,binOp,Op.intDiv,e]) (.int _ _) (m _ _)
  ·cases d
 ·have g:=w8 q;have j:=w8 u;subst g;subst j;unfold divA.shlI at d;obtain ⟨e,l⟩:=ye3 d;exact K _ _ l (fun B _ _=>by simp [execOp,f,v6 p,v6 s,eqGuard,binOp,Op.shift,e,yd6]) (.int _ _) (m _ _)
 ·have g:=w8 q;have j:=w8 u;subst g;subst j;unfold divA.shrI at d;obtain ⟨e,l⟩:=ye3 d;exact K _ _ l (fun B _ _=>by simp [execOp,f,v6 p,v6 s,eqGuard,binOp,Op.shift,e,zb1]) (.int _ _) (m _ _)
 ·cases d
def qt3 {Z:Prop} {t:TypeId} {x:Operand} (B:dec ops k n F'=some o) (p:o.op=.load t x) {i m sz z j c:Nat} {e:TypeId} {cs r:List (AV T.U)} {ty:Ty} {xs:List (den T.U ty)} {a:AV T.U} (D:aev T F x=some (.aptr i m sz z j c)) (E:H[i]?=some (.blk e cs)) (f:jg3 T cs m=some (.arr ty z xs::r)) (q:szT T ty=sz) (G:zt4 T P t (zv6 T ty (xs.getD j (yb5 T ty))) c=some a)
  (h:Sim T w0 S0 ⟨F,H⟩ F' w S φ) (s:i∈rd) (K: ∀v,QR P F' o S φ rd w v->VR T w S φ a v->okA H a->Z):Z:=by
 obtain ⟨v,I,g,A,V,rfl⟩:=v4 h.fr D;obtain ⟨X,Y,l,u,J,a3,a4,L,M⟩:=gg5 (h.ents i _ E) f;rw [A] at u;simp only [X0,Addr.mk.injEq,and_true] at u;subst u;subst q;have d:=M.cut (j*szT T ty) (szT T ty);rw [yk7 (w6 T ty) (zo2 (yb5 T ty) (show j<xs.length by omega))] at d;have N:Rg w (some ⟨g,m+j*szT T ty,none⟩) ((l.drop (j*szT T ty)).take (szT T ty)):=Rg.sub L _ _ _ fun _=>rfl;exact qk0 B p (b:=g) (o0:=m+j*szT T ty) (c:=c) (by rw [I,V0]) (fun O _ y=>Rg.same N (show O.heap[g]?=w.heap[g]? from y i s _ A J.lt)) (CellsR.vrl d) (yu3 _ _) (yu2 _ _) G K
def gj2 {Z:Prop} {t:TypeId} {x:Operand} (m:dec ops k n F'=some o) (f:o.op=.load t x) {p a:AV T.U} (q:aev T F x=some p) (d:loadA T P t H p=some a) (h:Sim T w0 S0 ⟨F,H⟩ F' w S φ) (g: ∀i∈p.ids,i∈rd) (K: ∀v,QR P F' o S φ rd w v->VR T w S φ a v->okA H a->Z):Z:=by
 unfold loadA at d;split at d
 ·split at d
  ·rename_i e cs j;split at d
   ·cases d
   ·rename_i s;exact vh7 m f q j (fun i sz A c e=>s i sz A c (e▸d)) d h (g _ (by simp [AV.ids])) K
  ·cases d
 ·split at d
  ·rename_i e cs j;split at d
   ·rename_i b r l;split at d
    ·rename_i ty D xs B;have:=zt7 B;subst this;split at d
     ·rename_i u;rw [X3] at u;have y:=X1 u.1;have z:=X1 u.2;subst y;exact qt3 m f q j l z d h (g _ (by simp [AV.ids])) K
     ·cases d
    ·cases d
   ·cases d
  ·cases d
 ·split at d
  ·rename_i e ty xs j;exact qt4 m f q j d h (g _ (by simp [AV.ids])) K
  ·cases d
 ·exact qt5 m f q d h K
 ·cases d
def gf3 {t x y} (r:dec ops k n F'=some o) (f:o.op=.store t x y) (d:o.dst=none) {p a H1} (s:aev T F x=some p) (u:aev T F y=some a) (b:jm4 T P t H p a=some H1) (h:Sim T w0 S0 ⟨F,H⟩ F' w S φ) (K:zz0 P ops Q (k+1) n ds w0 S0 (⟨F,H1⟩:St T)):WR P ops Q k n ds F' w:=by
 unfold jm4 at b;split at b
 ·split at b
  ·rename_i e cs j;split at b
   ·rename_i z m;simp only [X0] at b;subst b;obtain ⟨X,A,g,D,rfl⟩:=v4 h.fr s;exact yw9 r f d A D u j (fun vs v E q=>vl3 m E q) h K
   ·cases b
  ·cases b
 ·rename_i i1 V G n1 Y c1;split at b
  ·rename_i e cs j;split at b
   ·rename_i l m I;split at b
    ·rename_i z Z;simp only [X0] at b;subst b;obtain ⟨X,A,g,D,J,rfl⟩:=v4 h.fr s;obtain ⟨ii,hii,U,f2,f3,f4⟩:=yf4 m;refine yw9 r f d A D u j (fun vs v E q=>?_) h K;have L:=zt3 I (zj7 U q);have M:=(zj7 U q).len T;obtain ⟨g1,g2,g3⟩:=BR.turn (us:=v.cells.toList) (ex:= []) Z E fun l1 l2 B N hB=>qt7 N hB J L;refine ⟨g1,fun i j=>(g3 i j).imp id (fun h=>absurd h (by simp)),fun c0 hcs=>?_⟩;exact qr9 m q (c:=c0) (p:=V+(Y*G+c1)) (by rw [M];omega)
    ·cases b
   ·cases b
  ·cases b
 ·split at b
  ·rename_i e ty xs j;split at b
   ·rename_i m I;split at b
    ·rename_i y' O;simp only [X0] at b;subst b;exact jz3 r f d s u j m I O h K
    ·cases b
   ·cases b
  ·cases b
 ·cases b
end
end Go.X
