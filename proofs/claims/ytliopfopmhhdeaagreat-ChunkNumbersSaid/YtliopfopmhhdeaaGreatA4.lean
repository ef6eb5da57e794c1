import Derived.Test.YtliopfopmhhdeaaGreatA3
set_option linter.defProp false
namespace Go.X
open Go.RowKit Go.V
section
variable {T:Tab} {P:Program} {w w':World} {S S':List Nat} {φ φ':Nat->RA} {w0:World} {S0:Ow} {F:AF T} {H:List (Ent T.U)} {F':PF}
variable {rd:List Nat} {ops:Array Oper} {Q:Exit->Act->World->Prop} {k n:Nat} {ds:List Deferred} {o:Oper}
def zf0 {t n sz} (h:zg6 P t=some (n,sz)): ∃e a,P.underlying t=some (.array n e)/\P.info? e=some a/\a.size=sz/\ ∀w,(sizeOf e).run P w=.ok sz w:=by
 unfold zg6 at h;split at h
 ·rename_i m e c;split at h
  ·rename_i a b;simp only [X0,X7] at h;obtain ⟨rfl,rfl⟩:=h;exact ⟨e,a,c,b,rfl,fun w=>by simp [sizeOf,typeInfo,b]⟩
  ·cases h
 ·cases h
def zw0 (b o1 d:Nat):(⟨b,o1,none⟩:Addr).add d=⟨b,o1+d,none⟩:=by unfold Addr.add;split<;>simp_all
def QR.indexArr {t:TypeId} {x y:Operand} {b o1 n0 sz:Nat} {kk:IntKind} {i:Int} (h0:dec ops k n F'=some o) (hop:o.op=.indexAddr t x y) (hai:zg6 P t=some (n0,sz)) (hx:ev F' x=some (.pointer (some ⟨b,o1,none⟩))) (hy:ev F' y=some (.int kk i)) (hi:0<=i/\i<(n0:Int)):
  QR P F' o S φ rd w (.pointer (some ⟨b,o1+i.toNat*sz,none⟩)):=by
 obtain ⟨e,inf,hu,_,_,hs⟩:=zf0 hai;intro w1 _ _;have h1:=hi.1;have h2:=hi.2;simp [execOp,hop,j8 hx,j8 hy,Instr.indexAt,asIntOf,run_underlying hu,Instr.sureAddr,h1,h2,hs,zw0]
def vt5 {Z:Prop} {R:Type} {r:R} {t:TypeId} {x y:Operand} {n0 sz:Nat} (hd:dec ops k n F'=some o) (hop:o.op=.indexAddr t x y) (hai:zg6 P t=some (n0,sz)) {s:AV T.U} {kk:IntKind} {j:Int} (hx:aev T F x=some s) (hy:aev T F y=some (cI T kk j)) {K0:AV T.U->Option R} (hK0:yd4 T n0 sz H s j K0=some r)
  (h:Sim T w0 S0 ⟨F,H⟩ F' w S φ) (K: ∀a v,K0 a=some r->QR P F' o S φ rd w v->VR T w S φ a v->okA H a->Z):Z:=by
 obtain ⟨X,h1,h2⟩:=j7 h.fr hx;obtain ⟨Y,h3,h4⟩:=j7 h.fr hy;have e:=v8 h4;subst e;have hok:=zb9 h hx;unfold yd4 at hK0;split at hK0
 ·rename_i i o1;obtain ⟨g,hg,rfl⟩:=h2;split at hK0
  ·rename_i e cs hi;split at hK0
   ·rename_i b r hl;split at hK0
    ·rename_i ty m xs hb;have:=zt5 hb;subst this;split at hK0
     ·rename_i hm;rw [X3] at hm;have hm1:=X1 hm.1;have hm2:=X1 hm.2;obtain ⟨hj,hK⟩:=v6 hK0;exact K _ _ hK (QR.indexArr hd hop hai h1 h3 hj) ⟨g,hg,by omega,by simp⟩ ⟨hok.1,trivial⟩
     ·cases hK0
    ·obtain ⟨hj,hK⟩:=v6 hK0;exact K _ _ hK (QR.indexArr hd hop hai h1 h3 hj) ⟨g,hg,rfl⟩ ⟨hok.1,trivial⟩
   ·cases hK0
  ·cases hK0
 ·rename_i e xs k1 c;split at hK0
  ·rename_i hm;rw [X3] at hm;have hm1:=X1 hm.1;have hm2:=X1 hm.2;obtain ⟨hj,hK1⟩:=v6 hK0;obtain ⟨hj2,hK⟩:=v6 hK1;obtain ⟨ad,cap,hc,hk,rfl⟩:=h2;subst hm1;subst hm2;exact K _ _ hK (QR.indexArr hd hop hai h1 h3 hj) ⟨ad,cap,hc,hj2,by simp [V8,V2]⟩ ⟨hok.1,trivial⟩
  ·cases hK0
 ·rename_i i s k1 c;split at hK0
  ·rename_i e ty xs hi;split at hK0
   ·rename_i hm;rw [X3,X3] at hm;have hm1:=X1 hm.1;have hm2:=X1 hm.2.1;have hm3:=X1 hm.2.2;obtain ⟨hj,hK1⟩:=v6 hK0;obtain ⟨hj2,hK⟩:=v6 hK1;obtain ⟨g,hg,rfl⟩:=h2;subst hm1;subst hm2;subst hm3;refine K _ _ hK (QR.indexArr hd hop hai h1 h3 hj) ⟨g,hg,by simp [V8,V2]⟩ ⟨hok.1,?_⟩;intro e1 t1 ys hy1;have hi':H[i]?=some (.row e ty xs):=hi;rw [hi'] at hy1;simp only [X0,Ent.row.injEq] at hy1;obtain ⟨rfl,rfl,hh⟩:=hy1;have:=eq_of_heq hh;subst this;exact ⟨hj2,rfl⟩
   ·cases hK0
  ·cases hK0
 ·cases hK0
def vp9 (P:Program) (t:TypeId):Option (Nat×Nat):=match P.underlying t with|some (.pointer a)=>zg6 P a|_=>zg6 P t
def je4 {n0:Nat} {l h:Option Int} {kl kh:IntKind} (hj:0<=l.getD 0/\l.getD 0<=h.getD n0/\h.getD n0<=(n0:Int)) (w:World):(Instr.sliceBounds false n0 n0 (l.map (Value.int kl)) (h.map (Value.int kh)) none).run P w=.ok ((l.getD 0).toNat,(h.getD n0).toNat,n0) w:=by
 obtain ⟨h1,h2,h3⟩:=hj;cases l<;>cases h<;>simp only [N9,V3] at h1 h2 h3⊢
 ·simp [Instr.sliceBounds]
 ·rename_i b;simp [Instr.sliceBounds,Instr.sliceBound,asIntOf,h2,h3]
 ·rename_i a;simp [Instr.sliceBounds,Instr.sliceBound,asIntOf,h1,h2]
 ·rename_i a b;have e:a<=((b.toNat:Nat):Int):=by omega
  have e2:0<=b:=by omega
  have e3: ¬max b 0<a:=by omega
  simp [Instr.sliceBounds,Instr.sliceBound,asIntOf,h1,e2,h3,e,e3]
def QR.sliceArr {t:TypeId} {x:Operand} {lo hi:Option Operand} {b o1 n0 sz:Nat} {l m:Option Int} {kl kh:IntKind} (h0:dec ops k n F'=some o) (hop:o.op=.slice t x lo hi none) (hai:vp9 P t=some (n0,sz)) (hx:ev F' x=some (.pointer (some ⟨b,o1,none⟩)))
  (e1:lo.map (evD F')=l.map (Value.int kl)) (e2:hi.map (evD F')=m.map (Value.int kh)) (hj:0<=l.getD 0/\l.getD 0<=m.getD n0/\m.getD n0<=(n0:Int)):
  QR P F' o S φ rd w (.slice (some (if n0=(l.getD 0).toNat then ⟨b,o1,none⟩ else ⟨b,o1+(l.getD 0).toNat*sz,none⟩)) ((m.getD n0).toNat-(l.getD 0).toNat) (n0-(l.getD 0).toNat)):=by
 intro w1 _ _;have hb:=je4 (P:=P) (kl:=kl) (kh:=kh) hj w1;unfold vp9 at hai;split at hai
 ·rename_i a hu;obtain ⟨e,inf,hu2,_,_,hs⟩:=zf0 hai;have:(Instr.sliceAt t (.pointer (some ⟨b,o1,none⟩)) (l.map (Value.int kl)) (m.map (Value.int kh)) none).run P w1=.ok (.slice (some (if n0=(l.getD 0).toNat then ⟨b,o1,none⟩ else ⟨b,o1+(l.getD 0).toNat*sz,none⟩)) ((m.getD n0).toNat-(l.getD 0).toNat) (n0-(l.getD 0).toNat)) w1:=by
   simp [Instr.sliceAt,Instr.slice,run_underlying hu,run_underlying hu2,asAddr,hb,hs,zw0]
  simp [execOp,hop,j8 hx,e1,e2,this]
 ·obtain ⟨e,inf,hu2,_,_,hs⟩:=zf0 hai;have:(Instr.sliceAt t (.pointer (some ⟨b,o1,none⟩)) (l.map (Value.int kl)) (m.map (Value.int kh)) none).run P w1=.ok (.slice (some (if n0=(l.getD 0).toNat then ⟨b,o1,none⟩ else ⟨b,o1+(l.getD 0).toNat*sz,none⟩)) ((m.getD n0).toNat-(l.getD 0).toNat) (n0-(l.getD 0).toNat)) w1:=by
   simp [Instr.sliceAt,run_underlying hu2,Instr.sureAddr,hb,hs,zw0]
  simp [execOp,hop,j8 hx,e1,e2,this]
def vz5 {Z:Prop} {R:Type} {r:R} {t:TypeId} {x:Operand} {lo hi:Option Operand} {n0 sz:Nat} (hd:dec ops k n F'=some o) (hop:o.op=.slice t x lo hi none) (hai:vp9 P t=some (n0,sz)) {s:AV T.U} {l m:Option Int} (hx:aev T F x=some s) (hlo:jw1 F lo=some l) (hhi:jw1 F hi=some m)
  {K0:AV T.U->Option R} (hK0:yo7 T n0 sz H s l m K0=some r) (h:Sim T w0 S0 ⟨F,H⟩ F' w S φ) (K: ∀a v,K0 a=some r->QR P F' o S φ rd w v->VR T w S φ a v->okA H a->Z):Z:=by
 obtain ⟨X,h1,h2⟩:=j7 h.fr hx;obtain ⟨kl,e1⟩:=yt4 h.fr hlo;obtain ⟨kh,e2⟩:=yt4 h.fr hhi;have hok:=zb9 h hx;unfold yo7 at hK0;simp only at hK0;split at hK0
 ·rename_i i o1;obtain ⟨g,hg,rfl⟩:=h2;split at hK0
  ·rename_i e cs hi;split at hK0
   ·rename_i b r hl;split at hK0
    ·rename_i ty mm xs hb;have:=zt5 hb;subst this;split at hK0
     ·rename_i hm;rw [X3] at hm;have hm1:=X1 hm.1;have hm2:=X1 hm.2;obtain ⟨hj,hK⟩:=v6 hK0;refine K (.asl i o1 sz n0 (l.getD 0).toNat ((m.getD n0).toNat-(l.getD 0).toNat)) _ hK (QR.sliceArr hd hop hai h1 e1 e2 hj) ⟨g,_,hg,rfl,by omega,?_⟩ ⟨hok.1,trivial⟩;split
      ·left;omega
      ·right;rfl
     ·cases hK0
    ·cases hK0
   ·cases hK0
  ·cases hK0
 ·rename_i e xs k1 c;split at hK0
  ·rename_i hm;rw [X3,X3] at hm;have hm1:=X1 hm.1;have hm2:=X1 hm.2.1;have hm3:=X1 hm.2.2;subst hm1;subst hm2;subst hm3;obtain ⟨hn,hK1⟩:=v6 hK0;obtain ⟨hj,hK⟩:=v6 hK1;obtain ⟨ad,cap,hc,hk,rfl⟩:=h2;refine K (.cell ⟨.list e,_⟩) _ hK (QR.sliceArr hd hop hai h1 e1 e2 hj) ?_ ⟨fun i hi=>(by cases hi),trivial⟩;show CR T w S (.list e) (List.take ((m.getD n0).toNat-(l.getD 0).toNat) (List.drop (l.getD 0).toNat xs)) _;have had:ad=some ⟨bk ad,of ad,none⟩:=by
    generalize hv:Value.slice ad xs.length cap=v at hc;cases hc with
    |list _ _ ad' cap' u hcap hnil had hcell hrel=>
     simp only [Value.slice.injEq,true_and] at hv;obtain ⟨rfl,rfl⟩:=hv;exact (had (by intro e;subst e;simp at hk)).1
   have h3:=CR.sub hc (i:=0) (m:=n0) (by omega);rw [qw6,N0] at h3;have hl3:(xs.take n0).length=n0:=by rw [Y6];omega
   have h4:CR T w S (.list e) (xs.take n0) (.slice ad (xs.take n0).length n0):=CR.recap (by rw [hl3];exact h3) (by omega) (by intro e;rw [e] at had;cases had);have h5:=CR.sub h4 (i:=(l.getD 0).toNat) (m:=(m.getD n0).toNat-(l.getD 0).toNat) (by omega);rw [List.drop_take,List.take_take,V6 (by omega)] at h5;have hcut:zj0 ad n0 (l.getD 0).toNat (szT T e)=some (if n0=(l.getD 0).toNat then ⟨bk ad,of ad+(0*szT T e+0),none⟩ else ⟨bk ad,of ad+(0*szT T e+0)+(l.getD 0).toNat*szT T e,none⟩):=by
    unfold zj0;generalize bk ad=b at *;generalize of ad=o1 at *;subst had;split
    ·simp
    ·simp [zw0]
   rwa [hcut] at h5
  ·cases hK0
 ·cases hK0
def ki9 {Z:Prop} {R:Type} {r:R} {t:TypeId} {x:Operand} {n0 sz:Nat} (hop:o.op=.sliceToArrayPointer t x) (hai:zg6 P t=some (n0,sz)) {s:AV T.U} (hx:aev T F x=some s)
  {K0:AV T.U->Option R} (hK0:yn0 T n0 sz H s K0=some r) (h:Sim T w0 S0 ⟨F,H⟩ F' w S φ) (K: ∀a v,K0 a=some r->QR P F' o S φ rd w v->VR T w S φ a v->okA H a->Z):Z:=by
 obtain ⟨X,h1,h2⟩:=j7 h.fr hx;have hok:=zb9 h hx;obtain ⟨e0,inf,hu,_,_,_⟩:=zf0 hai;have run: ∀(ad:Option Addr) (m cap:Nat),X=.slice ad m cap->n0<=m->QR P F' o S φ rd w (.pointer ad):=by
  intro ad m cap e hm w1 _ _;subst e;simp [execOp,hop,j8 h1,Instr.arrayAt,run_underlying hu,Nat.not_lt.2 hm]
 unfold yn0 at hK0;split at hK0
 ·rename_i e xs;split at hK0
  ·rename_i hm;rw [X3] at hm;have hm2:=Y1 hm.2;obtain ⟨hn,hK⟩:=v6 hK0;have h2:CR T w S (.list e) xs X:=h2;have h2':=h2;cases h2' with
   |list _ _ ad cap u hcap hnil had hcell hrel=>
    have hq:=run ad _ _ rfl hn;have ha:=(had (by intro e;subst e;simp at hn;omega)).1;refine K _ _ hK hq ⟨ad,cap,h2,by omega,?_⟩ ⟨fun i hi=>(by cases hi),trivial⟩;have ha2:ad=some ⟨bk ad,of ad+(0*szT T e+0),none⟩:=by rw [M4];exact ha
    exact congrArg Value.pointer ha2
  ·cases hK0
 ·rename_i i;split at hK0
  ·rename_i e ty xs hi;split at hK0
   ·rename_i hm;rw [X3] at hm;have hm1:=X1 hm.1;have hm2:=Y1 hm.2;subst hm1;obtain ⟨hn,hK⟩:=v6 hK0;rw [VR] at h2;subst h2;obtain ⟨g,c,B,vals,a1,a2,_⟩:=jd6 h hi (by omega);refine K _ _ hK (run _ _ _ rfl (by omega)) ⟨g,a1,by rw [a1];simp⟩ ⟨hok.1,?_⟩;intro e1 t1 ys hy1;have hi':H[i]?=some (.row e ty xs):=hi;rw [hi'] at hy1;simp only [X0,Ent.row.injEq] at hy1;obtain ⟨rfl,rfl,hh⟩:=hy1;have:=eq_of_heq hh;subst this;exact ⟨by omega,rfl⟩
   ·cases hK0
  ·cases hK0
 ·cases hK0
def vz7 {t e:TypeId} {n0:Nat} (hu:P.underlying t=some (.array n0 e)):zj9 P t=false/\(P.underlying t).isSome=true:=by
 unfold zj9;rw [hu];exact ⟨rfl,rfl⟩
def qh4 {α e:Type} {f:α->List e} {sz:Nat} (c: ∀y,(f y).length=sz) (l:List α) (a b:Nat):((l.flatMap f).drop (a*sz)).take (b*sz)=((l.drop a).take b).flatMap f:=by
 have g:(l.flatMap f).drop (a*sz)=(l.drop a).flatMap f:=by
  induction l generalizing a with
  |nil=>simp
  |cons x r d=>
   cases a with
   |zero=>simp
   |succ a=>rw [V5,List.drop_succ_cons,J0,J8,List.drop_append,c,S8 (by rw [c];omega),M9,M2,d]
 rw [g];generalize l.drop a=l;induction l generalizing b with
 |nil=>simp
 |cons x r d=>
  cases b with
  |zero=>simp
  |succ b=>rw [V5,List.take_succ_cons,V5,J0,J8,List.take_append,c,Q4 (by rw [c];omega),M9,d]
def kk8 {Z:Prop} {R:Type} {r:R} {t:TypeId} {x:Operand} {n0 sz:Nat} (hd:dec ops k n F'=some o) (hop:o.op=.load t x) (hai:zg6 P t=some (n0,sz)) {ok:Bool} (hk:ok=true->yv5 P t=some (n0*sz)) {s:AV T.U} (hx:aev T F x=some s)
  {K0:AV T.U->Option R} {D:Option R} (hK0:yl6 T n0 sz ok H s K0 D=some r) (h:Sim T w0 S0 ⟨F,H⟩ F' w S φ) (hrd: ∀i∈s.ids,i∈rd) (K: ∀a v,K0 a=some r->QR P F' o S φ rd w v->VR T w S φ a v->okA H a->Z) (KD:D=some r->Z):Z:=by
 obtain ⟨X,h1,h2⟩:=j7 h.fr hx;obtain ⟨e0,inf,hu,_,_,_⟩:=zf0 hai;obtain ⟨u1,u2⟩:=vz7 hu;unfold yl6 at hK0;split at hK0
 ·rename_i e xs k1 c;split at hK0
  ·rename_i hm;rw [X3,X3] at hm;have hm1:=X1 hm.2.1;have hm2:=X1 hm.2.2;subst hm1;subst hm2;obtain ⟨hle,hK⟩:=v6 hK0;obtain ⟨ad,cap,hc,hk1,rfl⟩:=h2;have had:bk ad∉S:=by
    generalize hv:Value.slice ad xs.length cap=v at hc;cases hc with
    |list _ _ ad' cap' u hcap hnil had hcell hrel=>
     simp only [Value.slice.injEq,true_and] at hv;obtain ⟨rfl,rfl⟩:=hv;exact (had (by intro e;subst e;simp at hk1)).2.2
   obtain ⟨_,_,vals,hr,hcr⟩:=jk6 hc;have hcut:=hcr.cut (k1*szT T e) (n0*szT T e);rw [qh4 (k7 T e)] at hcut;have hlen:((xs.drop k1).take n0).length=n0:=by rw [Y6,Q7];omega
   have hvl:=hcut.1;rw [flatMap_lenT (k7 T e),hlen] at hvl;exact K _ _ hK (QR.loadA hd (fun w1 hc1 _=>hr.chg hc1 (.inl had)) (by rw [zx0 hd hop,j8 h1,J6]) u1 u2 (hk hm.1) _ hvl.symm rfl) ⟨_,rfl,hlen,hcut⟩ ⟨fun i hi=>(by cases hi),trivial⟩
  ·exact KD hK0
 ·rename_i i s k1 c;split at hK0
  ·rename_i e ty xs hi;split at hK0
   ·rename_i hm;rw [X3,X3,X3] at hm;have hm1:=X1 hm.2.1;have hm2:=X1 hm.2.2.1;have hm3:=X1 hm.2.2.2;subst hm1;subst hm2;subst hm3;obtain ⟨hle,hK⟩:=v6 hK0;obtain ⟨hj,_⟩:=(zb9 h hx).2 e ty xs hi;obtain ⟨g,hg,rfl⟩:=h2;obtain ⟨g',carr,B,vals,a1,a2,a3,a4,a5,a6,a7,a8,_⟩:=jd6 h hi (by omega);rw [hg] at a1;simp only [X0,Addr.mk.injEq,and_true] at a1;subst a1;have hr:Rg w (φ i).ad vals:=a3.rg;rw [hg] at hr;have hcut:=a7.cut (k1*szT T ty) (n0*szT T ty);rw [qh4 (k7 T ty)] at hcut;have hlen:((xs.drop k1).take n0).length=n0:=by rw [Y6,Q7];omega
    have hvl:=hcut.1;rw [flatMap_lenT (k7 T ty),hlen] at hvl;exact K _ _ hK (QR.loadA (ad:=some ⟨g,0,none⟩) hd (fun w1 _ hsm=>Rg.same hr (show w1.heap[g]?=w.heap[g]? from hsm i (hrd i (by simp [AV.ids])) _ hg a4.lt)) (by rw [zx0 hd hop,j8 h1];rfl) u1 u2 (hk hm.1) _ hvl.symm rfl) ⟨_,rfl,hlen,hcut⟩ ⟨fun i hi=>(by cases hi),trivial⟩
   ·exact KD hK0
  ·exact KD hK0
 ·exact KD hK0
def yo2 {R:Type} (T:Tab) (n sz:Nat) (a:AV T.U) (j:Int) (K:AV T.U->Option R):Option R:=
 match a with
 | .arr ty m xs=>match Nat.beq m n&&(Nat.beq (szT T ty) sz&&(ty.one&&Nat.beq sz 1)) with
  |true=>if 0<=j/\j<((n:Nat):Int) then K (.cell ⟨ty,xs.getD j.toNat (zz9 T ty)⟩) else none
  |false=>none
 | .agg (.cell c::cs)=>match c.t.one&&Nat.beq sz 1,ji6 T c.t n (.cell c::cs) with
  |true,some xs=>if 0<=j/\j<((n:Nat):Int) then K (.cell ⟨c.t,xs.getD j.toNat (zz9 T c.t)⟩) else none
  |_,_=>none
 |_=>none
def vw4 {e:TypeId} {inf:TypeInfo} {d:TypeDesc} (hi:P.info? e=some inf) (hs:inf.size=1) (hu:P.underlying e=some d) (hd:yb5 d=false) {cs:Array Value} {j:Nat} {v:Value} (hj:cs[j]?=some v) (w:World):(part e cs j).run P w=.ok v w:=by
 refine yl9 ?_ w;unfold yu8;simp only [hi,hu,hd];exact hj
def vv8 {t} (h:t.one=true):szT T t=1:=by cases t<;>first|rfl|cases h
def vt6 {Z:Prop} {R:Type} {r:R} {t e:TypeId} {d:TypeDesc} {x y:Operand} {n0 sz:Nat} (hop:o.op=.index t x y) (hai:zg6 P t=some (n0,sz)) (hel:P.underlying t=some (.array n0 e)) (hu:P.underlying e=some d) (had:yb5 d=false) {s:AV T.U} {kk:IntKind} {j:Int} (hx:aev T F x=some s) (hy:aev T F y=some (cI T kk j))
  {K0:AV T.U->Option R} (hK0:yo2 T n0 sz s j K0=some r) (h:Sim T w0 S0 ⟨F,H⟩ F' w S φ) (K: ∀a v,K0 a=some r->QR P F' o S φ rd w v->VR T w S φ a v->okA H a->Z):Z:=by
 obtain ⟨X,h1,h2⟩:=j7 h.fr hx;obtain ⟨Y,h3,h4⟩:=j7 h.fr hy;have e1:=v8 h4;subst e1;obtain ⟨e0,inf,hu0,hinf,hsz,hs⟩:=zf0 hai;rw [hel] at hu0;simp only [X0,TypeDesc.array.injEq,true_and] at hu0;subst hu0;have go: ∀(ty:Ty) (xs:List (den T.U ty)) (us:Array Value),ty.one=true->sz=1->X=.agg us->CellsR T w S (xs.flatMap (zb1 T ty)) us.toList->xs.length=n0->(0<=j/\j<(n0:Int))->K0 (.cell ⟨ty,xs.getD j.toNat (zz9 T ty)⟩)=some r->Z:=by
  intro ty xs us hone hs1 hX hc hl hj hK;subst hX;have hjl:j.toNat<xs.length:=by omega
  have hg:=zn0 (zz9 T ty) hjl;have hfl:(xs.flatMap (zb1 T ty))[j.toNat]?=some ⟨ty,xs.getD j.toNat (zz9 T ty)⟩:=by
   have:=yh5 (k7 T ty) hg;rw [vv8 hone,Nat.mul_one,qh5 T hone] at this;have h5:=congrArg (·[0]?) this;simpa [Z3,Q6] using h5
  have hul:j.toNat<us.toList.length:=by rw [<-hc.1];exact (X2.1 hfl).1
  obtain ⟨u,hu1⟩: ∃u,us.toList[j.toNat]?=some u:=⟨_,Y0 hul⟩;have hcr:=hc.2 _ _ _ hfl hu1;refine K _ u hK (fun w1 _ _=>?_) hcr ⟨fun i hi=>(by cases hi),trivial⟩;have hp:=vw4 (P:=P) hinf (by rw [hsz,hs1]) hu had (cs:=us) (j:=j.toNat) (by simpa using hu1) w1;have b1:=hj.1;have b2:=hj.2;have hs:=hs w1;rw [hs1] at hs;simp [execOp,hop,j8 h1,j8 h3,Instr.index,asIntOf,run_underlying hel,b1,b2,hs,hp]
 unfold yo2 at hK0;split at hK0
 ·rename_i ty m xs;split at hK0
  ·rename_i hm;rw [X3,X3,X3] at hm;have hm1:=X1 hm.1;have hm4:=X1 hm.2.2.2;subst hm1;obtain ⟨hj,hK⟩:=v6 hK0;obtain ⟨us,rfl,hl,hc⟩:=h2;exact go ty xs us hm.2.2.1 hm4 rfl hc hl hj hK
  ·cases hK0
 ·rename_i c cs;split at hK0
  ·rename_i xs hm hr;rw [X3] at hm;have hm4:=X1 hm.2;obtain ⟨hj,hK⟩:=v6 hK0;obtain ⟨us,rfl,hc⟩:=h2;obtain ⟨q1,q2⟩:=yc5 hr hc;exact go c.t xs us hm.1 hm4 rfl q2 q1 hj hK
  ·cases hK0
 ·cases hK0
def vl6 {a b} (h:qy0 T a b=true):a=b:=by
 unfold qy0 at h;split at h
 ·rw [X3] at h;obtain ⟨d,c⟩:=h;have d:=za1 d;subst d;have c:=eq_of_beq (show (_==_)=true from c);exact congrArg (fun z=>AV.cell ⟨.int _,z⟩) c
 ·have c:=eq_of_beq (show (_==_)=true from h);exact congrArg (fun z=>AV.cell ⟨.bool,z⟩) c
 ·cases h
def ju6: ∀ {z r s},jo3 T z r=some s->r=z++s
 | [],r,s,h=>by simp only [jo3,X0] at h;exact h
 |_::_,[],s,h=>by cases h
 |a::z,b::r,s,h=>by
  unfold jo3 at h;split at h
  ·rename_i c;rw [<-vl6 c,ju6 h];rfl
  ·cases h
def ji5 {t x z} (b:z=(zb1 T t x).map .cell): ∀ {m r vs},jn8 T z m r=true->VRL T w S φ r vs->CellsR T w S ((List.replicate m x).flatMap (zb1 T t)) vs
 |0,r,vs,h,a=>by
  have:r= []:=by simpa [jn8] using h
  subst this;cases vs with
  |nil=>exact ⟨rfl,fun j c v h=>by simp at h⟩
  |cons v r=>exact a.elim
 |m+1,r,vs,h,a=>by
  unfold jn8 at h;split at h
  ·rename_i s f;have:=ju6 f;subst this;have d:=a.take T z.length;rw [List.take_left' rfl] at d;have e:=a.drop T z.length;rw [List.drop_left' rfl] at e;rw [List.replicate_succ,V5,<-List.take_append_drop z.length vs];refine CellsR.app ?_ (ji5 b h e);subst b;exact VRL.cells.1 d
  ·cases h
def vi2 {a:AV T.U} (h:qb6 a=true):a=.raw (.slice none 0 0):=by
 unfold qb6 at h;split at h
 ·rfl
 ·cases h
def qj1 {e:Ty}: ∀ {aS:List (AV T.U)} {vs:List Value},aS.all qb6=true->VRL T w S φ aS vs->CellsR T w S ((List.replicate aS.length ([]:List (den T.U e))).flatMap (zb1 T (.nl e))) vs
 | [],[],_,_=>⟨rfl,fun j c v h=>by cases h⟩
 | [],_::_,_,hv=>hv.elim
 |_::_,[],_,hv=>hv.elim
 |a::aS,v::vs,h,hv=>by
  rw [J1,X3] at h;have h1:=vi2 h.1;subst h1;have h2:v=.slice none 0 0:=hv.1;subst h2;show CellsR T w S (([⟨.nl e,([]:List (den T.U e))⟩]:List (Cell T.U))++(List.replicate aS.length ([]:List (den T.U e))).flatMap (zb1 T (.nl e))) ([.slice none 0 0]++vs);refine CellsR.app ?_ (qj1 h.2 hv.2);refine ⟨rfl,fun j c v hj hv=>?_⟩
  match j with
  |0=>
   simp only [Y4,X0] at hj hv;subst hj;subst hv;exact .nl e [] none 0 (.list e [] none 0 (fun _ _=>.slice none 0 0) (W8 0) (fun _=>⟨rfl,rfl⟩) (fun h=>absurd rfl h) (fun k j c h=>by simp at h) (fun k j c h=>by simp at h)) fun _=>⟨rfl,rfl⟩
  |j+1=>simp at hj
def qt5 {t:Ty} {m:Nat} {aS:List (AV T.U)} {xs:List (den T.U t)} {vs:List Value} (h:qx5 T m aS t=some xs) (hv:VRL T w S φ aS vs):xs.length=m/\CellsR T w S (xs.flatMap (zb1 T t)) vs:=by
 unfold qx5 at h;split at h
 ·split at h
  ·rename_i hb;rw [X3] at hb;simp only [X0] at h;subst h;have:=X1 hb.2;subst this;exact ⟨Z9,qj1 hb.1 hv⟩
  ·cases h
 ·cases h
def vg6 {t:Ty} {m:Nat} {aS:List (AV T.U)} {xs:List (den T.U t)} {vs:List Value} (h:kf1 T t m aS=some xs) (hv:VRL T w S φ aS vs):xs.length=m/\CellsR T w S (xs.flatMap (zb1 T t)) vs:=by
 unfold kf1 at h;split at h
 ·rename_i ys hys;simp only [X0] at h;subst h;exact qt5 hys hv
 split at h
 ·rename_i l hl;split at h
  ·rename_i x hx;split at h
   ·rename_i hr;simp only [X0] at h;subst h;exact ⟨Z9,ji5 (by rw [zo2 T hx];exact zs3 hl) hr hv⟩
   ·exact yc5 h hv
  ·cases h
 ·cases h
def yp8: ∀ {ls:Lay} {aS cs:List (AV T.U)},ys8 T ls aS=some cs->(∀i∈q7 cs,i∈q7 aS)/\ ∀ {w:World} {S:List Nat} {φ:Nat->RA} {vs:List Value},VRL T w S φ aS vs->BR T w S φ cs vs
 | [],[],cs,h=>by
  simp only [ys8,X0] at h;subst h;exact ⟨fun i hi=>hi,fun hv=>⟨hv,trivial⟩⟩
 | [],_::_,cs,h=>by cases h
 |none::r,[],cs,h=>by cases h
 |none::r,a::s,cs,h=>by
  unfold ys8 at h;simp only at h;split at h
  ·rename_i hn;split at h
   ·rename_i l hl;simp only [X0] at h;subst h;obtain ⟨h1,h2⟩:=yp8 hl;refine ⟨fun i hi=>?_,fun {w S φ vs} hv=>?_⟩
    ·rw [q7] at hi⊢;exact X4.2 ((X4.1 hi).imp id (h1 i))
    ·match vs,hv with
     |v::vs,hv=>
      have:=h2 hv.2;exact ⟨by rw [zg9,zq4 T hn];exact ⟨hv.1,this.1⟩,yb9 T hn,this.2⟩
   ·cases h
  ·cases h
 |some (t,m)::r,aS,cs,h=>by
  unfold ys8 at h;split at h
  ·rename_i xs l hx hl;simp only [X0] at h;subst h;obtain ⟨h1,h2⟩:=yp8 hl;refine ⟨fun i hi=>?_,fun {w S φ vs} hv=>?_⟩
   ·rw [q7] at hi;rcases X4.1 hi with hi|hi
    ·cases hi
    ·have:=h1 i hi;rw [<-List.take_append_drop (m*szT T t) aS,yj4];exact X4.2 (.inr this)
   ·obtain ⟨q1,q2⟩:=vg6 hx (hv.take T (m*szT T t));have q3:=h2 (hv.drop T (m*szT T t));refine ⟨?_,q1,q3.2⟩;rw [zg9,<-List.take_append_drop (m*szT T t) vs];exact VRL.app T (VRL.cells.2 q2) q3.1
  ·cases h
def qi1 {ls:Option Lay} {aS cs:List (AV T.U)} (h:kk6 T ls aS=some cs):(∀i∈q7 cs,i∈q7 aS)/\ ∀ {w:World} {S:List Nat} {φ:Nat->RA} {vs:List Value},VRL T w S φ aS vs->BR T w S φ cs vs:=by
 unfold kk6 at h;split at h
 ·split at h
  ·rename_i hn;simp only [X0] at h;subst h;exact ⟨fun i hi=>hi,fun hv=>BR.of T hv hn⟩
  ·cases h
 ·exact yp8 h
def vs0 {ls:Option Lay} {a:AV T.U} {cs:List (AV T.U)} (h:gd3 T ls a=some cs):(∀i∈q7 cs,i∈a.ids)/\ ∀ {w:World} {S:List Nat} {φ:Nat->RA} {v:Value},VR T w S φ a v->BR T w S φ cs v.cells.toList:=by
 unfold gd3 at h;split at h
 ·rename_i z hz;obtain ⟨t,m,xs⟩:=z;have:=zt5 hz;subst this;simp only [X0] at h;subst h;refine ⟨fun i hi=>hi,fun {w S φ v} hv=>?_⟩;obtain ⟨us,rfl,h1,h2⟩:=hv;refine ⟨?_,h1,trivial⟩;rw [zg9,zg9,J7];exact VRL.cells.2 h2
 ·split at h
  ·rename_i hok;obtain ⟨h1,h2⟩:=qi1 h;exact ⟨fun i hi=>by have:=h1 i hi;rwa [yf7 hok] at this,fun hv=>h2 (zj4 hok hv)⟩
  ·cases h
def vg2 {e:TypeId} (hd:dec ops k n F'=some o) (hop:o.op=.alloc e) {ls:Option Lay} {cs cs':List (AV T.U)} (hz:qe0 T P e=some cs) (hl:kk6 T ls cs=some cs') (h:Sim T w0 S0 ⟨F,H⟩ F' w S φ)
  (K:zq8 P ops Q (k+1) n ds w0 S0 (⟨za5 T F o.dst (.ptr H.length 0),H++ [.blk e cs']⟩:St T)):WR P ops Q k n ds F' w:=by
 unfold qe0 at hz;split at hz
 ·rename_i c hc;simp only [X0] at hz;subst hz;obtain ⟨g1,g2⟩:=qi1 hl;refine WR.alloc (qe5 hd hop) c hc fun g w' hN=>K _ _ ⟨g::S,zu8 φ H.length ⟨some ⟨g,0,none⟩,0,0,[]⟩,?_⟩;have h1:=h.add (r:=⟨some ⟨g,0,none⟩,0,0,[]⟩) hN.chg hN.fresh hN.blk.lt (fun a ha=>zw1 ha) (e:=.blk e cs')
   ⟨g,c,by rw [j6],hN.blk,by simp,g2 (yc1 T _)⟩ (by intro j hj;have:=g1 j hj;rw [yl8] at this;cases this)
  refine h1.slot ⟨g,by rw [j6],rfl⟩ ⟨by intro i hi;simp [AV.ids] at hi;subst hi;simp,trivial⟩
 ·cases hz
def ku8 {U:Nat->Type}:AV U->Bool| .ptr _ _=>true| .eptr _ _ _ _=>true| .lptr _ _ _ _=>true| .aptr _ _ _ _ _ _=>true| .fn (.func _) _ _=>true|_=>false
def vm0 {x} (c:o.op=.nilCheck x) {a} (h:ku8 a=true) {v} (d:ev F' x=some v) (e:VR T w S φ a v):QR P F' o S φ rd w v:=by
 intro i _ _;cases a<;>first|(cases h;done)|skip
 ·obtain ⟨g,_,rfl⟩:=e;simp [execOp,c,j8 d]
 ·obtain ⟨g,_,rfl⟩:=e;simp [execOp,c,j8 d]
 ·obtain ⟨ad,cap,_,_,rfl⟩:=e;simp [execOp,c,j8 d]
 ·rename_i f a b;cases f<;>first|(cases h;done)|skip
  obtain ⟨j,l,rfl,_⟩:=e;simp [execOp,c,j8 d]
 ·obtain ⟨g,_,_,rfl⟩:=e;simp [execOp,c,j8 d]
end
end Go.X
namespace Go.X
open Go.RowKit Go.V
section
variable {T:Tab} {P:Program} {w w':World} {S S':List Nat} {φ φ':Nat->RA} {w0:World} {S0:Ow} {F:AF T} {H:List (Ent T.U)} {F':PF}
variable {rd:List Nat} {ops:Array Oper} {Q:Exit->Act->World->Prop} {k n:Nat} {ds:List Deferred} {o:Oper}
def zg3 {t a b c} (h:yw9 P t=some (c,a,b)):yw8 P t=some (a,b,.int c):=by
 unfold yw9 at h;split at h
 ·rename_i d e f;split at h
  ·rename_i i g;simp only [X0,X7] at h;obtain ⟨rfl,rfl,rfl⟩:=h;simp [yw8,f,g]
  ·cases h
 ·cases h
def vv3 {t m p d} (q:dec ops k n F'=some o) (b:o.op=.makeMap t none) (_:yw9 P t=some (d,m,p)) (h:Sim T w0 S0 ⟨F,H⟩ F' w S φ)
  (K:zq8 P ops Q (k+1) n ds w0 S0 (⟨za5 T F o.dst (.mp H.length),H++ [.map d []]⟩:St T)):WR P ops Q k n ds F' w:=by
 have f:zt8 ops k n F'=some (o.dst,t):=by
  unfold zt8;rw [q];cases o;simp only at b;subst b;rfl
 refine WR.mkMap f fun g w' c=>K _ _ ⟨g::S,zu8 φ H.length ⟨some ⟨g,0,none⟩,0,0,[]⟩,?_⟩;have s:=h.add (r:=⟨some ⟨g,0,none⟩,0,0,[]⟩) c.chg c.fresh c.blk.lt (fun a u=>zw1 u) (e:=.map d [])
  ⟨g,#[],0,by rw [j6],c.blk,by simp,trivial,MapKept.stamped_empty 0⟩ (by intro j v;cases v)
 exact s.slot ⟨g,by rw [j6],rfl⟩ ⟨by intro i l;simp [AV.ids] at l;subst l;simp,trivial⟩
def vj8 {t m p d ty} (q:dec ops k n F'=some o) (b:o.op=.makeMap t none) (_:yw9 P t=some (d,m,p)) (h:Sim T w0 S0 ⟨F,H⟩ F' w S φ)
  (K:zq8 P ops Q (k+1) n ds w0 S0 (⟨za5 T F o.dst (.mp H.length),H++ [.tmap d ty []]⟩:St T)):WR P ops Q k n ds F' w:=by
 have f:zt8 ops k n F'=some (o.dst,t):=by
  unfold zt8;rw [q];cases o;simp only at b;subst b;rfl
 refine WR.mkMap f fun g w' c=>K _ _ ⟨g::S,zu8 φ H.length ⟨some ⟨g,0,none⟩,0,0,[]⟩,?_⟩;have s:=h.add (r:=⟨some ⟨g,0,none⟩,0,0,[]⟩) c.chg c.fresh c.blk.lt (fun a u=>zw1 u) (e:=.tmap d ty [])
  ⟨g,#[],0,by rw [j6],c.blk,by simp,trivial,MapKept.stamped_empty 0⟩ (by intro j v;cases v)
 exact s.slot ⟨g,by rw [j6],rfl⟩ ⟨by intro i l;simp [AV.ids] at l;subst l;simp,trivial⟩
def TR.find {kd:IntKind} {ty:Ty} {x:Int}: ∀ {es:List (Int×den T.U ty)} {l:List MapEntry} (i:Nat),TR T w S kd ty es l->
  (Instr.findNow (.int kd) (.int kd x) l i=some none/\zg0 es x=false/\zc2 T ty es x=zz9 T ty/\(∀a,k9 es x a=es++ [(x,a)])/\ze0 es x=es/\ ∀e∈l,e.key≠.int kd x)\/
  ∃j e,Instr.findNow (.int kd) (.int kd x) l i=some (some (i+j,e.val))/\l[j]?=some e/\e.key=.int kd x/\CR T w S ty (zc2 T ty es x) e.val/\zg0 es x=true/\(∀a v,CR T w S ty a v->TR T w S kd ty (k9 es x a) (l.modify j fun e=> {e with key:=.int kd x,val:=v}))/\TR T w S kd ty (ze0 es x) (l.eraseIdx j)
 | [],[],_,_=>.inl ⟨rfl,rfl,rfl,fun _=>rfl,rfl,by simp⟩
 | [],_::_,_,h=>h.elim
 |_::_,[],_,h=>h.elim
 |(y,a)::r,e::l,i,h=>by
  obtain ⟨h1,h2,h3⟩:=h;by_cases hx:x=y
  ·subst hx;refine .inr ⟨0,e,?_,rfl,h1,?_,?_,?_,?_⟩
   ·unfold Instr.findNow;rw [h1];simp [Instr.sameNow]
   ·simpa [zc2] using h2
   ·simp [zg0]
   ·intro b v hb;simp only [k9,if_true];exact ⟨rfl,hb,h3⟩
   ·simp only [ze0,if_true];exact h3
  ·have hf:Instr.findNow (.int kd) (.int kd x) (e::l) i=Instr.findNow (.int kd) (.int kd x) l (i+1):=by
    rw [Instr.findNow,h1];simp only [Instr.sameNow,if_true];rw [show (x==y)=false from by simpa using hx]
   rcases TR.find (x:=x) (i+1) h3 with ⟨g1,g2,g3,g4,g5,g6⟩|⟨j,e',g1,g2,g3,g4,g5,g6,g7⟩
   ·refine .inl ⟨hf.trans g1,by simp [zg0,hx,g2],by simp [zc2,hx,g3],fun b=>by simp [k9,hx,g4],by simp [ze0,hx,g5],?_⟩;intro q hq;rcases Z0.1 hq with rfl|hq
    ·rw [h1];simp;exact fun e=>hx e.symm
    ·exact g6 q hq
   ·refine .inr ⟨j+1,e',by rw [hf,g1];simp;omega,by simpa using g2,g3,by simpa [zc2,hx] using g4,by simp [zg0,hx,g5],fun b v hb=>?_,?_⟩
    ·simp only [k9,hx,if_false];exact ⟨h1,h2,g6 b v hb⟩
    ·simp only [ze0,hx,if_false];exact ⟨h1,h2,g7⟩
def TR.snoc {b ty x a v c} (d:CR T w S ty a v): ∀ {es l},TR T w S b ty es l->TR T w S b ty (es++ [(x,a)]) (l++ [{key:=.int b x,val:=v,born:=c}])
 | [],[],_=>⟨rfl,d,trivial⟩
 | [],_::_,h=>h.elim
 |_::_,[],h=>h.elim
 |(_,_)::_,_::_,h=>⟨h.1,h.2.1,TR.snoc d h.2.2⟩
def yk2 {i g f ty es es' l l' c c'} (h:Sim T w0 S0 ⟨F,H⟩ F' w S φ) (j:H[i]?=some (.tmap f ty es)) (p:(φ i).ad=some ⟨g,0,none⟩) (t:Mp w g l c)
  (e:g∈S) (u:TR T w S f ty es' l'.toList) (m:MapKept.Stamped l' c'):Sim T w0 S0 ⟨F,H.set i (.tmap f ty es')⟩ F' {w with heap:=w.heap.setIfInBounds g (.map l' c')} S φ:=by
 have a:=MapKept.heap_set (o':=.map l' c') t;have s:Chg [g] w {w with heap:=w.heap.setIfInBounds g (.map l' c')}:=⟨rfl,rfl,rfl,by simp,fun r _ v=>a.2 r (by simpa using v)⟩;refine h.upd j rfl s ?_ ⟨g,_,_,p,a.1,e,u.chg T s ?_ fun b d=>.inl d,m⟩ ?_ ?_
 ·intro b d;simp at d;subst d;exact ⟨_,.inl p,rfl⟩
 ·intro b d;simp at d;subst d;exact e
 ·intro q x;cases x
 ·intro z A xs y;cases y
def vz9 {i g t N O b ty es l c x a v} (y:yw9 P t=some (b,N,O)) (h:Sim T w0 S0 ⟨F,H⟩ F' w S φ) (m:H[i]?=some (.tmap b ty es)) (D:(φ i).ad=some ⟨g,0,none⟩) (z:Mp w g l c)
  (p:g∈S) (E:TR T w S b ty es l.toList) (q:MapKept.Stamped l c) (G:CR T w S ty a v): ∃w',(Instr.mapUpdate t (.map (some g)) (.int b x) v).run P w=.ok () w'/\Sim T w0 S0 ⟨F,H.set i (.tmap b ty (k9 es x a))⟩ F' w' S φ:=by
 obtain ⟨I,d⟩:=zd5 (zg3 y);have s:w.heap[g]?=some (.map l c):=z;rcases TR.find (x:=x) 0 E with ⟨u,_,_,R,_,A⟩|⟨j,J,u,K,L,_,_,A,_⟩
 ·refine ⟨_,?_,yk2 (l':=l.push {key:=.int b x,val:=v,born:=c}) (c':=c+1) h m D z p ?_ (MapKept.stamped_push q A)⟩
  ·simp [Instr.mapUpdate,run_underlying I,MapKept.run_getObj_map s,MapKept.run_checkKey d (show MapKept.IsKey (.int b) (.int b x) from rfl),MapKept.run_findKey d u,MapKept.run_setObj_map _ s,Result.andThen]
  ·rw [R,Array.toList_push];exact TR.snoc G E
 ·have B:j<l.size:=by have:=(X2.1 K).1;simpa using this
  have f:l[j]?=some J:=by simpa using K
  have C:(l.modify j fun e=> {e with key:=.int b x,val:=v}).toList=l.toList.modify j fun e=> {e with key:=.int b x,val:=v}:=by simp
  refine ⟨_,?_,yk2 (l':=l.modify j fun e=> {e with key:=.int b x,val:=v}) (c':=c) h m D z p (by rw [C];exact A a v G) (MapKept.stamped_modify q j _ (fun _ _=>rfl) fun e _ M=>?_)⟩
  ·rw [U0] at u;have r:l[j]=J:=by rw [Z6 B] at f;exact X5 f
   simp [Instr.mapUpdate,run_underlying I,MapKept.run_getObj_map s,MapKept.run_checkKey d (show MapKept.IsKey (.int b) (.int b x) from rfl),MapKept.run_findKey d u,MapKept.run_setObj_map _ s,Result.andThen,f,r,L,MapKept.run_keyThatStays (show MapKept.IsKey (.int b) (.int b x) from rfl)]
  ·rw [f] at M;have:=X5 M;subst this;exact L.symm
def vz8 {i g t z A ty' at2 a ty es l c x} (q:yw9 P t=some (a,z,A)) (h:Sim T w0 S0 ⟨F,H⟩ F' w S φ) (d:H[i]?=some (.tmap a ty es)) (u:(φ i).ad=some ⟨g,0,none⟩) (r:Mp w g l c)
  (e:g∈S) (v:TR T w S a ty es l.toList) (f:MapKept.Stamped l c): ∃w',(Builtin.delete_ (t::at2).toArray ty' #[.map (some g),.int a x]).run P w=.ok (.tuple #[]) w'/\Sim T w0 S0 ⟨F,H.set i (.tmap a ty (ze0 es x))⟩ F' w' S φ:=by
 obtain ⟨y,b⟩:=zd5 (zg3 q);have m:w.heap[g]?=some (.map l c):=r;rcases TR.find (x:=x) 0 v with ⟨p,_,_,_,B,_⟩|⟨j,E,p,C,G,_,_,_,D⟩
 ·refine ⟨_,?_,yk2 (l':=l) (c':=c) h d u r e (by rw [B];exact v) f⟩;simp [Builtin.delete_,run_underlying y,MapKept.run_getObj_map m,MapKept.run_checkKey b (show MapKept.IsKey (.int a) (.int a x) from rfl),MapKept.run_findKey b p,MapKept.run_setObj_map _ m,Result.andThen]
 ·have s:j<l.size:=by have:=(X2.1 C).1;simpa using this
  refine ⟨_,?_,yk2 (l':=l.eraseIdxIfInBounds j) (c':=c) h d u r e ?_ (MapKept.stamped_erase f j)⟩
  ·rw [U0] at p;simp [Builtin.delete_,run_underlying y,MapKept.run_getObj_map m,MapKept.run_checkKey b (show MapKept.IsKey (.int a) (.int a x) from rfl),MapKept.run_findKey b p,MapKept.run_setObj_map _ m,Result.andThen]
  ·have:(l.eraseIdxIfInBounds j).toList=l.toList.eraseIdx j:=by
    unfold Array.eraseIdxIfInBounds;rw [dif_pos s,Array.toList_eraseIdx]
   rw [this];exact D
def kp8 {ty z} (h:zTy ty z=true):CR T w S ty (zz9 T ty) z:=by
 unfold zTy at h;split at h
 ·rename_i k i x;rw [X3] at h;have:=za1 h.1;subst this;have a:x=0:=by simpa [zTy.eqZ] using h.2
  subst a;exact .int _ _
 ·rename_i b;have d:b=false:=by simpa using h
  subst d;exact .bool _
 ·rename_i e n c;rw [X3] at h;have f:=X1 h.1;have g:=X1 h.2;subst f;subst g;exact .list e [] none 0 (fun _ _=>.int .i64 0) (W8 _) (fun _=>⟨rfl,rfl⟩) (fun h=>absurd rfl h) (fun k j c h=>by simp at h) (fun k j c h=>by simp at h)
 ·cases h
def vn1 {b ty} (h:ki0 P b ty=true): ∃z,(P.info? b).bind (·.zero)=some z/\CR T w S ty (zz9 T ty) z:=by
 unfold ki0 at h;split at h
 ·rename_i c a;split at h
  ·rename_i z d;exact ⟨z,by rw [a];exact d,kp8 h⟩
  ·cases h
 ·cases h
def MR.snoc {b x a v c} (d:VR T w S φ a v): ∀ {es l},MR T w S φ b es l->MR T w S φ b (es++ [(x,a)]) (l++ [{key:=.int b x,val:=v,born:=c}])
 | [],[],_=>⟨rfl,d,trivial⟩
 | [],_::_,h=>h.elim
 |_::_,[],h=>h.elim
 |(_,_)::_,_::_,h=>⟨h.1,h.2.1,MR.snoc d h.2.2⟩
def MR.find2 {kd:IntKind} {x:Int}: ∀ {es:List (Int×AV T.U)} {l:List MapEntry} (i:Nat),MR T w S φ kd es l->
  (Instr.findNow (.int kd) (.int kd x) l i=some none/\(∀a,k9 es x a=es++ [(x,a)])/\ze0 es x=es/\ ∀e∈l,e.key≠.int kd x)\/
  ∃j e,Instr.findNow (.int kd) (.int kd x) l i=some (some (i+j,e.val))/\l[j]?=some e/\e.key=.int kd x/\(∀a v,VR T w S φ a v->MR T w S φ kd (k9 es x a) (l.modify j fun e=> {e with key:=.int kd x,val:=v}))/\MR T w S φ kd (ze0 es x) (l.eraseIdx j)
 | [],[],_,_=>.inl ⟨rfl,fun _=>rfl,rfl,by simp⟩
 | [],_::_,_,h=>h.elim
 |_::_,[],_,h=>h.elim
 |(y,a)::r,e::l,i,h=>by
  obtain ⟨h1,h2,h3⟩:=h;by_cases hx:x=y
  ·subst hx;refine .inr ⟨0,e,?_,rfl,h1,?_,?_⟩
   ·unfold Instr.findNow;rw [h1];simp [Instr.sameNow]
   ·intro b v hb;simp only [k9,if_true];exact ⟨rfl,hb,h3⟩
   ·simp only [ze0,if_true];exact h3
  ·have hf:Instr.findNow (.int kd) (.int kd x) (e::l) i=Instr.findNow (.int kd) (.int kd x) l (i+1):=by
    rw [Instr.findNow,h1];simp only [Instr.sameNow,if_true];rw [show (x==y)=false from by simpa using hx]
   rcases MR.find2 (x:=x) (i+1) h3 with ⟨g1,g4,g5,g6⟩|⟨j,e',g1,g2,g3,g6,g7⟩
   ·refine .inl ⟨hf.trans g1,fun b=>by simp [k9,hx,g4],by simp [ze0,hx,g5],?_⟩;intro q hq;rcases Z0.1 hq with rfl|hq
    ·rw [h1];simp;exact fun e=>hx e.symm
    ·exact g6 q hq
   ·refine .inr ⟨j+1,e',by rw [hf,g1];simp;omega,by simpa using g2,g3,fun b v hb=>?_,?_⟩
    ·simp only [k9,hx,if_false];exact ⟨h1,h2,g6 b v hb⟩
    ·simp only [ze0,hx,if_false];exact ⟨h1,h2,g7⟩
def js0 {U} (x:Int) (a:AV U): ∀(es:List (Int×AV U)) (q:Nat),q∈idsM (k9 es x a)->q∈idsM es\/q∈a.ids
 | [],q,h=>by simpa [k9,idsM] using h
 |(y,b)::r,q,h=>by
  unfold k9 at h;split at h
  ·rw [idsM] at h⊢;rcases X4.1 h with h|h
   ·exact .inr h
   ·exact .inl (X4.2 (.inr h))
  ·rw [idsM] at h⊢;rcases X4.1 h with h|h
   ·exact .inl (X4.2 (.inl h))
   ·rcases js0 x a r q h with h|h
    ·exact .inl (X4.2 (.inr h))
    ·exact .inr h
def jr9 {U} (x:Int): ∀(es:List (Int×AV U)) (q:Nat),q∈idsM (ze0 es x)->q∈idsM es
 | [],q,h=>h
 |(y,b)::r,q,h=>by
  unfold ze0 at h;rw [idsM];split at h
  ·exact X4.2 (.inr h)
  ·rw [idsM] at h;rcases X4.1 h with h|h
   ·exact X4.2 (.inl h)
   ·exact X4.2 (.inr (jr9 x r q h))
def jg3 {i g j es es' l l' c c'} (h:Sim T w0 S0 ⟨F,H⟩ F' w S φ) (m:H[i]?=some (.map j es)) (s:(φ i).ad=some ⟨g,0,none⟩) (u:Mp w g l c)
  (e:g∈S) (v:MR T w S φ j es' l'.toList) (p:MapKept.Stamped l' c') (f: ∀q∈idsM es',q<H.length):Sim T w0 S0 ⟨F,H.set i (.map j es')⟩ F' {w with heap:=w.heap.setIfInBounds g (.map l' c')} S φ:=by
 have a:=MapKept.heap_set (o':=.map l' c') u;have t:Chg [g] w {w with heap:=w.heap.setIfInBounds g (.map l' c')}:=⟨rfl,rfl,rfl,by simp,fun r _ x=>a.2 r (by simpa using x)⟩;have y: ∀b∈ [g],b∈S:=by intro b d;simp at d;subst d;exact e
 refine h.upd m rfl t ?_ ⟨g,_,_,s,a.1,e,v.chg T t y fun b d=>.inl d,p⟩ ?_ ?_
 ·intro b d;simp at d;subst d;exact ⟨_,.inl s,rfl⟩
 ·exact f
 ·intro A B xs z;cases z
def kl3 {i g t R V b es l c x a v} (A:yw9 P t=some (b,R,V)) (h:Sim T w0 S0 ⟨F,H⟩ F' w S φ) (p:H[i]?=some (.map b es)) (G:(φ i).ad=some ⟨g,0,none⟩) (B:Mp w g l c)
  (r:g∈S) (I:MR T w S φ b es l.toList) (s:MapKept.Stamped l c) (J:VR T w S φ a v) (C: ∀q∈a.ids,q<H.length): ∃w',(Instr.mapUpdate t (.map (some g)) (.int b x) v).run P w=.ok () w'/\Sim T w0 S0 ⟨F,H.set i (.map b (k9 es x a))⟩ F' w' S φ:=by
 obtain ⟨K,d⟩:=zd5 (zg3 A);have y:w.heap[g]?=some (.map l c):=B;have m: ∀q∈idsM (k9 es x a),q<H.length:=fun q W=>(js0 x a es q W).elim (h.eids _ _ p q) (C q);rcases MR.find2 (x:=x) 0 I with ⟨z,X,_,Y⟩|⟨j,L,z,M,N,Z,_⟩
 ·refine ⟨_,?_,jg3 (l':=l.push {key:=.int b x,val:=v,born:=c}) (c':=c+1) h p G B r ?_ (MapKept.stamped_push s Y) m⟩
  ·simp [Instr.mapUpdate,run_underlying K,MapKept.run_getObj_map y,MapKept.run_checkKey d (show MapKept.IsKey (.int b) (.int b x) from rfl),MapKept.run_findKey d z,MapKept.run_setObj_map _ y,Result.andThen]
  ·rw [X,Array.toList_push];exact MR.snoc J I
 ·have D:j<l.size:=by have:=(X2.1 M).1;simpa using this
  have f:l[j]?=some L:=by simpa using M
  have E:(l.modify j fun e=> {e with key:=.int b x,val:=v}).toList=l.toList.modify j fun e=> {e with key:=.int b x,val:=v}:=by simp
  refine ⟨_,?_,jg3 (l':=l.modify j fun e=> {e with key:=.int b x,val:=v}) (c':=c) h p G B r (by rw [E];exact Z a v J) (MapKept.stamped_modify s j _ (fun _ _=>rfl) fun e _ O=>by rw [f] at O;have:=X5 O;subst this;exact N.symm) m⟩;rw [U0] at z;have u:l[j]=L:=by rw [Z6 D] at f;exact X5 f
  simp [Instr.mapUpdate,run_underlying K,MapKept.run_getObj_map y,MapKept.run_checkKey d (show MapKept.IsKey (.int b) (.int b x) from rfl),MapKept.run_findKey d z,MapKept.run_setObj_map _ y,Result.andThen,f,u,N,MapKept.run_keyThatStays (show MapKept.IsKey (.int b) (.int b x) from rfl)]
def kl2 {i g t B C ty' at2 a es l c x} (s:yw9 P t=some (a,B,C)) (h:Sim T w0 S0 ⟨F,H⟩ F' w S φ) (e:H[i]?=some (.map a es)) (y:(φ i).ad=some ⟨g,0,none⟩) (u:Mp w g l c)
  (f:g∈S) (z:MR T w S φ a es l.toList) (m:MapKept.Stamped l c): ∃w',(Builtin.delete_ (t::at2).toArray ty' #[.map (some g),.int a x]).run P w=.ok (.tuple #[]) w'/\Sim T w0 S0 ⟨F,H.set i (.map a (ze0 es x))⟩ F' w' S φ:=by
 obtain ⟨A,b⟩:=zd5 (zg3 s);have p:w.heap[g]?=some (.map l c):=u;have d: ∀q∈idsM (ze0 es x),q<H.length:=fun q D=>h.eids _ _ e q (jr9 x es q D);rcases MR.find2 (x:=x) 0 z with ⟨r,_,E,_⟩|⟨j,J,r,G,K,_,I⟩
 ·refine ⟨_,?_,jg3 (l':=l) (c':=c) h e y u f (by rw [E];exact z) m d⟩;simp [Builtin.delete_,run_underlying A,MapKept.run_getObj_map p,MapKept.run_checkKey b (show MapKept.IsKey (.int a) (.int a x) from rfl),MapKept.run_findKey b r,MapKept.run_setObj_map _ p,Result.andThen]
 ·have v:j<l.size:=by have:=(X2.1 G).1;simpa using this
  refine ⟨_,?_,jg3 (l':=l.eraseIdxIfInBounds j) (c':=c) h e y u f ?_ (MapKept.stamped_erase m j) d⟩
  ·rw [U0] at r;simp [Builtin.delete_,run_underlying A,MapKept.run_getObj_map p,MapKept.run_checkKey b (show MapKept.IsKey (.int a) (.int a x) from rfl),MapKept.run_findKey b r,MapKept.run_setObj_map _ p,Result.andThen]
  ·have:(l.eraseIdxIfInBounds j).toList=l.toList.eraseIdx j:=by
    unfold Array.eraseIdxIfInBounds;rw [dif_pos v,Array.toList_eraseIdx]
   rw [this];exact I
def js2 {t:TypeId} {xm xk xv:Operand} (hd:dec ops k n F'=some o) (hop:o.op=.insert t xm xk xv\/o.op=.mapUpdate t xm xk xv) (hdst:o.dst=none) {m a:AV T.U} {kx:IntKind} {x:Int} (hm:aev T F xm=some m) (hk:aev T F xk=some (cI T kx x)) (hv:aev T F xv=some a) {H1:List (Ent T.U)} (hi:kb7 T P t H m kx x a=some H1)
  (h:Sim T w0 S0 ⟨F,H⟩ F' w S φ) (K:zq8 P ops Q (k+1) n ds w0 S0 (⟨F,H1⟩:St T)):WR P ops Q k n ds F' w:=by
 obtain ⟨M,h1,h2⟩:=j7 h.fr hm;obtain ⟨X,h3,h4⟩:=j7 h.fr hk;obtain ⟨V,h5,h6⟩:=j7 h.fr hv;have e:=v8 h4;subst e;have hok:=zb9 h hv;unfold kb7 at hi;split at hi
 ·rename_i i kd kt et hmk;split at hi
  ·rename_i kd' es hHi;split at hi
   ·rename_i hb;rw [X3] at hb;have b1:=za1 hb.1;have b2:=za1 hb.2;subst b1;subst b2;simp only [X0] at hi;subst hi;obtain ⟨g,hg,rfl⟩:=h2;obtain ⟨g',l,c,a1,a2,a3,a4,a5⟩:=h.ents i _ hHi;rw [hg] at a1;simp only [X0,Addr.mk.injEq,and_true] at a1;subst a1;obtain ⟨w',hr,hs⟩:=kl3 (x:=x) hmk h hHi hg a2 a3 a4 a5 h6 hok.1;rcases hop with hop|hop
    ·refine WR.skip hd (w':=w') ?_ (by rw [hdst];exact K _ _ ⟨S,φ,hs⟩);cases o;simp only at hop hdst;subst hop;subst hdst;simp [execOp,j8 h1,j8 h3,j8 h5,hr]
    ·refine WR.skip hd (w':=w') ?_ (by rw [hdst];exact K _ _ ⟨S,φ,hs⟩);cases o;simp only at hop hdst;subst hop;subst hdst;simp [execOp,j8 h1,j8 h3,j8 h5,hr]
   ·cases hi
  ·rename_i kd' ty es hHi;split at hi
   ·rename_i y hb hy;rw [X3] at hb;have b1:=za1 hb.1;have b2:=za1 hb.2;subst b1;subst b2;simp only [X0] at hi;subst hi;obtain ⟨g,hg,rfl⟩:=h2;obtain ⟨g',l,c,a1,a2,a3,a4,a5⟩:=h.ents i _ hHi;rw [hg] at a1;simp only [X0,Addr.mk.injEq,and_true] at a1;subst a1;unfold ks8 at hy;split at hy
    ·rename_i cl;have e:=Cell.as_eq hy;subst e;obtain ⟨w',hr,hs⟩:=vz9 (x:=x) hmk h hHi hg a2 a3 a4 a5 h6;rcases hop with hop|hop
     ·refine WR.skip hd (w':=w') ?_ (by rw [hdst];exact K _ _ ⟨S,φ,hs⟩);cases o;simp only at hop hdst;subst hop;subst hdst;simp [execOp,j8 h1,j8 h3,j8 h5,hr]
     ·refine WR.skip hd (w':=w') ?_ (by rw [hdst];exact K _ _ ⟨S,φ,hs⟩);cases o;simp only at hop hdst;subst hop;subst hdst;simp [execOp,j8 h1,j8 h3,j8 h5,hr]
    ·cases hy
   ·cases hi
  ·cases hi
 ·cases hi
def jt0 {R:Type} {r:R} {f:IntKind} {x:Int} {d:Bool} {z:AV T.U} {Z:Value} (g:VR T w S φ z Z) {K:AV T.U->Option R}: ∀ {es:List (Int×AV T.U)} {l:List MapEntry} (i:Nat),jc7 T d z x K es=some r->MR T w S φ f es l->
  ∃a q,K a=some r/\Instr.findNow (.int f) (.int f x) l i=some q/\VR T w S φ a (lkV Z d q)/\ ∀j∈a.ids,j∈z.ids\/j∈idsM es
 | [],[],i,h,_=>by
  refine ⟨_,none,h,rfl,?_,fun j c=>.inl ?_⟩
  ·cases d
   ·exact g
   ·exact ⟨_,rfl,g,CR.bool _,trivial⟩
  ·cases d
   ·exact c
   ·simpa [AV.ids,q7] using c
 | [],_::_,_,_,h=>h.elim
 |_::_,[],_,_,h=>h.elim
 |(y,b)::es,e::l,i,h,s=>by
  obtain ⟨t,p,u⟩:=s;unfold jc7 at h;unfold Instr.findNow;rw [t];simp only [Instr.sameNow,if_true];split at h
  ·rename_i v;subst v;rw [show (x==x)=true from by simp];refine ⟨_,some (i,e.val),h,rfl,?_,fun j c=>.inr ?_⟩
   ·cases d
    ·exact p
    ·exact ⟨_,rfl,p,CR.bool _,trivial⟩
   ·rw [idsM];cases d
    ·exact X4.2 (.inl c)
    ·exact X4.2 (.inl (by simpa [AV.ids,q7] using c))
  ·rename_i m;rw [show (x==y)=false from by simpa using m];obtain ⟨a,q,A,B,C,D⟩:=jt0 g (i+1) h u;exact ⟨a,q,A,B,C,fun j c=>(D j c).imp id fun c=>by rw [idsM];exact X4.2 (.inr c)⟩
def kk9 {Z:Prop} {R:Type} {r:R} {t:TypeId} {xm xk:Operand} {f:Bool} (hd:dec ops k n F'=some o) (p:o.op=.lookup t xm xk f) {m:AV T.U} {L:IntKind} {x:Int} (hm:aev T F xm=some m) (hk:aev T F xk=some (cI T L x)) {K0:AV T.U->Option R} (b:jg0 T P t f H m L x K0=some r)
  (h:Sim T w0 S0 ⟨F,H⟩ F' w S φ) (N: ∀i∈m.ids,i∈rd) (K: ∀a v,K0 a=some r->QR P F' o S φ rd w v->VR T w S φ a v->(∀i∈a.ids,i<H.length)->Z):Z:=by
 obtain ⟨M,h1,h2⟩:=j7 h.fr hm;obtain ⟨X,h3,h4⟩:=j7 h.fr hk;have e:=v8 h4;subst e;unfold jg0 at b;split at b
 ·rename_i i kd kt et O;split at b
  ·rename_i kd' es s;split at b
   ·rename_i z C D;rw [X3] at C;obtain ⟨V,W⟩:=C;have V:=za1 V;have W:=za1 W;subst V;subst W;obtain ⟨g,Y,rfl⟩:=h2;obtain ⟨g',l,c,E,a2,a3,a4,a5⟩:=h.ents i _ s;rw [Y] at E;simp only [X0,Addr.mk.injEq,and_true] at E;subst E;obtain ⟨y,d,hze⟩: ∃y,(P.info? et).bind (·.zero)=some y/\z=ofV T y:=by
     unfold qw3 at D;split at D
     ·rename_i inf hinf;split at D
      ·rename_i y d;simp only [X0] at D;exact ⟨y,by rw [hinf];exact d,D.symm⟩
      ·cases D
     ·cases D
    subst hze;obtain ⟨a,q,q1,q2,q3,q4⟩:=jt0 (jy0 T y) 0 b a4;have G:zo5 ops k n F'=some (o.dst,t,.map (some g),.int L x,f):=by
     unfold zo5;rw [hd];cases o;simp only at p;subst p;simp only [j8 h1,j8 h3]
    refine K a _ q1 (fun w1 _ I=>?_) q3 fun j A=>?_
    ·have J:Mp w1 g l c:=(I i (N i (by simp [AV.ids])) _ Y a2.lt).trans a2;have u:=yg9 (P:=P) J G (zg3 O) rfl q q2 d _ rfl;unfold zu5 at u;rw [hd] at u;simp only [X0,X7] at u;exact u.2
    ·rcases q4 j A with A|A
     ·rw [jx9] at A;cases A
     ·exact h.eids _ _ s j A
   ·cases b
  ·rename_i kd' ty es s;split at b
   ·rename_i C;rw [X3,X3] at C;have V:=za1 C.1;have W:=za1 C.2.1;subst V;subst W;obtain ⟨g,Y,rfl⟩:=h2;obtain ⟨g',l,c,E,a2,a3,a4,a5⟩:=h.ents i _ s;rw [Y] at E;simp only [X0,Addr.mk.injEq,and_true] at E;subst E;obtain ⟨y,d,hzr⟩:=vn1 (T:=T) (w:=w) (S:=S) C.2.2;have G:zo5 ops k n F'=some (o.dst,t,.map (some g),.int L x,f):=by
     unfold zo5;rw [hd];cases o;simp only at p;subst p;simp only [j8 h1,j8 h3]
    have hq: ∀q,Instr.findNow (.int L) (.int L x) l.toList 0=some q->QR P F' o S φ rd w (lkV y f q):=fun q q2 w1 _ I=>by
     have J:Mp w1 g l c:=(I i (N i (by simp [AV.ids])) _ Y a2.lt).trans a2;have u:=yg9 (P:=P) J G (zg3 O) rfl q q2 d _ rfl;unfold zu5 at u;rw [hd] at u;simp only [X0,X7] at u;exact u.2
    have B: ∀j∈(qx4 T f ty es x).ids,j<H.length:=by
     intro j A;cases f<;>simp [qx4,AV.ids,q7] at A
    rcases TR.find (x:=x) 0 a4 with ⟨g1,g2,g3,_⟩|⟨j,e',g1,g2,g3,g4,g5,_⟩
    ·refine K _ _ b (hq _ g1) ?_ B;cases f
     ·show CR T w S ty _ _;rw [g3];exact hzr
     ·exact ⟨_,rfl,by rw [g3];exact hzr,by rw [g2];exact CR.bool _,trivial⟩
    ·refine K _ _ b (hq _ g1) ?_ B;cases f
     ·exact g4
     ·exact ⟨_,rfl,g4,by rw [g5];exact CR.bool _,trivial⟩
   ·cases b
  ·cases b
 ·cases b
end
end Go.X
namespace Go.X
open Go.RowKit Go.V
structure CallSpec (T:Tab) where
 call: {R:Type}->List (AV T.U)->List (Ent T.U)->(AV T.U->List (Ent T.U)->Option R)->(AV T.U->List (Ent T.U)->Option R)->Option R
 q: {R:Type}->List (AV T.U)->List (Ent T.U)->(AV T.U->Option R)->Option R
 isq:Bool
 wr:List (AV T.U)->List (Ent T.U)->List Nat
structure Ctx (T:Tab) where
 ty:TypeId->Option Ty
 E:List (FuncId×CallSpec T)
 pin:Nat
 ms:List (Nat×Nat)
 lay:TypeId->Option Lay:=fun _=>none
 dr:TypeId->Option (Nat×List TypeId):=fun _=>none
 pm:TypeId->Option (TypeId×Nat):=fun _=>none
section
variable {T:Tab} (P:Program) (C:Ctx T)
def qb4:List (FuncId×CallSpec T)->FuncId->Option (CallSpec T)
 | [],_=>none
 |(g,c)::r,f=>match Nat.beq g f with|true=>some c|false=>qb4 r f
def zh1:AV T.U->Bool| .eptr _ _ _ _=>false|_=>true
def ks4:Op->Bool| .move _=>true| .assign _=>true| .fieldAddr _ _ _=>true|_=>false
def zl9 (f:FuncId):Bool:=match P.funcs[f]? with|some fn=> !(fn.name== "runtime.NumGoroutine")&&fn.body.isSome|none=>false
def gd7 (t:TypeId) (H:List (Ent T.U)) (a:AV T.U):Option Int:=
 match P.underlying t with
 |some (.map _ _)=>match a with
  | .mp i=>match H[i]? with|some (.tmap _ _ m)=>some ((m.length:Nat):Int)|_=>none
  |_=>none
 |_=>none
def qc1:List (AV T.U)->List Nat
 | []=> []
 | .mp i::r=>i::qc1 r
 |_::r=>qc1 r
def lenOf (t:TypeId) (H:List (Ent T.U)) (a:AV T.U):Option Int:=
 match P.underlying t with
 |some (.slice _)=>match gk1 T H a with|some n=>some ((n:Nat):Int)|none=>none
 |some .string=>match a with| .cell ⟨.str,s⟩=>some ((ByteArray.size s:Nat):Int)|_=>none
 |_=>none
section
variable {R:Type}
def jc9 (c:Bool) (x y:AV T.U) (K:AV T.U->Option R):Option R:=
 match kg2 T c x y with
 |some z=>K z
 |none=>match zh1 x&&zh1 y with|true=>if c=true then K x else K y|false=>none
def yk7 (c:Call) (st:St T) (K:AV T.U->List (Ent T.U)->Option R) (Kp:AV T.U->List (Ent T.U)->Option R):Option R:=
 match zp2 T st.F c.args.toList with
 |none=>none
 |some aS=>
  match c.callee with
  | .value f=>match aev T st.F f with
   |some (.fn (.func g) first caps)=>match zl9 P g,qb4 C.E g with
    |true,some cs=>match (first++aS++caps).all zh1 with|true=>cs.call (first++aS++caps) st.H K Kp|false=>none
    |_,_=>none
   |_=>none
  | .builtin .append=>match aS,c.argTypes.toList with
   | [s,x],[t,t']=>match Nat.beq t t',C.ty t with|true,some e=>appA T P e t st.H s x K|_,_=>none
   |_,_=>none
  | .builtin .clear=>match aS,c.argTypes.toList with
   | [s],[t]=>yn4 T P t st.H s K
   |_,_=>none
  | .builtin .delete=>match aS,c.argTypes.toList with
   | [m,.cell ⟨.int kx,x⟩],t::_=>(match kj6 T P t st.H m kx x with|some H1=>K (.tup []) H1|none=>none)
   |_,_=>none
  |_=>none
def qu5 (o:Oper) (F:AF T):List Nat:=
 match o.op with
 | .load _ x=>match aev T F x with|some a=>a.ids|none=> []
 | .convert _ _ x=>match aev T F x with|some a=>a.ids|none=> []
 | .lookup _ m _ _=>match aev T F m with|some a=>a.ids|none=> []
 | .call c=>match c.callee with
  | .value f=>match aev T F f,zp2 T F c.args.toList with|some a,some aS=>a.ids++q7 aS|_,_=> []
  | .builtin .len=>match zp2 T F c.args.toList with|some aS=>qc1 aS|none=> []
  |_=> []
 |_=> []
def kf2:Op->Bool
 | .indexAddr t _ _=>(zg6 P t).isSome
 | .index t _ _=>(zg6 P t).isSome
 | .slice t _ _ _ none=>(vp9 P t).isSome
 | .sliceToArrayPointer _ _=>true
 | .load t _=>(zg6 P t).isSome
 | .nilCheck _=>true
 | .lookup _ _ _ _=>true
 |_=>false
def kf5 (t:TypeId):Bool:=match P.underlying t with|some (.array _ e)=>(match P.underlying e with|some d=> !yb5 d|none=>false)|_=>false
def ym5 (o:Oper) (st:St T) (K:AV T.U->Option R):Option R:=
 match o.op with
 | .indexAddr t x y=>match zg6 P t,aev T st.F x,aev T st.F y with
  |some (n,sz),some s,some (.cell ⟨.int _,j⟩)=>yd4 T n sz st.H s j K
  |_,_,_=>none
 | .index t x y=>match zg6 P t,aev T st.F x,aev T st.F y,kf5 P t with
  |some (n,sz),some s,some (.cell ⟨.int _,j⟩),true=>yo2 T n sz s j K
  |_,_,_,_=>none
 | .slice t x c d none=>match vp9 P t,aev T st.F x,jw1 st.F c,jw1 st.F d with
  |some (n,sz),some s,some l,some h=>yo7 T n sz st.H s l h K
  |_,_,_,_=>none
 | .sliceToArrayPointer t x=>match zg6 P t,aev T st.F x with
  |some (n,sz),some s=>yn0 T n sz st.H s K
  |_,_=>none
 | .load t x=>match zg6 P t,aev T st.F x with
  |some (n,sz),some p=>yl6 T n sz (match P.info? t with|some i=>Nat.beq i.size (n*sz)|none=>false) st.H p K (j5 (loadA T P t st.H p) K)
  |_,_=>none
 | .nilCheck x=>match aev T st.F x with|some a=>(match ku8 a with|true=>K a|false=>none)|none=>none
 | .lookup t m x e=>match aev T st.F m,aev T st.F x with
  |some a,some (.cell ⟨.int f,x⟩)=>jg0 T P t e st.H a f x fun b=>match zh1 b with|true=>K b|false=>none
  |_,_=>none
 |_=>none
def zr9 (o:Oper) (st:St T) (K:AV T.U->Option R):Option R:=
 match jh4 T P o.op st.F with
 |some a=>match ks4 o.op||zh1 a with|true=>K a|false=>none
 |none=>match o.op with
  | .pick c a b=>match aev T st.F c,aev T st.F a,aev T st.F b with
   |some (.cell ⟨.bool,c⟩),some x,some y=>jc9 c x y K
   |_,_,_=>none
  | .binOp b _ x y _=>match aev T st.F x,aev T st.F y with
   |some x,some y=>divA T b x y K
   |_,_=>none
  | .load t x=>match aev T st.F x with
   |some p=>match loadA T P t st.H p with|some a=>K a|none=>none
   |none=>none
  | .convert s d x=>match P.underlying s,P.underlying d,aev T st.F x with
   |some (.slice e),some .string,some a=>match P.underlying e with
    |some (.int .u8)=>rdF T st.H (.list (.int .u8)) a fun xs=>K (.cell ⟨.str,zt6 xs⟩)
    |_=>none
   |_,_,_=>none
  | .index t x y=>match P.underlying t,aev T st.F x,aev T st.F y with
   |some .string,some (.cell ⟨.str,s⟩),some (.cell ⟨.int _,j⟩)=>qd7 s j fun b=>K (cI T .u8 b)
   |_,_,_=>none
  | .indexAddr t x y=>match aev T st.F x,aev T st.F y with
   |some s,some (.cell ⟨.int _,j⟩)=>ya3 T P t st.H s j K
   |_,_=>none
  | .slice t x lo hi none=>match aev T st.F x,jw1 st.F lo,jw1 st.F hi with
   |some s,some l,some h=>match l,h with
    |none,none=>none
    |l,h=>ye2 T P t st.H s l h K
   |_,_,_=>none
  | .typeAssert x _ at_ ok=>match aev T st.F x with
   |some a=>match yw1 T P a at_ ok with|some b=>(match zh1 b with|true=>K b|false=>none)|none=>none
   |none=>none
  | .call c=>match zp2 T st.F c.args.toList with
   |none=>none
   |some aS=>match c.callee with
    | .builtin .len=>match aS,c.argTypes.toList with
     | [a],[t]=>match lenOf P t st.H a with
      |some n=>K (cI T .i64 n)
      |none=>match gd7 P t st.H a with|some n=>K (cI T .i64 n)|none=>none
     |_,_=>none
    | .builtin .min=>match ge2 T aS with|some a=>K a|none=>none
    | .builtin .max=>match ge1 T aS with|some a=>K a|none=>none
    |_=>none
  |_=>none
def zy0 (o:Oper) (st:St T) (K:AV T.U->Option R):Option R:=match kf2 P o.op with|true=>ym5 P o st K|false=>zr9 P o st K
def stepA (o:Oper) (st:St T) (K:St T->Option R) (j:AV T.U->St T->Option R):Option R:=
 let f:=fun (a:AV T.U) (H:List (Ent T.U))=>K ⟨za5 T st.F o.dst a,H⟩
 match o.op with
 | .alloc e=>match qe0 T P e with
  |some cs=>(match kk6 T (C.lay e) cs with|some cs=>f (.ptr st.H.length 0) (st.H++ [.blk e cs])|none=>none)
  |none=>none
 | .box e x=>match aev T st.F x with
  |some a=>match gd3 T (C.lay e) a with|some cs=>f (.ptr st.H.length 0) (st.H++ [.blk e cs])|none=>none
  |none=>none
 | .makeMap t none=>match yw9 P t,C.ty t with
  |some (k,_,_),none=>f (.mp st.H.length) (st.H++ [.map k []])
  |some (k,_,_),some ty=>f (.mp st.H.length) (st.H++ [.tmap k ty []])
  |none,_=>none
 | .insert t m x v=>match o.dst,aev T st.F m,aev T st.F x,aev T st.F v with
  |none,some a,some (.cell ⟨.int h,x⟩),some b=>(match zh1 b,kb7 T P t st.H a h x b with|true,some H1=>K ⟨st.F,H1⟩|_,_=>none)
  |_,_,_,_=>none
 | .mapUpdate t m x v=>match o.dst,aev T st.F m,aev T st.F x,aev T st.F v with
  |none,some a,some (.cell ⟨.int h,x⟩),some b=>(match zh1 b,kb7 T P t st.H a h x b with|true,some H1=>K ⟨st.F,H1⟩|_,_=>none)
  |_,_,_,_=>none
 | .store t x y=>match o.dst,aev T st.F x,aev T st.F y with
  |none,some p,some a=>match jd8 T P t st.H p a with|some H1=>K ⟨st.F,H1⟩|none=>none
  |_,_,_=>none
 | .makeSlice t x y=>match aev T st.F x,aev T st.F y,C.ty t with
  |some (.cell ⟨.int _,l⟩),some (.cell ⟨.int _,c⟩),some e=>jp2 T P e t st.H l c f
  |_,_,_=>none
 | .buildSlice t g ps=>match zu7 T st.F ps.toList,C.ty t with
  |some l,some ty=>match qw4 T P ty t g l with|some (e,xs)=>f (.own st.H.length) (st.H++ [.row e ty xs])|none=>none
  |some l,none=>match jm2 T P t g l with|some (e,sz,cs)=>f (.sl st.H.length sz 0 g) (st.H++ [.blk e cs])|none=>none
  |_,_=>none
 | .call c=>match reads c with
  |true=>zy0 P o st fun a=>f a st.H
  |false=>yk7 P C c st f fun a H=>j a ⟨st.F,H⟩
 | .convert s d x=>match P.underlying s,P.underlying d,aev T st.F x with
  |some .string,some (.slice e),some (.cell ⟨.str,b⟩)=>match P.underlying e with
   |some (.int .u8)=>f (.cell ⟨.list (.int .u8),zu3 b⟩) st.H
   |_=>none
  |some (.slice _),some (.slice e),some (.own i)=>match Nat.beq s d,C.ty d,P.underlying e,appA.rowIn T (.int .u8) st.H (.own i) with
   |true,some _,some (.int .u8),some (x::xs)=>f (.cell ⟨.list (.int .u8),x::xs⟩) (st.H.set i .gone)
   |_,_,_,_=>none
  |_,_,_=>zy0 P o st fun a=>f a st.H
 | .panic x=>match aev T st.F x with|some (.ifc t a)=>j (.ifc t a) st|_=>none
 |_=>zy0 P o st fun a=>f a st.H
where
 reads (c:Call):Bool:=match c.callee with| .builtin .len=>true| .builtin .min=>true| .builtin .max=>true|_=>false
end
end
section
variable {T:Tab} {P:Program} {C:Ctx T} {w w':World} {S S':List Nat} {φ φ':Nat->RA} {w0:World} {S0:Ow} {F:AF T} {H:List (Ent T.U)} {F':PF}
variable {rd:List Nat} {ops:Array Oper} {Q:Exit->Act->World->Prop} {k n:Nat} {ds:List Deferred} {o:Oper}
def za9 (T:Tab) (P:Program) (f:FuncId) (cs:CallSpec T):Prop:=
 ∀ {R:Type} (aS:List (AV T.U)) (H:List (Ent T.U)) (K Kp:AV T.U->List (Ent T.U)->Option R) (r:R),cs.call aS H K Kp=some r->
  ∀(w0:World) (S0:Ow) (F:AF T) (F':PF) (w:World) (S:List Nat) (φ:Nat->RA),Sim T w0 S0 ⟨F,H⟩ F' w S φ-> ∀vs:List Value,VRL T w S φ aS vs->(∀a∈aS,okA H a)->
  Calls P f vs.toArray w fun e w'=>match e with
   | .returned v=> ∃a H1,K a H1=some r/\ ∃S1 φ1,Sim T w0 S0 ⟨F,H1⟩ F' w' S1 φ1/\VR T w' S1 φ1 a v/\okA H1 a
   | .panicked ch=> ∃a H1,Kp a H1=some r/\ ∃v,ch= [{v:=v,recovered:=false}]/\ ∃S1 φ1,Sim T w0 S0 ⟨F,H1⟩ F' w' S1 φ1/\VR T w' S1 φ1 a v/\okA H1 a
   | .outgrown=>False
def zm3 (T:Tab) (P:Program) (f:FuncId) (cs:CallSpec T):Prop:=
 ∀ {R:Type} (aS:List (AV T.U)) (H:List (Ent T.U)) (K:AV T.U->Option R) (r:R),cs.q aS H K=some r->
  ∀(w0:World) (S0:Ow) (F:AF T) (F':PF) (w:World) (S:List Nat) (φ:Nat->RA),Sim T w0 S0 ⟨F,H⟩ F' w S φ-> ∀vs:List Value,VRL T w S φ aS vs->(∀a∈aS,okA H a)->
  ∃a v,K a=some r/\VR T w S φ a v/\okA H a/\ ∀w1,Chg S w w1->Same φ (q7 aS) w w1->Calls P f vs.toArray w1 (zq9 w1 v)
structure Keeps (T:Tab) (l:List Nat) (H H1:List (Ent T.U)):Prop where
 len:H.length<=H1.length
 same: ∀e,e<H.length->e∉l->H1[e]?=H[e]?
 row: ∀(e:Nat) (ty:TypeId) (t:Ty) (ys:List (den T.U t)),e<H.length->H1[e]?=some (.row ty t ys)-> ∃xs,H[e]?=some (.row ty t xs)
def yj1 (cs:CallSpec T):Prop:=
 ∀ {R:Type} (aS:List (AV T.U)) (H:List (Ent T.U)) (K Kp:AV T.U->List (Ent T.U)->Option R) (r:R),cs.call aS H K Kp=some r->
  (∃a H1,K a H1=some r/\Keeps T (cs.wr aS H) H H1/\ ∀ {R':Type} (K' Kp':AV T.U->List (Ent T.U)->Option R'),cs.call aS H K' Kp'=K' a H1)\/
  ∃a H1,Kp a H1=some r/\Keeps T (cs.wr aS H) H H1/\ ∀ {R':Type} (K' Kp':AV T.U->List (Ent T.U)->Option R'),cs.call aS H K' Kp'=Kp' a H1
def za0 (T:Tab) (P:Program) (E:List (FuncId×CallSpec T)):Prop:= ∀f cs,qb4 E f=some cs->za9 T P f cs/\zm3 T P f cs/\yj1 cs
def zc7 {a} (h:zh1 a=true) (b: ∀i∈a.ids,i<H.length):okA H a:=⟨b,by cases a<;>first|trivial|cases h⟩
def jj4 {l:List Operand} (hs:Sim T w0 S0 ⟨F,H⟩ F' w S φ): ∀ {aS:List (AV T.U)},zp2 T F l=some aS-> ∀i∈q7 aS,i<H.length:=by
 induction l with
 |nil=>intro aS h;simp only [zp2,X0] at h;subst h;intro i hi;cases hi
 |cons x r ih=>
  intro aS h;unfold zp2 at h;split at h
  ·rename_i a l ha hl;simp only [X0] at h;subst h;intro i hi;rw [q7] at hi;rcases X4.1 hi with hi|hi
   ·exact (zb9 hs ha).1 i hi
   ·exact ih hl i hi
  ·cases h
def qt9 {aS cs:List (AV T.U)} {o0:Nat} {m:Nat} (h1: ∀i∈q7 cs,i<m) (h2: ∀i∈q7 aS,i<m): ∀i∈q7 (yi5 T cs o0 aS),i<m:=fun i hi=>(yz4 i hi).elim (h1 i) (h2 i)
def yl1 {c m}: ∀ {ps cs b},yu0 T c cs ps=some b->(∀i∈q7 cs,i<m)->(∀i∈q7 (ps.map Prod.snd),i<m)-> ∀i∈q7 b,i<m
 | [],cs,b,h,e,_=>by simp only [yu0,X0] at h;subst h;exact e
 |(j,a)::r,cs,b,h,e,f=>by
  rw [U1,q7] at f;unfold yu0 at h;split at h
  ·split at h
   ·rename_i d;simp only [X3] at d;exact yl1 h (qt9 e (by rw [yf7 d.1];exact fun i g=>f i (X4.2 (.inl g)))) fun i g=>f i (X4.2 (.inr g))
   ·cases h
  ·cases h
def yq9 {l:List (Nat×Operand)} (hs:Sim T w0 S0 ⟨F,H⟩ F' w S φ): ∀ {aS:List (Nat×AV T.U)},zu7 T F l=some aS-> ∀i∈q7 (aS.map Prod.snd),i<H.length:=by
 induction l with
 |nil=>intro aS h;simp only [zu7,X0] at h;subst h;intro i hi;cases hi
 |cons x r ih=>
  intro aS h;obtain ⟨j,x⟩:=x;unfold zu7 at h;split at h
  ·rename_i a l ha hl;simp only [X0] at h;subst h;intro i hi;rw [U1,q7] at hi;rcases X4.1 hi with hi|hi
   ·exact (zb9 hs ha).1 i hi
   ·exact ih hl i hi
  ·cases h
def qz3 {t lit x y a neg} (h:eqA T P t lit x y neg=some a):a.ids= []:=by
 unfold eqA at h;split at h
 ·simp only [X0] at h;subst h;rfl
 split at h
 ·simp only [X0] at h;subst h;rfl
 split at h
 ·split at h
  ·simp only [X0] at h;subst h;rfl
  ·cases h
 ·simp only at h;split at h
  ·split at h
   ·simp only [X0] at h;subst h;rfl
   ·cases h
  ·cases h
 ·cases h
def kp3 {u x a} (h:unA T u x=some a):a.ids= []:=by
 unfold unA at h;split at h
 ·unfold unI at h;split at h
  ·simp only [X0] at h;subst h;rfl
  ·simp only [X0] at h;subst h;rfl
  ·cases h
 ·split at h
  ·simp only [X0] at h;subst h;rfl
  ·cases h
 ·cases h
def vr7 {b t lit x y a} (h:kj1 T P b t lit x y=some a):a.ids= []:=by
 unfold kj1 at h;split at h
 ·split at h
  ·cases b<;>simp only [kq3,X0,reduceCtorEq] at h<;>subst h<;>rfl
  ·cases h
 ·simp only [X0] at h;subst h;rfl
 ·simp only [X0] at h;subst h;rfl
 ·exact qz3 h
 ·exact qz3 h
 ·cases h
def vk7 {p a} (c:Sim T w0 S0 ⟨F,H⟩ F' w S φ) (h:jh4 T P p F=some a): ∀i∈a.ids,i<H.length:=by
 unfold jh4 at h;split at h
 ·exact (zb9 c h).1
 ·exact (zb9 c h).1
 ·split at h
  ·rw [vr7 h];intro i b;cases b
  ·cases h
 ·split at h
  ·rw [kp3 h];intro i b;cases b
  ·cases h
 ·split at h
  ·simp only [X0] at h;subst h;intro i b;cases b
  ·cases h
 ·split at h
  ·rename_i vs e;have:=(zb9 c e).1;intro i b;exact this i (by rw [AV.ids];exact zh9 (X6 h) i b)
  ·cases h
 ·split at h
  ·rename_i x e;have:=(zb9 c e).1;unfold qb2 at h;split at h
   ·split at h
    ·intro i b;exact this i (by rw [AV.ids];exact jj6 h i b)
    ·cases h
   ·cases h
  ·cases h
 ·split at h
  ·rename_i x d e t;have:=(zb9 c e).1;split at h
   ·cases h
   ·simp only [X0] at h;subst h;intro i b;exact this i (by rw [AV.ids] at b;exact b)
  ·cases h
 ·split at h
  ·rename_i x y e q;simp only [X0] at h;subst h;intro i b;rw [AV.ids] at b;rcases X4.1 b with b|b
   ·exact jj4 c e i b
   ·exact jj4 c q i b
  ·cases h
 ·split at h
  ·rename_i u z l r g s;split at h
   ·rename_i cs j;simp only [X0] at h;subst h;unfold qe0 at g;split at g
    ·simp only [X0] at g;subst g;intro i b;rw [AV.ids] at b;exact yl1 j (by rw [yl8];intro i b;cases b) (yq9 c s) i b
    ·cases g
   ·cases h
  ·cases h
 ·split at h
  ·rename_i x v f m A e B;have:=(zb9 c e).1;split at h
   ·cases h
   ·unfold qt0 at h;split at h<;>simp only [X0,reduceCtorEq] at h<;>subst h<;>exact this
  ·cases h
 ·cases h
def vw7 {e a} (d:Sim T w0 S0 ⟨F,H⟩ F' w S φ) (h:jh4 T P e F=some a) (c:(ks4 e||zh1 a)=true):okA H a:=by
 rcases J5 _ _▸c with c|c
 ·cases e<;>first|cases c|skip
  ·exact zb9 d h
  ·exact zb9 d h
  ·unfold jh4 at h;simp only at h;split at h
   ·rename_i x i f m j g l;have b:=zb9 d g;split at h
    ·cases h
    ·unfold qt0 at h;split at h<;>simp only [X0,reduceCtorEq] at h<;>subst h
     ·exact ⟨b.1,trivial⟩
     ·exact b
     ·exact ⟨b.1,trivial⟩
     ·exact ⟨b.1,trivial⟩
   ·cases h
 ·exact zc7 c (vk7 d h)
def VR.int (kk:IntKind) (x:Int):VR T w S φ (cI T kk x) (.int kk x):=by rw [VR];exact CR.int _ _
def VR.bool (x:Bool):VR T w S φ (cB T x) (.bool x):=by rw [VR];exact CR.bool _
def jo4 {a v} (c:dec ops k n F'=some o) (d:(execOp (evD F') o).run P w=.ok (.value v) w) (h:Sim T w0 S0 ⟨F,H⟩ F' w S φ) (e:VR T w S φ a v) (b:okA H a) (K:zq8 P ops Q (k+1) n ds w0 S0 (⟨za5 T F o.dst a,H⟩:St T)):WR P ops Q k n ds F' w:=
 .val c d (K _ _ ⟨S,φ,h.slot e b⟩)
def vk4 {c x y z} (h:kg2 T c x y=some z) {X Y} (d:VR T w S φ x X) (e:VR T w S φ y Y):VR T w S φ z (if c=true then X else Y)/\z.ids= []/\zh1 z=true:=by
 unfold kg2 at h;split at h
 ·split at h
  ·rename_i f;have:=za1 f;subst this;simp only [X0] at h;subst h;have a:=v8 d;have b:=v8 e;subst a;subst b;refine ⟨?_,rfl,rfl⟩;cases c<;>exact .int _ _
  ·cases h
 ·simp only [X0] at h;subst h;have a:=ze8 d;have b:=ze8 e;subst a;subst b;refine ⟨?_,rfl,rfl⟩;cases c<;>exact .bool _
 ·cases h
def kx5 {Z:Prop} {R:Type} {r:R} {c x y:Operand} (N:dec ops k n F'=some o) (g:o.op=.pick c x y) {t:Bool} {a b:AV T.U} (u:aev T F c=some (cB T t)) (l:aev T F x=some a) (m:aev T F y=some b) {p:AV T.U->Option R} (d:jc9 t a b p=some r)
  (h:Sim T w0 S0 ⟨F,H⟩ F' w S φ) (K: ∀a v,p a=some r->QR P F' o S φ rd w v->VR T w S φ a v->okA H a->Z):Z:=by
 obtain ⟨O,A,B⟩:=j7 h.fr u;have e:=ze8 B;subst e;obtain ⟨X,D,q⟩:=j7 h.fr l;obtain ⟨Y,E,s⟩:=j7 h.fr m;have f:QR P F' o S φ rd w (if t=true then X else Y):=fun V _ _=>by simp [execOp,g,j8 A,j8 D,j8 E,asBool]
 unfold jc9 at d;split at d
 ·rename_i z G;obtain ⟨I,J,L⟩:=vk4 G q s;exact K _ _ d f I (zc7 L (by rw [J];intro i M;cases M))
 ·split at d
  ·rename_i j;simp only [X3] at j;cases t with
   |true=>rw [if_pos rfl] at d f;exact K _ _ d f q (zb9 h l)
   |false=>rw [if_neg (by simp)] at d f;exact K _ _ d f s (zb9 h m)
  ·cases d
def ya9 {R:Type} {c:Prop} {_:Decidable c} {x:Option R} {r:R} (h:(if c then none else x)=some r): ¬c/\x=some r:=by
 split at h
 ·cases h
 ·rename_i a;exact ⟨a,h⟩
def gf1 {Z:Prop} {R:Type} {r:R} {b:BinOp} {t ty:TypeId} {x y:Operand} (J:dec ops k n F'=some o) (f:o.op=.binOp b t x y ty) {a c:AV T.U} (G:aev T F x=some a) (I:aev T F y=some c) {D:AV T.U->Option R} (d:divA T b a c D=some r)
  (h:Sim T w0 S0 ⟨F,H⟩ F' w S φ) (K: ∀a v,D a=some r->QR P F' o S φ rd w v->VR T w S φ a v->okA H a->Z):Z:=by
 obtain ⟨X,p,q⟩:=j7 h.fr G;obtain ⟨Y,s,u⟩:=j7 h.fr I;have m: ∀(E:IntKind) (z:Int),okA H (cI T E z):=fun E z=>⟨fun i m=>(by cases m),trivial⟩;unfold divA at d;split at d
 ·split at d
  ·rename_i A;have:=za1 A;subst this;have g:=v8 q;have j:=v8 u;subst g;subst j;unfold divA.divI at d;obtain ⟨e,l⟩:=ya9 d;exact K _ _ l (fun B _ _=>by simp [execOp,f,j8 p,j8 s,eqGuard,binOp,Op.intDiv,e]) (.int _ _) (m _ _)
  ·cases d
 ·split at d
  ·rename_i A;have:=za1 A;subst this;have g:=v8 q;have j:=v8 u;subst g;subst j;unfold divA.remI at d;obtain ⟨e,l⟩:=ya9 d;exact K _ _ l (fun B _ _=>by simp [execOp,f,j8 p,j8 s,eqGuard,binOp,Op.intDiv,e]) (.int _ _) (m _ _)
  ·cases d
 ·have g:=v8 q;have j:=v8 u;subst g;subst j;unfold divA.shlI at d;obtain ⟨e,l⟩:=ya9 d;exact K _ _ l (fun B _ _=>by simp [execOp,f,j8 p,j8 s,eqGuard,binOp,Op.shift,e,gl3]) (.int _ _) (m _ _)
 ·have g:=v8 q;have j:=v8 u;subst g;subst j;unfold divA.shrI at d;obtain ⟨e,l⟩:=ya9 d;exact K _ _ l (fun B _ _=>by simp [execOp,f,j8 p,j8 s,eqGuard,binOp,Op.shift,e,ku6]) (.int _ _) (m _ _)
 ·cases d
def qf0 {Z:Prop} {t:TypeId} {x:Operand} (hd:dec ops k n F'=some o) (hop:o.op=.load t x) {i o1 sz n0 j c:Nat} {e:TypeId} {cs r:List (AV T.U)} {ty:Ty} {xs:List (den T.U ty)} {a:AV T.U} (hx:aev T F x=some (.aptr i o1 sz n0 j c)) (hi:H[i]?=some (.blk e cs)) (hloc:jb2 T cs o1=some (.arr ty n0 xs::r)) (hsz:szT T ty=sz) (hl:zt0 T P t (zu4 T ty (xs.getD j (zz9 T ty))) c=some a)
  (h:Sim T w0 S0 ⟨F,H⟩ F' w S φ) (hrd:i∈rd) (K: ∀v,QR P F' o S φ rd w v->VR T w S φ a v->okA H a->Z):Z:=by
 obtain ⟨v,h1,g,h2,hj,rfl⟩:=j7 h.fr hx;obtain ⟨g',cc,vals,a1,a2,a3,a4,a5,a6⟩:=ka7 (h.ents i _ hi) hloc;rw [h2] at a1;simp only [X0,Addr.mk.injEq,and_true] at a1;subst a1;subst hsz;have hcut:=a6.cut (j*szT T ty) (szT T ty);rw [yh5 (k7 T ty) (zn0 (zz9 T ty) (show j<xs.length by omega))] at hcut;have hr:Rg w (some ⟨g,o1+j*szT T ty,none⟩) ((vals.drop (j*szT T ty)).take (szT T ty)):=Rg.sub a5 _ _ _ fun _=>rfl;exact jx6 hd hop (b:=g) (o0:=o1+j*szT T ty) (c:=c) (by rw [h1,V2]) (fun w1 _ hsm=>Rg.same hr (show w1.heap[g]?=w.heap[g]? from hsm i hrd _ h2 a2.lt)) (CellsR.vrl hcut) (yp3 _ _) (yp2 _ _) hl K
def kc1 {Z:Prop} {t:TypeId} {x:Operand} (m:dec ops k n F'=some o) (f:o.op=.load t x) {p a:AV T.U} (q:aev T F x=some p) (d:loadA T P t H p=some a) (h:Sim T w0 S0 ⟨F,H⟩ F' w S φ) (g: ∀i∈p.ids,i∈rd) (K: ∀v,QR P F' o S φ rd w v->VR T w S φ a v->okA H a->Z):Z:=by
 unfold loadA at d;split at d
 ·split at d
  ·rename_i e cs j;split at d
   ·cases d
   ·rename_i s;exact qs8 m f q j (fun i sz A c e=>s i sz A c (e▸d)) d h (g _ (by simp [AV.ids])) K
  ·cases d
 ·split at d
  ·rename_i e cs j;split at d
   ·rename_i b r l;split at d
    ·rename_i ty D xs B;have:=zt5 B;subst this;split at d
     ·rename_i u;rw [X3] at u;have y:=X1 u.1;have z:=X1 u.2;subst y;exact qf0 m f q j l z d h (g _ (by simp [AV.ids])) K
     ·cases d
    ·cases d
   ·cases d
  ·cases d
 ·split at d
  ·rename_i e ty xs j;exact qf1 m f q j d h (g _ (by simp [AV.ids])) K
  ·cases d
 ·exact qf2 m f q d h K
 ·cases d
def vz6 {t x y} (r:dec ops k n F'=some o) (f:o.op=.store t x y) (d:o.dst=none) {p a H1} (s:aev T F x=some p) (u:aev T F y=some a) (b:jd8 T P t H p a=some H1) (h:Sim T w0 S0 ⟨F,H⟩ F' w S φ) (K:zq8 P ops Q (k+1) n ds w0 S0 (⟨F,H1⟩:St T)):WR P ops Q k n ds F' w:=by
 unfold jd8 at b;split at b
 ·split at b
  ·rename_i e cs j;split at b
   ·rename_i z m;simp only [X0] at b;subst b;obtain ⟨X,A,g,D,rfl⟩:=j7 h.fr s;exact ys5 r f d A D u j (fun vs v E q=>qv6 m E q) h K
   ·cases b
  ·cases b
 ·rename_i i1 W G n1 Y Z;split at b
  ·rename_i e cs j;split at b
   ·rename_i l m I;split at b
    ·rename_i z ht;simp only [X0] at b;subst b;obtain ⟨X,A,g,D,J,rfl⟩:=j7 h.fr s;obtain ⟨ii,hii,V,f2,f3,f4⟩:=yb7 m;refine ys5 r f d A D u j (fun vs v E q=>?_) h K;have L:=zs4 I (zj4 V q);have M:=(zj4 V q).len T;obtain ⟨g1,g2,g3⟩:=BR.turn (us:=v.cells.toList) (ex:= []) ht E fun l1 l2 B N hB=>qf5 N hB J L;refine ⟨g1,fun i j=>(g3 i j).imp id (fun h=>absurd h (by simp)),fun c0 hcs=>?_⟩;exact qd8 m q (c:=c0) (p:=W+(Y*G+Z)) (by rw [M];omega)
    ·cases b
   ·cases b
  ·cases b
 ·split at b
  ·rename_i e ty xs j;split at b
   ·rename_i m I;split at b
    ·rename_i y' O;simp only [X0] at b;subst b;exact jo2 r f d s u j m I O h K
    ·cases b
   ·cases b
  ·cases b
 ·cases b
end
end Go.X
