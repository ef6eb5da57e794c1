import Derived.Test.YtliopfopmhhdeaaGreatA3
set_option linter.defProp false
namespace Go.X
open Go.RowKit Go.V
section
variable {T:Tab} {P:Program} {w w':World} {S S':List Nat} {φ φ':Nat->RA} {w0:World} {S0:Ow} {F:AF T} {H:List (Ent T.U)} {F':PF}
variable {rd:List Nat} {ops:Array Oper} {Q:Exit->Act->World->Prop} {k n:Nat} {ds:List Deferred} {o:Oper}
def zd7 {t:TypeId} {n sz:Nat} (h:zf2 P t=some (n,sz)): ∃e inf,P.underlying t=some (.array n e)/\P.info? e=some inf/\inf.size=sz/\ ∀w,(sizeOf e).run P w=.ok sz w:=by
 unfold zf2 at h;split at h
 ·rename_i m e hu;split at h
  ·rename_i inf hi;simp only [X0,X7] at h;obtain ⟨rfl,rfl⟩:=h;exact ⟨e,inf,hu,hi,rfl,fun w=>by simp [sizeOf,typeInfo,hi]⟩
  ·cases h
 ·cases h
def zs5 (b o1 d:Nat):(⟨b,o1,none⟩:Addr).add d=⟨b,o1+d,none⟩:=by unfold Addr.add;split<;>simp_all
def QR.indexArr {t:TypeId} {x y:Operand} {b o1 n0 sz:Nat} {kk:IntKind} {i:Int} (h0:dec ops k n F'=some o) (hop:o.op=.indexAddr t x y) (hai:zf2 P t=some (n0,sz)) (hx:ev F' x=some (.pointer (some ⟨b,o1,none⟩))) (hy:ev F' y=some (.int kk i)) (hi:0<=i/\i<(n0:Int)):
  QR P F' o S φ rd w (.pointer (some ⟨b,o1+i.toNat*sz,none⟩)):=by
 obtain ⟨e,inf,hu,_,_,hs⟩:=zd7 hai;intro w1 _ _;have h1:=hi.1;have h2:=hi.2;simp [execOp,hop,z8 hx,z8 hy,Instr.indexAt,asIntOf,run_underlying hu,Instr.sureAddr,h1,h2,hs,zs5]
def vd9 {Z:Prop} {R:Type} {r:R} {t:TypeId} {x y:Operand} {n0 sz:Nat} (hd:dec ops k n F'=some o) (hop:o.op=.indexAddr t x y) (hai:zf2 P t=some (n0,sz)) {s:AV T.U} {kk:IntKind} {j:Int} (hx:aev T F x=some s) (hy:aev T F y=some (cI T kk j)) {K0:AV T.U->Option R} (hK0:ya1 T n0 sz H s j K0=some r)
  (h:Sim T w0 S0 ⟨F,H⟩ F' w S φ) (K: ∀a v,K0 a=some r->QR P F' o S φ rd w v->VR T w S φ a v->okA H a->Z):Z:=by
 obtain ⟨X,h1,h2⟩:=z7 h.fr hx;obtain ⟨Y,h3,h4⟩:=z7 h.fr hy;have e:=j9 h4;subst e;have hok:=zb2 h hx;unfold ya1 at hK0;split at hK0
 ·rename_i i o1;obtain ⟨g,hg,rfl⟩:=h2;split at hK0
  ·rename_i e cs hi;split at hK0
   ·rename_i b r hl;split at hK0
    ·rename_i ty m xs hb;have:=zq2 hb;subst this;split at hK0
     ·rename_i hm;rw [X3] at hm;have hm1:=X1 hm.1;have hm2:=X1 hm.2;obtain ⟨hj,hK⟩:=j5 hK0;exact K _ _ hK (QR.indexArr hd hop hai h1 h3 hj) ⟨g,hg,by omega,by simp⟩ ⟨hok.1,trivial⟩
     ·cases hK0
    ·obtain ⟨hj,hK⟩:=j5 hK0;exact K _ _ hK (QR.indexArr hd hop hai h1 h3 hj) ⟨g,hg,rfl⟩ ⟨hok.1,trivial⟩
   ·cases hK0
  ·cases hK0
 ·rename_i e xs k1 c;split at hK0
  ·rename_i hm;rw [X3] at hm;have hm1:=X1 hm.1;have hm2:=X1 hm.2;obtain ⟨hj,hK1⟩:=j5 hK0;obtain ⟨hj2,hK⟩:=j5 hK1;obtain ⟨ad,cap,hc,hk,rfl⟩:=h2;subst hm1;subst hm2;exact K _ _ hK (QR.indexArr hd hop hai h1 h3 hj) ⟨ad,cap,hc,hj2,by simp [V6,V1]⟩ ⟨hok.1,trivial⟩
  ·cases hK0
 ·rename_i i s k1 c;split at hK0
  ·rename_i e ty xs hi;split at hK0
   ·rename_i hm;rw [X3,X3] at hm;have hm1:=X1 hm.1;have hm2:=X1 hm.2.1;have hm3:=X1 hm.2.2;obtain ⟨hj,hK1⟩:=j5 hK0;obtain ⟨hj2,hK⟩:=j5 hK1;obtain ⟨g,hg,rfl⟩:=h2;subst hm1;subst hm2;subst hm3;refine K _ _ hK (QR.indexArr hd hop hai h1 h3 hj) ⟨g,hg,by simp [V6,V1]⟩ ⟨hok.1,?_⟩;intro e1 t1 ys hy1;have hi':H[i]?=some (.row e ty xs):=hi;rw [hi'] at hy1;simp only [X0,Ent.row.injEq] at hy1;obtain ⟨rfl,rfl,hh⟩:=hy1;have:=eq_of_heq hh;subst this;exact ⟨hj2,rfl⟩
   ·cases hK0
  ·cases hK0
 ·cases hK0
def va6 (P:Program) (t:TypeId):Option (Nat×Nat):=match P.underlying t with|some (.pointer a)=>zf2 P a|_=>zf2 P t
def yx6 {n0:Nat} {l h:Option Int} {kl kh:IntKind} (hj:0<=l.getD 0/\l.getD 0<=h.getD n0/\h.getD n0<=(n0:Int)) (w:World):(Instr.sliceBounds false n0 n0 (l.map (Value.int kl)) (h.map (Value.int kh)) none).run P w=.ok ((l.getD 0).toNat,(h.getD n0).toNat,n0) w:=by
 obtain ⟨h1,h2,h3⟩:=hj;cases l<;>cases h<;>simp only [N6,V2] at h1 h2 h3⊢
 ·simp [Instr.sliceBounds]
 ·rename_i b;simp [Instr.sliceBounds,Instr.sliceBound,asIntOf,h2,h3]
 ·rename_i a;simp [Instr.sliceBounds,Instr.sliceBound,asIntOf,h1,h2]
 ·rename_i a b;have e:a<=((b.toNat:Nat):Int):=by omega
  have e2:0<=b:=by omega
  have e3: ¬max b 0<a:=by omega
  simp [Instr.sliceBounds,Instr.sliceBound,asIntOf,h1,e2,h3,e,e3]
def QR.sliceArr {t:TypeId} {x:Operand} {lo hi:Option Operand} {b o1 n0 sz:Nat} {l m:Option Int} {kl kh:IntKind} (h0:dec ops k n F'=some o) (hop:o.op=.slice t x lo hi none) (hai:va6 P t=some (n0,sz)) (hx:ev F' x=some (.pointer (some ⟨b,o1,none⟩)))
  (e1:lo.map (evD F')=l.map (Value.int kl)) (e2:hi.map (evD F')=m.map (Value.int kh)) (hj:0<=l.getD 0/\l.getD 0<=m.getD n0/\m.getD n0<=(n0:Int)):
  QR P F' o S φ rd w (.slice (some (if n0=(l.getD 0).toNat then ⟨b,o1,none⟩ else ⟨b,o1+(l.getD 0).toNat*sz,none⟩)) ((m.getD n0).toNat-(l.getD 0).toNat) (n0-(l.getD 0).toNat)):=by
 intro w1 _ _;have hb:=yx6 (P:=P) (kl:=kl) (kh:=kh) hj w1;unfold va6 at hai;split at hai
 ·rename_i a hu;obtain ⟨e,inf,hu2,_,_,hs⟩:=zd7 hai;have:(Instr.sliceAt t (.pointer (some ⟨b,o1,none⟩)) (l.map (Value.int kl)) (m.map (Value.int kh)) none).run P w1=.ok (.slice (some (if n0=(l.getD 0).toNat then ⟨b,o1,none⟩ else ⟨b,o1+(l.getD 0).toNat*sz,none⟩)) ((m.getD n0).toNat-(l.getD 0).toNat) (n0-(l.getD 0).toNat)) w1:=by
   simp [Instr.sliceAt,Instr.slice,run_underlying hu,run_underlying hu2,asAddr,hb,hs,zs5]
  simp [execOp,hop,z8 hx,e1,e2,this]
 ·obtain ⟨e,inf,hu2,_,_,hs⟩:=zd7 hai;have:(Instr.sliceAt t (.pointer (some ⟨b,o1,none⟩)) (l.map (Value.int kl)) (m.map (Value.int kh)) none).run P w1=.ok (.slice (some (if n0=(l.getD 0).toNat then ⟨b,o1,none⟩ else ⟨b,o1+(l.getD 0).toNat*sz,none⟩)) ((m.getD n0).toNat-(l.getD 0).toNat) (n0-(l.getD 0).toNat)) w1:=by
   simp [Instr.sliceAt,run_underlying hu2,Instr.sureAddr,hb,hs,zs5]
  simp [execOp,hop,z8 hx,e1,e2,this]
def vi6 {Z:Prop} {R:Type} {r:R} {t:TypeId} {x:Operand} {lo hi:Option Operand} {n0 sz:Nat} (hd:dec ops k n F'=some o) (hop:o.op=.slice t x lo hi none) (hai:va6 P t=some (n0,sz)) {s:AV T.U} {l m:Option Int} (hx:aev T F x=some s) (hlo:jo1 F lo=some l) (hhi:jo1 F hi=some m)
  {K0:AV T.U->Option R} (hK0:yj9 T n0 sz H s l m K0=some r) (h:Sim T w0 S0 ⟨F,H⟩ F' w S φ) (K: ∀a v,K0 a=some r->QR P F' o S φ rd w v->VR T w S φ a v->okA H a->Z):Z:=by
 obtain ⟨X,h1,h2⟩:=z7 h.fr hx;obtain ⟨kl,e1⟩:=yn9 h.fr hlo;obtain ⟨kh,e2⟩:=yn9 h.fr hhi;have hok:=zb2 h hx;unfold yj9 at hK0;simp only at hK0;split at hK0
 ·rename_i i o1;obtain ⟨g,hg,rfl⟩:=h2;split at hK0
  ·rename_i e cs hi;split at hK0
   ·rename_i b r hl;split at hK0
    ·rename_i ty mm xs hb;have:=zq2 hb;subst this;split at hK0
     ·rename_i hm;rw [X3] at hm;have hm1:=X1 hm.1;have hm2:=X1 hm.2;obtain ⟨hj,hK⟩:=j5 hK0;refine K (.asl i o1 sz n0 (l.getD 0).toNat ((m.getD n0).toNat-(l.getD 0).toNat)) _ hK (QR.sliceArr hd hop hai h1 e1 e2 hj) ⟨g,_,hg,rfl,by omega,?_⟩ ⟨hok.1,trivial⟩;split
      ·left;omega
      ·right;rfl
     ·cases hK0
    ·cases hK0
   ·cases hK0
  ·cases hK0
 ·rename_i e xs k1 c;split at hK0
  ·rename_i hm;rw [X3,X3] at hm;have hm1:=X1 hm.1;have hm2:=X1 hm.2.1;have hm3:=X1 hm.2.2;subst hm1;subst hm2;subst hm3;obtain ⟨hn,hK1⟩:=j5 hK0;obtain ⟨hj,hK⟩:=j5 hK1;obtain ⟨ad,cap,hc,hk,rfl⟩:=h2;refine K (.cell ⟨.list e,_⟩) _ hK (QR.sliceArr hd hop hai h1 e1 e2 hj) ?_ ⟨fun i hi=>(by cases hi),trivial⟩;show CR T w S (.list e) (List.take ((m.getD n0).toNat-(l.getD 0).toNat) (List.drop (l.getD 0).toNat xs)) _;have had:ad=some ⟨bk ad,of ad,none⟩:=by
    generalize hv:Value.slice ad xs.length cap=v at hc;cases hc with
    |list _ _ ad' cap' u hcap hnil had hcell hrel=>
     simp only [Value.slice.injEq,true_and] at hv;obtain ⟨rfl,rfl⟩:=hv;exact (had (by intro e;subst e;simp at hk)).1
   have h3:=CR.sub hc (i:=0) (m:=n0) (by omega);rw [qj5,N2] at h3;have hl3:(xs.take n0).length=n0:=by rw [Y6];omega
   have h4:CR T w S (.list e) (xs.take n0) (.slice ad (xs.take n0).length n0):=CR.recap (by rw [hl3];exact h3) (by omega) (by intro e;rw [e] at had;cases had);have h5:=CR.sub h4 (i:=(l.getD 0).toNat) (m:=(m.getD n0).toNat-(l.getD 0).toNat) (by omega);rw [List.drop_take,List.take_take,V5 (by omega)] at h5;have hcut:zg8 ad n0 (l.getD 0).toNat (szT T e)=some (if n0=(l.getD 0).toNat then ⟨bk ad,of ad+(0*szT T e+0),none⟩ else ⟨bk ad,of ad+(0*szT T e+0)+(l.getD 0).toNat*szT T e,none⟩):=by
    unfold zg8;generalize bk ad=b at *;generalize of ad=o1 at *;subst had;split
    ·simp
    ·simp [zs5]
   rwa [hcut] at h5
  ·cases hK0
 ·cases hK0
def vq5 {Z:Prop} {R:Type} {r:R} {t:TypeId} {x:Operand} {n0 sz:Nat} (hop:o.op=.sliceToArrayPointer t x) (hai:zf2 P t=some (n0,sz)) {s:AV T.U} (hx:aev T F x=some s)
  {K0:AV T.U->Option R} (hK0:yi6 T n0 sz H s K0=some r) (h:Sim T w0 S0 ⟨F,H⟩ F' w S φ) (K: ∀a v,K0 a=some r->QR P F' o S φ rd w v->VR T w S φ a v->okA H a->Z):Z:=by
 obtain ⟨X,h1,h2⟩:=z7 h.fr hx;have hok:=zb2 h hx;obtain ⟨e0,inf,hu,_,_,_⟩:=zd7 hai;have run: ∀(ad:Option Addr) (m cap:Nat),X=.slice ad m cap->n0<=m->QR P F' o S φ rd w (.pointer ad):=by
  intro ad m cap e hm w1 _ _;subst e;simp [execOp,hop,z8 h1,Instr.arrayAt,run_underlying hu,Nat.not_lt.2 hm]
 unfold yi6 at hK0;split at hK0
 ·rename_i e xs;split at hK0
  ·rename_i hm;rw [X3] at hm;have hm2:=Y1 hm.2;obtain ⟨hn,hK⟩:=j5 hK0;have h2:CR T w S (.list e) xs X:=h2;have h2':=h2;cases h2' with
   |list _ _ ad cap u hcap hnil had hcell hrel=>
    have hq:=run ad _ _ rfl hn;have ha:=(had (by intro e;subst e;simp at hn;omega)).1;refine K _ _ hK hq ⟨ad,cap,h2,by omega,?_⟩ ⟨fun i hi=>(by cases hi),trivial⟩;have ha2:ad=some ⟨bk ad,of ad+(0*szT T e+0),none⟩:=by rw [M0];exact ha
    exact congrArg Value.pointer ha2
  ·cases hK0
 ·rename_i i;split at hK0
  ·rename_i e ty xs hi;split at hK0
   ·rename_i hm;rw [X3] at hm;have hm1:=X1 hm.1;have hm2:=Y1 hm.2;subst hm1;obtain ⟨hn,hK⟩:=j5 hK0;rw [VR] at h2;subst h2;obtain ⟨g,c,B,vals,a1,a2,_⟩:=yw5 h hi (by omega);refine K _ _ hK (run _ _ _ rfl (by omega)) ⟨g,a1,by rw [a1];simp⟩ ⟨hok.1,?_⟩;intro e1 t1 ys hy1;have hi':H[i]?=some (.row e ty xs):=hi;rw [hi'] at hy1;simp only [X0,Ent.row.injEq] at hy1;obtain ⟨rfl,rfl,hh⟩:=hy1;have:=eq_of_heq hh;subst this;exact ⟨by omega,rfl⟩
   ·cases hK0
  ·cases hK0
 ·cases hK0
def vi8 {t e:TypeId} {n0:Nat} (hu:P.underlying t=some (.array n0 e)):zh9 P t=false/\(P.underlying t).isSome=true:=by
 unfold zh9;rw [hu];exact ⟨rfl,rfl⟩
def jx4 {α β:Type} {f:α->List β} {sz:Nat} (hf: ∀y,(f y).length=sz) (l:List α) (a b:Nat):((l.flatMap f).drop (a*sz)).take (b*sz)=((l.drop a).take b).flatMap f:=by
 have h1:(l.flatMap f).drop (a*sz)=(l.drop a).flatMap f:=by
  induction l generalizing a with
  |nil=>simp
  |cons x r ih=>
   cases a with
   |zero=>simp
   |succ a=>rw [V4,List.drop_succ_cons,V8,J6,List.drop_append,hf,R2 (by rw [hf];omega),M6,N1,ih]
 rw [h1];generalize l.drop a=l;induction l generalizing b with
 |nil=>simp
 |cons x r ih=>
  cases b with
  |zero=>simp
  |succ b=>rw [V4,List.take_succ_cons,V4,V8,J6,List.take_append,hf,Q4 (by rw [hf];omega),M6,ih]
def vu0 {Z:Prop} {R:Type} {r:R} {t:TypeId} {x:Operand} {n0 sz:Nat} (hd:dec ops k n F'=some o) (hop:o.op=.load t x) (hai:zf2 P t=some (n0,sz)) {ok:Bool} (hk:ok=true->yp5 P t=some (n0*sz)) {s:AV T.U} (hx:aev T F x=some s)
  {K0:AV T.U->Option R} {D:Option R} (hK0:yh3 T n0 sz ok H s K0 D=some r) (h:Sim T w0 S0 ⟨F,H⟩ F' w S φ) (hrd: ∀i∈s.ids,i∈rd) (K: ∀a v,K0 a=some r->QR P F' o S φ rd w v->VR T w S φ a v->okA H a->Z) (KD:D=some r->Z):Z:=by
 obtain ⟨X,h1,h2⟩:=z7 h.fr hx;obtain ⟨e0,inf,hu,_,_,_⟩:=zd7 hai;obtain ⟨u1,u2⟩:=vi8 hu;unfold yh3 at hK0;split at hK0
 ·rename_i e xs k1 c;split at hK0
  ·rename_i hm;rw [X3,X3] at hm;have hm1:=X1 hm.2.1;have hm2:=X1 hm.2.2;subst hm1;subst hm2;obtain ⟨hle,hK⟩:=j5 hK0;obtain ⟨ad,cap,hc,hk1,rfl⟩:=h2;have had:bk ad∉S:=by
    generalize hv:Value.slice ad xs.length cap=v at hc;cases hc with
    |list _ _ ad' cap' u hcap hnil had hcell hrel=>
     simp only [Value.slice.injEq,true_and] at hv;obtain ⟨rfl,rfl⟩:=hv;exact (had (by intro e;subst e;simp at hk1)).2.2
   obtain ⟨_,_,vals,hr,hcr⟩:=jd4 hc;have hcut:=hcr.cut (k1*szT T e) (n0*szT T e);rw [jx4 (q7 T e)] at hcut;have hlen:((xs.drop k1).take n0).length=n0:=by rw [Y6,Q7];omega
   have hvl:=hcut.1;rw [flatMap_lenT (q7 T e),hlen] at hvl;exact K _ _ hK (QR.loadA hd (fun w1 hc1 _=>hr.chg hc1 (.inl had)) (by rw [zt5 hd hop,z8 h1,J4]) u1 u2 (hk hm.1) _ hvl.symm rfl) ⟨_,rfl,hlen,hcut⟩ ⟨fun i hi=>(by cases hi),trivial⟩
  ·exact KD hK0
 ·rename_i i s k1 c;split at hK0
  ·rename_i e ty xs hi;split at hK0
   ·rename_i hm;rw [X3,X3,X3] at hm;have hm1:=X1 hm.2.1;have hm2:=X1 hm.2.2.1;have hm3:=X1 hm.2.2.2;subst hm1;subst hm2;subst hm3;obtain ⟨hle,hK⟩:=j5 hK0;obtain ⟨hj,_⟩:=(zb2 h hx).2 e ty xs hi;obtain ⟨g,hg,rfl⟩:=h2;obtain ⟨g',carr,B,vals,a1,a2,a3,a4,a5,a6,a7,a8,_⟩:=yw5 h hi (by omega);rw [hg] at a1;simp only [X0,Addr.mk.injEq,and_true] at a1;subst a1;have hr:Rg w (φ i).ad vals:=a3.rg;rw [hg] at hr;have hcut:=a7.cut (k1*szT T ty) (n0*szT T ty);rw [jx4 (q7 T ty)] at hcut;have hlen:((xs.drop k1).take n0).length=n0:=by rw [Y6,Q7];omega
    have hvl:=hcut.1;rw [flatMap_lenT (q7 T ty),hlen] at hvl;exact K _ _ hK (QR.loadA (ad:=some ⟨g,0,none⟩) hd (fun w1 _ hsm=>Rg.same hr (show w1.heap[g]?=w.heap[g]? from hsm i (hrd i (by simp [AV.ids])) _ hg a4.lt)) (by rw [zt5 hd hop,z8 h1];rfl) u1 u2 (hk hm.1) _ hvl.symm rfl) ⟨_,rfl,hlen,hcut⟩ ⟨fun i hi=>(by cases hi),trivial⟩
   ·exact KD hK0
  ·exact KD hK0
 ·exact KD hK0
def yj5 {R:Type} (T:Tab) (n sz:Nat) (a:AV T.U) (j:Int) (K:AV T.U->Option R):Option R:=
 match a with
 | .arr ty m xs=>match Nat.beq m n&&(Nat.beq (szT T ty) sz&&(ty.one&&Nat.beq sz 1)) with
  |true=>if 0<=j/\j<((n:Nat):Int) then K (.cell ⟨ty,xs.getD j.toNat (zv6 T ty)⟩) else none
  |false=>none
 | .agg (.cell c::cs)=>match c.t.one&&Nat.beq sz 1,jb5 T c.t n (.cell c::cs) with
  |true,some xs=>if 0<=j/\j<((n:Nat):Int) then K (.cell ⟨c.t,xs.getD j.toNat (zv6 T c.t)⟩) else none
  |_,_=>none
 |_=>none
def vg7 {e:TypeId} {inf:TypeInfo} {d:TypeDesc} (hi:P.info? e=some inf) (hs:inf.size=1) (hu:P.underlying e=some d) (hd:zx8 d=false) {cs:Array Value} {j:Nat} {v:Value} (hj:cs[j]?=some v) (w:World):(part e cs j).run P w=.ok v w:=by
 refine yh6 ?_ w;unfold yp3;simp only [hi,hu,hd];exact hj
def vg1 {t:Ty} (h:t.one=true):szT T t=1:=by cases t<;>first|rfl|cases h
def ve0 {Z:Prop} {R:Type} {r:R} {t e:TypeId} {d:TypeDesc} {x y:Operand} {n0 sz:Nat} (hop:o.op=.index t x y) (hai:zf2 P t=some (n0,sz)) (hel:P.underlying t=some (.array n0 e)) (hu:P.underlying e=some d) (had:zx8 d=false) {s:AV T.U} {kk:IntKind} {j:Int} (hx:aev T F x=some s) (hy:aev T F y=some (cI T kk j))
  {K0:AV T.U->Option R} (hK0:yj5 T n0 sz s j K0=some r) (h:Sim T w0 S0 ⟨F,H⟩ F' w S φ) (K: ∀a v,K0 a=some r->QR P F' o S φ rd w v->VR T w S φ a v->okA H a->Z):Z:=by
 obtain ⟨X,h1,h2⟩:=z7 h.fr hx;obtain ⟨Y,h3,h4⟩:=z7 h.fr hy;have e1:=j9 h4;subst e1;obtain ⟨e0,inf,hu0,hinf,hsz,hs⟩:=zd7 hai;rw [hel] at hu0;simp only [X0,TypeDesc.array.injEq,true_and] at hu0;subst hu0;have go: ∀(ty:Ty) (xs:List (den T.U ty)) (us:Array Value),ty.one=true->sz=1->X=.agg us->CellsR T w S (xs.flatMap (za1 T ty)) us.toList->xs.length=n0->(0<=j/\j<(n0:Int))->K0 (.cell ⟨ty,xs.getD j.toNat (zv6 T ty)⟩)=some r->Z:=by
  intro ty xs us hone hs1 hX hc hl hj hK;subst hX;have hjl:j.toNat<xs.length:=by omega
  have hg:=zk7 (zv6 T ty) hjl;have hfl:(xs.flatMap (za1 T ty))[j.toNat]?=some ⟨ty,xs.getD j.toNat (zv6 T ty)⟩:=by
   have:=yd4 (q7 T ty) hg;rw [vg1 hone,Nat.mul_one,yo6 T hone] at this;have h5:=congrArg (·[0]?) this;simpa [Z3,Q6] using h5
  have hul:j.toNat<us.toList.length:=by rw [<-hc.1];exact (X2.1 hfl).1
  obtain ⟨u,hu1⟩: ∃u,us.toList[j.toNat]?=some u:=⟨_,Y0 hul⟩;have hcr:=hc.2 _ _ _ hfl hu1;refine K _ u hK (fun w1 _ _=>?_) hcr ⟨fun i hi=>(by cases hi),trivial⟩;have hp:=vg7 (P:=P) hinf (by rw [hsz,hs1]) hu had (cs:=us) (j:=j.toNat) (by simpa using hu1) w1;have b1:=hj.1;have b2:=hj.2;have hs:=hs w1;rw [hs1] at hs;simp [execOp,hop,z8 h1,z8 h3,Instr.index,asIntOf,run_underlying hel,b1,b2,hs,hp]
 unfold yj5 at hK0;split at hK0
 ·rename_i ty m xs;split at hK0
  ·rename_i hm;rw [X3,X3,X3] at hm;have hm1:=X1 hm.1;have hm4:=X1 hm.2.2.2;subst hm1;obtain ⟨hj,hK⟩:=j5 hK0;obtain ⟨us,rfl,hl,hc⟩:=h2;exact go ty xs us hm.2.2.1 hm4 rfl hc hl hj hK
  ·cases hK0
 ·rename_i c cs;split at hK0
  ·rename_i xs hm hr;rw [X3] at hm;have hm4:=X1 hm.2;obtain ⟨hj,hK⟩:=j5 hK0;obtain ⟨us,rfl,hc⟩:=h2;obtain ⟨q1,q2⟩:=zz2 hr hc;exact go c.t xs us hm.1 hm4 rfl q2 q1 hj hK
  ·cases hK0
 ·cases hK0
def qw7 {a b:AV T.U} (h:qk7 T a b=true):a=b:=by
 unfold qk7 at h;split at h
 ·rw [X3] at h;obtain ⟨h1,h2⟩:=h;have h1:=v8 h1;subst h1;have h2:=eq_of_beq (show (_==_)=true from h2);exact congrArg (fun z=>AV.cell ⟨.int _,z⟩) h2
 ·have h2:=eq_of_beq (show (_==_)=true from h);exact congrArg (fun z=>AV.cell ⟨.bool,z⟩) h2
 ·cases h
def jm8: ∀ {z r s:List (AV T.U)},jg9 T z r=some s->r=z++s
 | [],r,s,h=>by simp only [jg9,X0] at h;exact h
 |_::_,[],s,h=>by cases h
 |a::z,b::r,s,h=>by
  unfold jg9 at h;split at h
  ·rename_i hs;rw [<-qw7 hs,jm8 h];rfl
  ·cases h
def jb4 {t:Ty} {x:den T.U t} {z:List (AV T.U)} (hz:z=(za1 T t x).map .cell): ∀ {m:Nat} {r:List (AV T.U)} {vs:List Value},jg4 T z m r=true->VRL T w S φ r vs->CellsR T w S ((List.replicate m x).flatMap (za1 T t)) vs
 |0,r,vs,h,hv=>by
  have:r= []:=by simpa [jg4] using h
  subst this;cases vs with
  |nil=>exact ⟨rfl,fun j c v h=>by simp at h⟩
  |cons v r=>exact hv.elim
 |m+1,r,vs,h,hv=>by
  unfold jg4 at h;split at h
  ·rename_i s hs;have:=jm8 hs;subst this;have h1:=hv.take T z.length;rw [List.take_left' rfl] at h1;have h2:=hv.drop T z.length;rw [List.drop_left' rfl] at h2;rw [List.replicate_succ,V4,<-List.take_append_drop z.length vs];refine CellsR.app ?_ (jb4 hz h h2);subst hz;exact VRL.cells.1 h1
  ·cases h
def qt5 {a:AV T.U} (h:js2 a=true):a=.raw (.slice none 0 0):=by
 unfold js2 at h;split at h
 ·rfl
 ·cases h
def jy9 {e:Ty}: ∀ {aS:List (AV T.U)} {vs:List Value},aS.all js2=true->VRL T w S φ aS vs->CellsR T w S ((List.replicate aS.length ([]:List (den T.U e))).flatMap (za1 T (.nl e))) vs
 | [],[],_,_=>⟨rfl,fun j c v h=>by cases h⟩
 | [],_::_,_,hv=>hv.elim
 |_::_,[],_,hv=>hv.elim
 |a::aS,v::vs,h,hv=>by
  rw [J0,X3] at h;have h1:=qt5 h.1;subst h1;have h2:v=.slice none 0 0:=hv.1;subst h2;show CellsR T w S (([⟨.nl e,([]:List (den T.U e))⟩]:List (Cell T.U))++(List.replicate aS.length ([]:List (den T.U e))).flatMap (za1 T (.nl e))) ([.slice none 0 0]++vs);refine CellsR.app ?_ (jy9 h.2 hv.2);refine ⟨rfl,fun j c v hj hv=>?_⟩
  match j with
  |0=>
   simp only [Y4,X0] at hj hv;subst hj;subst hv;exact .nl e [] none 0 (.list e [] none 0 (fun _ _=>.slice none 0 0) (W8 0) (fun _=>⟨rfl,rfl⟩) (fun h=>absurd rfl h) (fun k j c h=>by simp at h) (fun k j c h=>by simp at h)) fun _=>⟨rfl,rfl⟩
  |j+1=>simp at hj
def qg7 {t:Ty} {m:Nat} {aS:List (AV T.U)} {xs:List (den T.U t)} {vs:List Value} (h:qk2 T m aS t=some xs) (hv:VRL T w S φ aS vs):xs.length=m/\CellsR T w S (xs.flatMap (za1 T t)) vs:=by
 unfold qk2 at h;split at h
 ·split at h
  ·rename_i hb;rw [X3] at hb;simp only [X0] at h;subst h;have:=X1 hb.2;subst this;exact ⟨Z9,jy9 hb.1 hv⟩
  ·cases h
 ·cases h
def qr9 {t:Ty} {m:Nat} {aS:List (AV T.U)} {xs:List (den T.U t)} {vs:List Value} (h:vn5 T t m aS=some xs) (hv:VRL T w S φ aS vs):xs.length=m/\CellsR T w S (xs.flatMap (za1 T t)) vs:=by
 unfold vn5 at h;split at h
 ·rename_i ys hys;simp only [X0] at h;subst h;exact qg7 hys hv
 split at h
 ·rename_i l hl;split at h
  ·rename_i x hx;split at h
   ·rename_i hr;simp only [X0] at h;subst h;exact ⟨Z9,jb4 (by rw [zl6 T hx];exact zp1 hl) hr hv⟩
   ·exact zz2 h hv
  ·cases h
 ·cases h
def yk8: ∀ {ls:Lay} {aS cs:List (AV T.U)},yn5 T ls aS=some cs->(∀i∈j4 cs,i∈j4 aS)/\ ∀ {w:World} {S:List Nat} {φ:Nat->RA} {vs:List Value},VRL T w S φ aS vs->BR T w S φ cs vs
 | [],[],cs,h=>by
  simp only [yn5,X0] at h;subst h;exact ⟨fun i hi=>hi,fun hv=>⟨hv,trivial⟩⟩
 | [],_::_,cs,h=>by cases h
 |none::r,[],cs,h=>by cases h
 |none::r,a::s,cs,h=>by
  unfold yn5 at h;simp only at h;split at h
  ·rename_i hn;split at h
   ·rename_i l hl;simp only [X0] at h;subst h;obtain ⟨h1,h2⟩:=yk8 hl;refine ⟨fun i hi=>?_,fun {w S φ vs} hv=>?_⟩
    ·rw [j4] at hi⊢;exact X4.2 ((X4.1 hi).imp id (h1 i))
    ·match vs,hv with
     |v::vs,hv=>
      have:=h2 hv.2;exact ⟨by rw [zf4,zn2 T hn];exact ⟨hv.1,this.1⟩,zy3 T hn,this.2⟩
   ·cases h
  ·cases h
 |some (t,m)::r,aS,cs,h=>by
  unfold yn5 at h;split at h
  ·rename_i xs l hx hl;simp only [X0] at h;subst h;obtain ⟨h1,h2⟩:=yk8 hl;refine ⟨fun i hi=>?_,fun {w S φ vs} hv=>?_⟩
   ·rw [j4] at hi;rcases X4.1 hi with hi|hi
    ·cases hi
    ·have:=h1 i hi;rw [<-List.take_append_drop (m*szT T t) aS,yf5];exact X4.2 (.inr this)
   ·obtain ⟨q1,q2⟩:=qr9 hx (hv.take T (m*szT T t));have q3:=h2 (hv.drop T (m*szT T t));refine ⟨?_,q1,q3.2⟩;rw [zf4,<-List.take_append_drop (m*szT T t) vs];exact VRL.app T (VRL.cells.2 q2) q3.1
  ·cases h
def jx9 {ls:Option Lay} {aS cs:List (AV T.U)} (h:vt8 T ls aS=some cs):(∀i∈j4 cs,i∈j4 aS)/\ ∀ {w:World} {S:List Nat} {φ:Nat->RA} {vs:List Value},VRL T w S φ aS vs->BR T w S φ cs vs:=by
 unfold vt8 at h;split at h
 ·split at h
  ·rename_i hn;simp only [X0] at h;subst h;exact ⟨fun i hi=>hi,fun hv=>BR.of T hv hn⟩
  ·cases h
 ·exact yk8 h
def vc5 {ls:Option Lay} {a:AV T.U} {cs:List (AV T.U)} (h:kh2 T ls a=some cs):(∀i∈j4 cs,i∈a.ids)/\ ∀ {w:World} {S:List Nat} {φ:Nat->RA} {v:Value},VR T w S φ a v->BR T w S φ cs v.cells.toList:=by
 unfold kh2 at h;split at h
 ·rename_i z hz;obtain ⟨t,m,xs⟩:=z;have:=zq2 hz;subst this;simp only [X0] at h;subst h;refine ⟨fun i hi=>hi,fun {w S φ v} hv=>?_⟩;obtain ⟨us,rfl,h1,h2⟩:=hv;refine ⟨?_,h1,trivial⟩;rw [zf4,zf4,J9];exact VRL.cells.2 h2
 ·split at h
  ·rename_i hok;obtain ⟨h1,h2⟩:=jx9 h;exact ⟨fun i hi=>by have:=h1 i hi;rwa [yb5 hok] at this,fun hv=>h2 (zh4 hok hv)⟩
  ·cases h
def qr6 {e:TypeId} (hd:dec ops k n F'=some o) (hop:o.op=.alloc e) {ls:Option Lay} {cs cs':List (AV T.U)} (hz:ju1 T P e=some cs) (hl:vt8 T ls cs=some cs') (h:Sim T w0 S0 ⟨F,H⟩ F' w S φ)
  (K:zn5 P ops Q (k+1) n ds w0 S0 (⟨k8 T F o.dst (.ptr H.length 0),H++ [.blk e cs']⟩:St T)):WR P ops Q k n ds F' w:=by
 unfold ju1 at hz;split at hz
 ·rename_i c hc;simp only [X0] at hz;subst hz;obtain ⟨g1,g2⟩:=jx9 hl;refine WR.alloc (ju7 hd hop) c hc fun g w' hN=>K _ _ ⟨g::S,zr5 φ H.length ⟨some ⟨g,0,none⟩,0,0,[]⟩,?_⟩;have h1:=h.add (r:=⟨some ⟨g,0,none⟩,0,0,[]⟩) hN.chg hN.fresh hN.blk.lt (fun a ha=>zs6 ha) (e:=.blk e cs')
   ⟨g,c,by rw [z6],hN.blk,by simp,g2 (zy5 T _)⟩ (by intro j hj;have:=g1 j hj;rw [yh5] at this;cases this)
  refine h1.slot ⟨g,by rw [z6],rfl⟩ ⟨by intro i hi;simp [AV.ids] at hi;subst hi;simp,trivial⟩
 ·cases hz
def kb6 {U:Nat->Type}:AV U->Bool| .ptr _ _=>true| .eptr _ _ _ _=>true| .lptr _ _ _ _=>true| .aptr _ _ _ _ _ _=>true| .fn (.func _) _ _=>true|_=>false
def qx1 {x:Operand} (hop:o.op=.nilCheck x) {a:AV T.U} (ha:kb6 a=true) {v:Value} (h1:ev F' x=some v) (h2:VR T w S φ a v):QR P F' o S φ rd w v:=by
 intro w1 _ _;cases a<;>first|(cases ha;done)|skip
 ·obtain ⟨g,_,rfl⟩:=h2;simp [execOp,hop,z8 h1]
 ·obtain ⟨g,_,rfl⟩:=h2;simp [execOp,hop,z8 h1]
 ·obtain ⟨ad,cap,_,_,rfl⟩:=h2;simp [execOp,hop,z8 h1]
 ·rename_i f a b;cases f<;>first|(cases ha;done)|skip
  obtain ⟨va,vb,rfl,_⟩:=h2;simp [execOp,hop,z8 h1]
 ·obtain ⟨g,_,_,rfl⟩:=h2;simp [execOp,hop,z8 h1]
end
end Go.X
namespace Go.X
open Go.RowKit Go.V
section
variable {T:Tab} {P:Program} {w w':World} {S S':List Nat} {φ φ':Nat->RA} {w0:World} {S0:Ow} {F:AF T} {H:List (Ent T.U)} {F':PF}
variable {rd:List Nat} {ops:Array Oper} {Q:Exit->Act->World->Prop} {k n:Nat} {ds:List Deferred} {o:Oper}
def zf0 {t kt et:TypeId} {kd:IntKind} (h:yq7 P t=some (kd,kt,et)):yq6 P t=some (kt,et,.int kd):=by
 unfold yq7 at h;split at h
 ·rename_i kt' et' hu;split at h
  ·rename_i k' hk;simp only [X0,X7] at h;obtain ⟨rfl,rfl,rfl⟩:=h;simp [yq6,hu,hk]
  ·cases h
 ·cases h
def vf6 {t kt et:TypeId} {kd:IntKind} (hd:dec ops k n F'=some o) (hop:o.op=.makeMap t none) (_:yq7 P t=some (kd,kt,et)) (h:Sim T w0 S0 ⟨F,H⟩ F' w S φ)
  (K:zn5 P ops Q (k+1) n ds w0 S0 (⟨k8 T F o.dst (.mp H.length),H++ [.map kd []]⟩:St T)):WR P ops Q k n ds F' w:=by
 have hdm:zq4 ops k n F'=some (o.dst,t):=by
  unfold zq4;rw [hd];cases o;simp only at hop;subst hop;rfl
 refine WR.mkMap hdm fun g w' hN=>K _ _ ⟨g::S,zr5 φ H.length ⟨some ⟨g,0,none⟩,0,0,[]⟩,?_⟩;have h1:=h.add (r:=⟨some ⟨g,0,none⟩,0,0,[]⟩) hN.chg hN.fresh hN.blk.lt (fun a ha=>zs6 ha) (e:=.map kd [])
  ⟨g,#[],0,by rw [z6],hN.blk,by simp,trivial,MapKept.stamped_empty 0⟩ (by intro j hj;cases hj)
 exact h1.slot ⟨g,by rw [z6],rfl⟩ ⟨by intro i hi;simp [AV.ids] at hi;subst hi;simp,trivial⟩
def qv2 {t kt et:TypeId} {kd:IntKind} {ty:Ty} (hd:dec ops k n F'=some o) (hop:o.op=.makeMap t none) (_:yq7 P t=some (kd,kt,et)) (h:Sim T w0 S0 ⟨F,H⟩ F' w S φ)
  (K:zn5 P ops Q (k+1) n ds w0 S0 (⟨k8 T F o.dst (.mp H.length),H++ [.tmap kd ty []]⟩:St T)):WR P ops Q k n ds F' w:=by
 have hdm:zq4 ops k n F'=some (o.dst,t):=by
  unfold zq4;rw [hd];cases o;simp only at hop;subst hop;rfl
 refine WR.mkMap hdm fun g w' hN=>K _ _ ⟨g::S,zr5 φ H.length ⟨some ⟨g,0,none⟩,0,0,[]⟩,?_⟩;have h1:=h.add (r:=⟨some ⟨g,0,none⟩,0,0,[]⟩) hN.chg hN.fresh hN.blk.lt (fun a ha=>zs6 ha) (e:=.tmap kd ty [])
  ⟨g,#[],0,by rw [z6],hN.blk,by simp,trivial,MapKept.stamped_empty 0⟩ (by intro j hj;cases hj)
 exact h1.slot ⟨g,by rw [z6],rfl⟩ ⟨by intro i hi;simp [AV.ids] at hi;subst hi;simp,trivial⟩
def TR.find {kd:IntKind} {ty:Ty} {x:Int}: ∀ {es:List (Int×den T.U ty)} {l:List MapEntry} (i:Nat),TR T w S kd ty es l->
  (Instr.findNow (.int kd) (.int kd x) l i=some none/\zu9 es x=false/\ze6 T ty es x=zv6 T ty/\(∀a,za6 es x a=es++ [(x,a)])/\zi0 es x=es/\ ∀e∈l,e.key≠.int kd x)\/
  ∃j e,Instr.findNow (.int kd) (.int kd x) l i=some (some (i+j,e.val))/\l[j]?=some e/\e.key=.int kd x/\CR T w S ty (ze6 T ty es x) e.val/\zu9 es x=true/\(∀a v,CR T w S ty a v->TR T w S kd ty (za6 es x a) (l.modify j fun e=> {e with key:=.int kd x,val:=v}))/\TR T w S kd ty (zi0 es x) (l.eraseIdx j)
 | [],[],_,_=>.inl ⟨rfl,rfl,rfl,fun _=>rfl,rfl,by simp⟩
 | [],_::_,_,h=>h.elim
 |_::_,[],_,h=>h.elim
 |(y,a)::r,e::l,i,h=>by
  obtain ⟨h1,h2,h3⟩:=h;by_cases hx:x=y
  ·subst hx;refine .inr ⟨0,e,?_,rfl,h1,?_,?_,?_,?_⟩
   ·unfold Instr.findNow;rw [h1];simp [Instr.sameNow]
   ·simpa [ze6] using h2
   ·simp [zu9]
   ·intro b v hb;simp only [za6,if_true];exact ⟨rfl,hb,h3⟩
   ·simp only [zi0,if_true];exact h3
  ·have hf:Instr.findNow (.int kd) (.int kd x) (e::l) i=Instr.findNow (.int kd) (.int kd x) l (i+1):=by
    rw [Instr.findNow,h1];simp only [Instr.sameNow,if_true];rw [show (x==y)=false from by simpa using hx]
   rcases TR.find (x:=x) (i+1) h3 with ⟨g1,g2,g3,g4,g5,g6⟩|⟨j,e',g1,g2,g3,g4,g5,g6,g7⟩
   ·refine .inl ⟨hf.trans g1,by simp [zu9,hx,g2],by simp [ze6,hx,g3],fun b=>by simp [za6,hx,g4],by simp [zi0,hx,g5],?_⟩;intro q hq;rcases Z0.1 hq with rfl|hq
    ·rw [h1];simp;exact fun e=>hx e.symm
    ·exact g6 q hq
   ·refine .inr ⟨j+1,e',by rw [hf,g1];simp;omega,by simpa using g2,g3,by simpa [ze6,hx] using g4,by simp [zu9,hx,g5],fun b v hb=>?_,?_⟩
    ·simp only [za6,hx,if_false];exact ⟨h1,h2,g6 b v hb⟩
    ·simp only [zi0,hx,if_false];exact ⟨h1,h2,g7⟩
def TR.snoc {kd:IntKind} {ty:Ty} {x:Int} {a:den T.U ty} {v:Value} {c:Nat} (hv:CR T w S ty a v): ∀ {es:List (Int×den T.U ty)} {l:List MapEntry},TR T w S kd ty es l->TR T w S kd ty (es++ [(x,a)]) (l++ [{key:=.int kd x,val:=v,born:=c}])
 | [],[],_=>⟨rfl,hv,trivial⟩
 | [],_::_,h=>h.elim
 |_::_,[],h=>h.elim
 |(_,_)::_,_::_,h=>⟨h.1,h.2.1,TR.snoc hv h.2.2⟩
def yg2 {i g:Nat} {kd:IntKind} {ty:Ty} {es es':List (Int×den T.U ty)} {l l':Array MapEntry} {c c':Nat} (h:Sim T w0 S0 ⟨F,H⟩ F' w S φ) (hHi:H[i]?=some (.tmap kd ty es)) (hg:(φ i).ad=some ⟨g,0,none⟩) (hm:Mp w g l c)
  (hgS:g∈S) (ht:TR T w S kd ty es' l'.toList) (hst:MapKept.Stamped l' c'):Sim T w0 S0 ⟨F,H.set i (.tmap kd ty es')⟩ F' {w with heap:=w.heap.setIfInBounds g (.map l' c')} S φ:=by
 have hset:=MapKept.heap_set (o':=.map l' c') hm;have hC:Chg [g] w {w with heap:=w.heap.setIfInBounds g (.map l' c')}:=⟨rfl,rfl,rfl,by simp,fun r _ hr=>hset.2 r (by simpa using hr)⟩;refine h.upd hHi rfl hC ?_ ⟨g,_,_,hg,hset.1,hgS,ht.chg T hC ?_ fun b hb=>.inl hb,hst⟩ ?_ ?_
 ·intro b hb;simp at hb;subst hb;exact ⟨_,.inl hg,rfl⟩
 ·intro b hb;simp at hb;subst hb;exact hgS
 ·intro q hq;cases hq
 ·intro e1 t1 xs he;cases he
def vj0 {i g:Nat} {t kt et:TypeId} {kd:IntKind} {ty:Ty} {es:List (Int×den T.U ty)} {l:Array MapEntry} {c:Nat} {x:Int} {a:den T.U ty} {v:Value} (hmk:yq7 P t=some (kd,kt,et)) (h:Sim T w0 S0 ⟨F,H⟩ F' w S φ) (hHi:H[i]?=some (.tmap kd ty es)) (hg:(φ i).ad=some ⟨g,0,none⟩) (hm:Mp w g l c)
  (hgS:g∈S) (ht:TR T w S kd ty es l.toList) (hst:MapKept.Stamped l c) (hv:CR T w S ty a v): ∃w',(Instr.mapUpdate t (.map (some g)) (.int kd x) v).run P w=.ok () w'/\Sim T w0 S0 ⟨F,H.set i (.tmap kd ty (za6 es x a))⟩ F' w' S φ:=by
 obtain ⟨hu,hkd⟩:=zc6 (zf0 hmk);have hb:w.heap[g]?=some (.map l c):=hm;rcases TR.find (x:=x) 0 ht with ⟨g1,_,_,g4,_,g6⟩|⟨j,e',g1,g2,g3,_,_,g6,_⟩
 ·refine ⟨_,?_,yg2 (l':=l.push {key:=.int kd x,val:=v,born:=c}) (c':=c+1) h hHi hg hm hgS ?_ (MapKept.stamped_push hst g6)⟩
  ·simp [Instr.mapUpdate,run_underlying hu,MapKept.run_getObj_map hb,MapKept.run_checkKey hkd (show MapKept.IsKey (.int kd) (.int kd x) from rfl),MapKept.run_findKey hkd g1,MapKept.run_setObj_map _ hb,Result.andThen]
  ·rw [g4,Array.toList_push];exact TR.snoc hv ht
 ·have hlt:j<l.size:=by have:=(X2.1 g2).1;simpa using this
  have g2':l[j]?=some e':=by simpa using g2
  have hl':(l.modify j fun e=> {e with key:=.int kd x,val:=v}).toList=l.toList.modify j fun e=> {e with key:=.int kd x,val:=v}:=by simp
  refine ⟨_,?_,yg2 (l':=l.modify j fun e=> {e with key:=.int kd x,val:=v}) (c':=c) h hHi hg hm hgS (by rw [hl'];exact g6 a v hv) (MapKept.stamped_modify hst j _ (fun _ _=>rfl) fun e _ he=>?_)⟩
  ·rw [U0] at g1;have g2'':l[j]=e':=by rw [Z6 hlt] at g2';exact X5 g2'
   simp [Instr.mapUpdate,run_underlying hu,MapKept.run_getObj_map hb,MapKept.run_checkKey hkd (show MapKept.IsKey (.int kd) (.int kd x) from rfl),MapKept.run_findKey hkd g1,MapKept.run_setObj_map _ hb,Result.andThen,g2',g2'',g3,MapKept.run_keyThatStays (show MapKept.IsKey (.int kd) (.int kd x) from rfl)]
  ·rw [g2'] at he;have:=X5 he;subst this;exact g3.symm
def vi9 {i g:Nat} {t kt et ty':TypeId} {at2:List TypeId} {kd:IntKind} {ty:Ty} {es:List (Int×den T.U ty)} {l:Array MapEntry} {c:Nat} {x:Int} (hmk:yq7 P t=some (kd,kt,et)) (h:Sim T w0 S0 ⟨F,H⟩ F' w S φ) (hHi:H[i]?=some (.tmap kd ty es)) (hg:(φ i).ad=some ⟨g,0,none⟩) (hm:Mp w g l c)
  (hgS:g∈S) (ht:TR T w S kd ty es l.toList) (hst:MapKept.Stamped l c): ∃w',(Builtin.delete_ (t::at2).toArray ty' #[.map (some g),.int kd x]).run P w=.ok (.tuple #[]) w'/\Sim T w0 S0 ⟨F,H.set i (.tmap kd ty (zi0 es x))⟩ F' w' S φ:=by
 obtain ⟨hu,hkd⟩:=zc6 (zf0 hmk);have hb:w.heap[g]?=some (.map l c):=hm;rcases TR.find (x:=x) 0 ht with ⟨g1,_,_,_,g5,_⟩|⟨j,e',g1,g2,g3,_,_,_,g7⟩
 ·refine ⟨_,?_,yg2 (l':=l) (c':=c) h hHi hg hm hgS (by rw [g5];exact ht) hst⟩;simp [Builtin.delete_,run_underlying hu,MapKept.run_getObj_map hb,MapKept.run_checkKey hkd (show MapKept.IsKey (.int kd) (.int kd x) from rfl),MapKept.run_findKey hkd g1,MapKept.run_setObj_map _ hb,Result.andThen]
 ·have hlt:j<l.size:=by have:=(X2.1 g2).1;simpa using this
  refine ⟨_,?_,yg2 (l':=l.eraseIdxIfInBounds j) (c':=c) h hHi hg hm hgS ?_ (MapKept.stamped_erase hst j)⟩
  ·rw [U0] at g1;simp [Builtin.delete_,run_underlying hu,MapKept.run_getObj_map hb,MapKept.run_checkKey hkd (show MapKept.IsKey (.int kd) (.int kd x) from rfl),MapKept.run_findKey hkd g1,MapKept.run_setObj_map _ hb,Result.andThen]
  ·have:(l.eraseIdxIfInBounds j).toList=l.toList.eraseIdx j:=by
    unfold Array.eraseIdxIfInBounds;rw [dif_pos hlt,Array.toList_eraseIdx]
   rw [this];exact g7
def vx1 {ty:Ty} {z:Value} (h:zTy ty z=true):CR T w S ty (zv6 T ty) z:=by
 unfold zTy at h;split at h
 ·rename_i k k' x;rw [X3] at h;have:=v8 h.1;subst this;have hx:x=0:=by simpa [zTy.eqZ] using h.2
  subst hx;exact .int _ _
 ·rename_i b;have hb:b=false:=by simpa using h
  subst hb;exact .bool _
 ·rename_i e n c;rw [X3] at h;have h1:=X1 h.1;have h2:=X1 h.2;subst h1;subst h2;exact .list e [] none 0 (fun _ _=>.int .i64 0) (W8 _) (fun _=>⟨rfl,rfl⟩) (fun h=>absurd rfl h) (fun k j c h=>by simp at h) (fun k j c h=>by simp at h)
 ·cases h
def qy4 {et:TypeId} {ty:Ty} (h:vp8 P et ty=true): ∃z,(P.info? et).bind (·.zero)=some z/\CR T w S ty (zv6 T ty) z:=by
 unfold vp8 at h;split at h
 ·rename_i inf hinf;split at h
  ·rename_i z hz;exact ⟨z,by rw [hinf];exact hz,vx1 h⟩
  ·cases h
 ·cases h
def MR.snoc {kd:IntKind} {x:Int} {a:AV T.U} {v:Value} {c:Nat} (hv:VR T w S φ a v): ∀ {es:List (Int×AV T.U)} {l:List MapEntry},MR T w S φ kd es l->MR T w S φ kd (es++ [(x,a)]) (l++ [{key:=.int kd x,val:=v,born:=c}])
 | [],[],_=>⟨rfl,hv,trivial⟩
 | [],_::_,h=>h.elim
 |_::_,[],h=>h.elim
 |(_,_)::_,_::_,h=>⟨h.1,h.2.1,MR.snoc hv h.2.2⟩
def MR.find2 {kd:IntKind} {x:Int}: ∀ {es:List (Int×AV T.U)} {l:List MapEntry} (i:Nat),MR T w S φ kd es l->
  (Instr.findNow (.int kd) (.int kd x) l i=some none/\(∀a,za6 es x a=es++ [(x,a)])/\zi0 es x=es/\ ∀e∈l,e.key≠.int kd x)\/
  ∃j e,Instr.findNow (.int kd) (.int kd x) l i=some (some (i+j,e.val))/\l[j]?=some e/\e.key=.int kd x/\(∀a v,VR T w S φ a v->MR T w S φ kd (za6 es x a) (l.modify j fun e=> {e with key:=.int kd x,val:=v}))/\MR T w S φ kd (zi0 es x) (l.eraseIdx j)
 | [],[],_,_=>.inl ⟨rfl,fun _=>rfl,rfl,by simp⟩
 | [],_::_,_,h=>h.elim
 |_::_,[],_,h=>h.elim
 |(y,a)::r,e::l,i,h=>by
  obtain ⟨h1,h2,h3⟩:=h;by_cases hx:x=y
  ·subst hx;refine .inr ⟨0,e,?_,rfl,h1,?_,?_⟩
   ·unfold Instr.findNow;rw [h1];simp [Instr.sameNow]
   ·intro b v hb;simp only [za6,if_true];exact ⟨rfl,hb,h3⟩
   ·simp only [zi0,if_true];exact h3
  ·have hf:Instr.findNow (.int kd) (.int kd x) (e::l) i=Instr.findNow (.int kd) (.int kd x) l (i+1):=by
    rw [Instr.findNow,h1];simp only [Instr.sameNow,if_true];rw [show (x==y)=false from by simpa using hx]
   rcases MR.find2 (x:=x) (i+1) h3 with ⟨g1,g4,g5,g6⟩|⟨j,e',g1,g2,g3,g6,g7⟩
   ·refine .inl ⟨hf.trans g1,fun b=>by simp [za6,hx,g4],by simp [zi0,hx,g5],?_⟩;intro q hq;rcases Z0.1 hq with rfl|hq
    ·rw [h1];simp;exact fun e=>hx e.symm
    ·exact g6 q hq
   ·refine .inr ⟨j+1,e',by rw [hf,g1];simp;omega,by simpa using g2,g3,fun b v hb=>?_,?_⟩
    ·simp only [za6,hx,if_false];exact ⟨h1,h2,g6 b v hb⟩
    ·simp only [zi0,hx,if_false];exact ⟨h1,h2,g7⟩
def jk3 {U:Nat->Type} (x:Int) (a:AV U): ∀(es:List (Int×AV U)) (q:Nat),q∈idsM (za6 es x a)->q∈idsM es\/q∈a.ids
 | [],q,h=>by simpa [za6,idsM] using h
 |(y,b)::r,q,h=>by
  unfold za6 at h;split at h
  ·rw [idsM] at h⊢;rcases X4.1 h with h|h
   ·exact .inr h
   ·exact .inl (X4.2 (.inr h))
  ·rw [idsM] at h⊢;rcases X4.1 h with h|h
   ·exact .inl (X4.2 (.inl h))
   ·rcases jk3 x a r q h with h|h
    ·exact .inl (X4.2 (.inr h))
    ·exact .inr h
def jk2 {U:Nat->Type} (x:Int): ∀(es:List (Int×AV U)) (q:Nat),q∈idsM (zi0 es x)->q∈idsM es
 | [],q,h=>h
 |(y,b)::r,q,h=>by
  unfold zi0 at h;rw [idsM];split at h
  ·exact X4.2 (.inr h)
  ·rw [idsM] at h;rcases X4.1 h with h|h
   ·exact X4.2 (.inl h)
   ·exact X4.2 (.inr (jk2 x r q h))
def yz6 {i g:Nat} {kd:IntKind} {es es':List (Int×AV T.U)} {l l':Array MapEntry} {c c':Nat} (h:Sim T w0 S0 ⟨F,H⟩ F' w S φ) (hHi:H[i]?=some (.map kd es)) (hg:(φ i).ad=some ⟨g,0,none⟩) (hm:Mp w g l c)
  (hgS:g∈S) (ht:MR T w S φ kd es' l'.toList) (hst:MapKept.Stamped l' c') (hids: ∀q∈idsM es',q<H.length):Sim T w0 S0 ⟨F,H.set i (.map kd es')⟩ F' {w with heap:=w.heap.setIfInBounds g (.map l' c')} S φ:=by
 have hset:=MapKept.heap_set (o':=.map l' c') hm;have hC:Chg [g] w {w with heap:=w.heap.setIfInBounds g (.map l' c')}:=⟨rfl,rfl,rfl,by simp,fun r _ hr=>hset.2 r (by simpa using hr)⟩;have hT: ∀b∈ [g],b∈S:=by intro b hb;simp at hb;subst hb;exact hgS
 refine h.upd hHi rfl hC ?_ ⟨g,_,_,hg,hset.1,hgS,ht.chg T hC hT fun b hb=>.inl hb,hst⟩ ?_ ?_
 ·intro b hb;simp at hb;subst hb;exact ⟨_,.inl hg,rfl⟩
 ·exact hids
 ·intro e1 t1 xs he;cases he
def vu5 {i g:Nat} {t kt et:TypeId} {kd:IntKind} {es:List (Int×AV T.U)} {l:Array MapEntry} {c:Nat} {x:Int} {a:AV T.U} {v:Value} (hmk:yq7 P t=some (kd,kt,et)) (h:Sim T w0 S0 ⟨F,H⟩ F' w S φ) (hHi:H[i]?=some (.map kd es)) (hg:(φ i).ad=some ⟨g,0,none⟩) (hm:Mp w g l c)
  (hgS:g∈S) (ht:MR T w S φ kd es l.toList) (hst:MapKept.Stamped l c) (hv:VR T w S φ a v) (hok: ∀q∈a.ids,q<H.length): ∃w',(Instr.mapUpdate t (.map (some g)) (.int kd x) v).run P w=.ok () w'/\Sim T w0 S0 ⟨F,H.set i (.map kd (za6 es x a))⟩ F' w' S φ:=by
 obtain ⟨hu,hkd⟩:=zc6 (zf0 hmk);have hb:w.heap[g]?=some (.map l c):=hm;have hids: ∀q∈idsM (za6 es x a),q<H.length:=fun q hq=>(jk3 x a es q hq).elim (h.eids _ _ hHi q) (hok q);rcases MR.find2 (x:=x) 0 ht with ⟨g1,g4,_,gk⟩|⟨j,e',g1,g2,g3,g6,_⟩
 ·refine ⟨_,?_,yz6 (l':=l.push {key:=.int kd x,val:=v,born:=c}) (c':=c+1) h hHi hg hm hgS ?_ (MapKept.stamped_push hst gk) hids⟩
  ·simp [Instr.mapUpdate,run_underlying hu,MapKept.run_getObj_map hb,MapKept.run_checkKey hkd (show MapKept.IsKey (.int kd) (.int kd x) from rfl),MapKept.run_findKey hkd g1,MapKept.run_setObj_map _ hb,Result.andThen]
  ·rw [g4,Array.toList_push];exact MR.snoc hv ht
 ·have hlt:j<l.size:=by have:=(X2.1 g2).1;simpa using this
  have g2':l[j]?=some e':=by simpa using g2
  have hl':(l.modify j fun e=> {e with key:=.int kd x,val:=v}).toList=l.toList.modify j fun e=> {e with key:=.int kd x,val:=v}:=by simp
  refine ⟨_,?_,yz6 (l':=l.modify j fun e=> {e with key:=.int kd x,val:=v}) (c':=c) h hHi hg hm hgS (by rw [hl'];exact g6 a v hv) (MapKept.stamped_modify hst j _ (fun _ _=>rfl) fun e _ he=>by rw [g2'] at he;have:=X5 he;subst this;exact g3.symm) hids⟩;rw [U0] at g1;have g2'':l[j]=e':=by rw [Z6 hlt] at g2';exact X5 g2'
  simp [Instr.mapUpdate,run_underlying hu,MapKept.run_getObj_map hb,MapKept.run_checkKey hkd (show MapKept.IsKey (.int kd) (.int kd x) from rfl),MapKept.run_findKey hkd g1,MapKept.run_setObj_map _ hb,Result.andThen,g2',g2'',g3,MapKept.run_keyThatStays (show MapKept.IsKey (.int kd) (.int kd x) from rfl)]
def vu4 {i g:Nat} {t kt et ty':TypeId} {at2:List TypeId} {kd:IntKind} {es:List (Int×AV T.U)} {l:Array MapEntry} {c:Nat} {x:Int} (hmk:yq7 P t=some (kd,kt,et)) (h:Sim T w0 S0 ⟨F,H⟩ F' w S φ) (hHi:H[i]?=some (.map kd es)) (hg:(φ i).ad=some ⟨g,0,none⟩) (hm:Mp w g l c)
  (hgS:g∈S) (ht:MR T w S φ kd es l.toList) (hst:MapKept.Stamped l c): ∃w',(Builtin.delete_ (t::at2).toArray ty' #[.map (some g),.int kd x]).run P w=.ok (.tuple #[]) w'/\Sim T w0 S0 ⟨F,H.set i (.map kd (zi0 es x))⟩ F' w' S φ:=by
 obtain ⟨hu,hkd⟩:=zc6 (zf0 hmk);have hb:w.heap[g]?=some (.map l c):=hm;have hids: ∀q∈idsM (zi0 es x),q<H.length:=fun q hq=>h.eids _ _ hHi q (jk2 x es q hq);rcases MR.find2 (x:=x) 0 ht with ⟨g1,_,g5,_⟩|⟨j,e',g1,g2,g3,_,g7⟩
 ·refine ⟨_,?_,yz6 (l':=l) (c':=c) h hHi hg hm hgS (by rw [g5];exact ht) hst hids⟩;simp [Builtin.delete_,run_underlying hu,MapKept.run_getObj_map hb,MapKept.run_checkKey hkd (show MapKept.IsKey (.int kd) (.int kd x) from rfl),MapKept.run_findKey hkd g1,MapKept.run_setObj_map _ hb,Result.andThen]
 ·have hlt:j<l.size:=by have:=(X2.1 g2).1;simpa using this
  refine ⟨_,?_,yz6 (l':=l.eraseIdxIfInBounds j) (c':=c) h hHi hg hm hgS ?_ (MapKept.stamped_erase hst j) hids⟩
  ·rw [U0] at g1;simp [Builtin.delete_,run_underlying hu,MapKept.run_getObj_map hb,MapKept.run_checkKey hkd (show MapKept.IsKey (.int kd) (.int kd x) from rfl),MapKept.run_findKey hkd g1,MapKept.run_setObj_map _ hb,Result.andThen]
  ·have:(l.eraseIdxIfInBounds j).toList=l.toList.eraseIdx j:=by
    unfold Array.eraseIdxIfInBounds;rw [dif_pos hlt,Array.toList_eraseIdx]
   rw [this];exact g7
def jk5 {t:TypeId} {xm xk xv:Operand} (hd:dec ops k n F'=some o) (hop:o.op=.insert t xm xk xv\/o.op=.mapUpdate t xm xk xv) (hdst:o.dst=none) {m a:AV T.U} {kx:IntKind} {x:Int} (hm:aev T F xm=some m) (hk:aev T F xk=some (cI T kx x)) (hv:aev T F xv=some a) {H1:List (Ent T.U)} (hi:vk4 T P t H m kx x a=some H1)
  (h:Sim T w0 S0 ⟨F,H⟩ F' w S φ) (K:zn5 P ops Q (k+1) n ds w0 S0 (⟨F,H1⟩:St T)):WR P ops Q k n ds F' w:=by
 obtain ⟨M,h1,h2⟩:=z7 h.fr hm;obtain ⟨X,h3,h4⟩:=z7 h.fr hk;obtain ⟨V,h5,h6⟩:=z7 h.fr hv;have e:=j9 h4;subst e;have hok:=zb2 h hv;unfold vk4 at hi;split at hi
 ·rename_i i kd kt et hmk;split at hi
  ·rename_i kd' es hHi;split at hi
   ·rename_i hb;rw [X3] at hb;have b1:=v8 hb.1;have b2:=v8 hb.2;subst b1;subst b2;simp only [X0] at hi;subst hi;obtain ⟨g,hg,rfl⟩:=h2;obtain ⟨g',l,c,a1,a2,a3,a4,a5⟩:=h.ents i _ hHi;rw [hg] at a1;simp only [X0,Addr.mk.injEq,and_true] at a1;subst a1;obtain ⟨w',hr,hs⟩:=vu5 (x:=x) hmk h hHi hg a2 a3 a4 a5 h6 hok.1;rcases hop with hop|hop
    ·refine WR.skip hd (w':=w') ?_ (by rw [hdst];exact K _ _ ⟨S,φ,hs⟩);cases o;simp only at hop hdst;subst hop;subst hdst;simp [execOp,z8 h1,z8 h3,z8 h5,hr]
    ·refine WR.skip hd (w':=w') ?_ (by rw [hdst];exact K _ _ ⟨S,φ,hs⟩);cases o;simp only at hop hdst;subst hop;subst hdst;simp [execOp,z8 h1,z8 h3,z8 h5,hr]
   ·cases hi
  ·rename_i kd' ty es hHi;split at hi
   ·rename_i y hb hy;rw [X3] at hb;have b1:=v8 hb.1;have b2:=v8 hb.2;subst b1;subst b2;simp only [X0] at hi;subst hi;obtain ⟨g,hg,rfl⟩:=h2;obtain ⟨g',l,c,a1,a2,a3,a4,a5⟩:=h.ents i _ hHi;rw [hg] at a1;simp only [X0,Addr.mk.injEq,and_true] at a1;subst a1;unfold ka2 at hy;split at hy
    ·rename_i cl;have e:=Cell.as_eq hy;subst e;obtain ⟨w',hr,hs⟩:=vj0 (x:=x) hmk h hHi hg a2 a3 a4 a5 h6;rcases hop with hop|hop
     ·refine WR.skip hd (w':=w') ?_ (by rw [hdst];exact K _ _ ⟨S,φ,hs⟩);cases o;simp only at hop hdst;subst hop;subst hdst;simp [execOp,z8 h1,z8 h3,z8 h5,hr]
     ·refine WR.skip hd (w':=w') ?_ (by rw [hdst];exact K _ _ ⟨S,φ,hs⟩);cases o;simp only at hop hdst;subst hop;subst hdst;simp [execOp,z8 h1,z8 h3,z8 h5,hr]
    ·cases hy
   ·cases hi
  ·cases hi
 ·cases hi
def jl1 {R:Type} {r:R} {kd:IntKind} {x:Int} {co:Bool} {z:AV T.U} {Z:Value} (hz:VR T w S φ z Z) {K:AV T.U->Option R}: ∀ {es:List (Int×AV T.U)} {l:List MapEntry} (i:Nat),yv7 T co z x K es=some r->MR T w S φ kd es l->
  ∃a q,K a=some r/\Instr.findNow (.int kd) (.int kd x) l i=some q/\VR T w S φ a (lkV Z co q)/\ ∀j∈a.ids,j∈z.ids\/j∈idsM es
 | [],[],i,h,_=>by
  refine ⟨_,none,h,rfl,?_,fun j hj=>.inl ?_⟩
  ·cases co
   ·exact hz
   ·exact ⟨_,rfl,hz,CR.bool _,trivial⟩
  ·cases co
   ·exact hj
   ·simpa [AV.ids,j4] using hj
 | [],_::_,_,_,h=>h.elim
 |_::_,[],_,_,h=>h.elim
 |(y,b)::es,e::l,i,h,hm=>by
  obtain ⟨h1,h2,h3⟩:=hm;unfold yv7 at h;unfold Instr.findNow;rw [h1];simp only [Instr.sameNow,if_true];split at h
  ·rename_i he;subst he;rw [show (x==x)=true from by simp];refine ⟨_,some (i,e.val),h,rfl,?_,fun j hj=>.inr ?_⟩
   ·cases co
    ·exact h2
    ·exact ⟨_,rfl,h2,CR.bool _,trivial⟩
   ·rw [idsM];cases co
    ·exact X4.2 (.inl hj)
    ·exact X4.2 (.inl (by simpa [AV.ids,j4] using hj))
  ·rename_i hne;rw [show (x==y)=false from by simpa using hne];obtain ⟨a,q,q1,q2,q3,q4⟩:=jl1 hz (i+1) h h3;exact ⟨a,q,q1,q2,q3,fun j hj=>(q4 j hj).imp id fun hj=>by rw [idsM];exact X4.2 (.inr hj)⟩
def vu1 {Z:Prop} {R:Type} {r:R} {t:TypeId} {xm xk:Operand} {co:Bool} (hd:dec ops k n F'=some o) (hop:o.op=.lookup t xm xk co) {m:AV T.U} {kx:IntKind} {x:Int} (hm:aev T F xm=some m) (hk:aev T F xk=some (cI T kx x)) {K0:AV T.U->Option R} (hl:yz3 T P t co H m kx x K0=some r)
  (h:Sim T w0 S0 ⟨F,H⟩ F' w S φ) (hrd: ∀i∈m.ids,i∈rd) (K: ∀a v,K0 a=some r->QR P F' o S φ rd w v->VR T w S φ a v->(∀i∈a.ids,i<H.length)->Z):Z:=by
 obtain ⟨M,h1,h2⟩:=z7 h.fr hm;obtain ⟨X,h3,h4⟩:=z7 h.fr hk;have e:=j9 h4;subst e;unfold yz3 at hl;split at hl
 ·rename_i i kd kt et hmk;split at hl
  ·rename_i kd' es hHi;split at hl
   ·rename_i z hb hz;rw [X3] at hb;obtain ⟨b1,b2⟩:=hb;have b1:=v8 b1;have b2:=v8 b2;subst b1;subst b2;obtain ⟨g,hg,rfl⟩:=h2;obtain ⟨g',l,c,a1,a2,a3,a4,a5⟩:=h.ents i _ hHi;rw [hg] at a1;simp only [X0,Addr.mk.injEq,and_true] at a1;subst a1;obtain ⟨zv,hzv,hze⟩: ∃zv,(P.info? et).bind (·.zero)=some zv/\z=ofV T zv:=by
     unfold qj2 at hz;split at hz
     ·rename_i inf hinf;split at hz
      ·rename_i zv hzv;simp only [X0] at hz;exact ⟨zv,by rw [hinf];exact hzv,hz.symm⟩
      ·cases hz
     ·cases hz
    subst hze;obtain ⟨a,q,q1,q2,q3,q4⟩:=jl1 (jp6 T zv) 0 hl a4;have hdl:zl9 ops k n F'=some (o.dst,t,.map (some g),.int kx x,co):=by
     unfold zl9;rw [hd];cases o;simp only at hop;subst hop;simp only [z8 h1,z8 h3]
    refine K a _ q1 (fun w1 _ hsm=>?_) q3 fun j hj=>?_
    ·have hm1:Mp w1 g l c:=(hsm i (hrd i (by simp [AV.ids])) _ hg a2.lt).trans a2;have hr:=yc7 (P:=P) hm1 hdl (zf0 hmk) rfl q q2 hzv _ rfl;unfold zr2 at hr;rw [hd] at hr;simp only [X0,X7] at hr;exact hr.2
    ·rcases q4 j hj with hj|hj
     ·rw [jp5] at hj;cases hj
     ·exact h.eids _ _ hHi j hj
   ·cases hl
  ·rename_i kd' ty es hHi;split at hl
   ·rename_i hb;rw [X3,X3] at hb;have b1:=v8 hb.1;have b2:=v8 hb.2.1;subst b1;subst b2;obtain ⟨g,hg,rfl⟩:=h2;obtain ⟨g',l,c,a1,a2,a3,a4,a5⟩:=h.ents i _ hHi;rw [hg] at a1;simp only [X0,Addr.mk.injEq,and_true] at a1;subst a1;obtain ⟨zv,hzv,hzr⟩:=qy4 (T:=T) (w:=w) (S:=S) hb.2.2;have hdl:zl9 ops k n F'=some (o.dst,t,.map (some g),.int kx x,co):=by
     unfold zl9;rw [hd];cases o;simp only at hop;subst hop;simp only [z8 h1,z8 h3]
    have hq: ∀q,Instr.findNow (.int kx) (.int kx x) l.toList 0=some q->QR P F' o S φ rd w (lkV zv co q):=fun q q2 w1 _ hsm=>by
     have hm1:Mp w1 g l c:=(hsm i (hrd i (by simp [AV.ids])) _ hg a2.lt).trans a2;have hr:=yc7 (P:=P) hm1 hdl (zf0 hmk) rfl q q2 hzv _ rfl;unfold zr2 at hr;rw [hd] at hr;simp only [X0,X7] at hr;exact hr.2
    have hids: ∀j∈(qk1 T co ty es x).ids,j<H.length:=by
     intro j hj;cases co<;>simp [qk1,AV.ids,j4] at hj
    rcases TR.find (x:=x) 0 a4 with ⟨g1,g2,g3,_⟩|⟨j,e',g1,g2,g3,g4,g5,_⟩
    ·refine K _ _ hl (hq _ g1) ?_ hids;cases co
     ·show CR T w S ty _ _;rw [g3];exact hzr
     ·exact ⟨_,rfl,by rw [g3];exact hzr,by rw [g2];exact CR.bool _,trivial⟩
    ·refine K _ _ hl (hq _ g1) ?_ hids;cases co
     ·exact g4
     ·exact ⟨_,rfl,g4,by rw [g5];exact CR.bool _,trivial⟩
   ·cases hl
  ·cases hl
 ·cases hl
end
end Go.X
namespace Go.X
open Go.RowKit Go.V
structure CallSpec (T:Tab) where
 call: {R:Type}->List (AV T.U)->List (Ent T.U)->(AV T.U->List (Ent T.U)->Option R)->(AV T.U->List (Ent T.U)->Option R)->Option R
 q: {R:Type}->List (AV T.U)->List (Ent T.U)->(AV T.U->Option R)->Option R
 isq:Bool
 wr:List (AV T.U)->List (Ent T.U)->List Nat
structure Ctx (T:Tab) where
 ty:TypeId->Option Ty
 E:List (FuncId×CallSpec T)
 pin:Nat
 ms:List (Nat×Nat)
 lay:TypeId->Option Lay:=fun _=>none
 dr:TypeId->Option (Nat×List TypeId):=fun _=>none
 pm:TypeId->Option (TypeId×Nat):=fun _=>none
section
variable {T:Tab} (P:Program) (C:Ctx T)
def js0:List (FuncId×CallSpec T)->FuncId->Option (CallSpec T)
 | [],_=>none
 |(g,c)::r,f=>match Nat.beq g f with|true=>some c|false=>js0 r f
def zf6:AV T.U->Bool| .eptr _ _ _ _=>false|_=>true
def vz7:Op->Bool| .move _=>true| .assign _=>true| .fieldAddr _ _ _=>true|_=>false
def zj7 (f:FuncId):Bool:=match P.funcs[f]? with|some fn=> !(fn.name== "runtime.NumGoroutine")&&fn.body.isSome|none=>false
def kh7 (t:TypeId) (H:List (Ent T.U)) (a:AV T.U):Option Int:=
 match P.underlying t with
 |some (.map _ _)=>match a with
  | .mp i=>match H[i]? with|some (.tmap _ _ m)=>some ((m.length:Nat):Int)|_=>none
  |_=>none
 |_=>none
def js7:List (AV T.U)->List Nat
 | []=> []
 | .mp i::r=>i::js7 r
 |_::r=>js7 r
def lenOf (t:TypeId) (H:List (Ent T.U)) (a:AV T.U):Option Int:=
 match P.underlying t with
 |some (.slice _)=>match ko6 T H a with|some n=>some ((n:Nat):Int)|none=>none
 |some .string=>match a with| .cell ⟨.str,s⟩=>some ((ByteArray.size s:Nat):Int)|_=>none
 |_=>none
section
variable {R:Type}
def yv9 (c:Bool) (x y:AV T.U) (K:AV T.U->Option R):Option R:=
 match vo7 T c x y with
 |some z=>K z
 |none=>match zf6 x&&zf6 y with|true=>if c=true then K x else K y|false=>none
def yg7 (c:Call) (st:St T) (K:AV T.U->List (Ent T.U)->Option R) (Kp:AV T.U->List (Ent T.U)->Option R):Option R:=
 match zm5 T st.F c.args.toList with
 |none=>none
 |some aS=>
  match c.callee with
  | .value f=>match aev T st.F f with
   |some (.fn (.func g) first caps)=>match zj7 P g,js0 C.E g with
    |true,some cs=>match (first++aS++caps).all zf6 with|true=>cs.call (first++aS++caps) st.H K Kp|false=>none
    |_,_=>none
   |_=>none
  | .builtin .append=>match aS,c.argTypes.toList with
   | [s,x],[t,t']=>match Nat.beq t t',C.ty t with|true,some e=>appA T P e t st.H s x K|_,_=>none
   |_,_=>none
  | .builtin .clear=>match aS,c.argTypes.toList with
   | [s],[t]=>yi9 T P t st.H s K
   |_,_=>none
  | .builtin .delete=>match aS,c.argTypes.toList with
   | [m,.cell ⟨.int kx,x⟩],t::_=>(match vr1 T P t st.H m kx x with|some H1=>K (.tup []) H1|none=>none)
   |_,_=>none
  |_=>none
def qh4 (o:Oper) (F:AF T):List Nat:=
 match o.op with
 | .load _ x=>match aev T F x with|some a=>a.ids|none=> []
 | .convert _ _ x=>match aev T F x with|some a=>a.ids|none=> []
 | .lookup _ m _ _=>match aev T F m with|some a=>a.ids|none=> []
 | .call c=>match c.callee with
  | .value f=>match aev T F f,zm5 T F c.args.toList with|some a,some aS=>a.ids++j4 aS|_,_=> []
  | .builtin .len=>match zm5 T F c.args.toList with|some aS=>js7 aS|none=> []
  |_=> []
 |_=> []
def vn6:Op->Bool
 | .indexAddr t _ _=>(zf2 P t).isSome
 | .index t _ _=>(zf2 P t).isSome
 | .slice t _ _ _ none=>(va6 P t).isSome
 | .sliceToArrayPointer _ _=>true
 | .load t _=>(zf2 P t).isSome
 | .nilCheck _=>true
 | .lookup _ _ _ _=>true
 |_=>false
def vn9 (t:TypeId):Bool:=match P.underlying t with|some (.array _ e)=>(match P.underlying e with|some d=> !zx8 d|none=>false)|_=>false
def yi2 (o:Oper) (st:St T) (K:AV T.U->Option R):Option R:=
 match o.op with
 | .indexAddr t x y=>match zf2 P t,aev T st.F x,aev T st.F y with
  |some (n,sz),some s,some (.cell ⟨.int _,j⟩)=>ya1 T n sz st.H s j K
  |_,_,_=>none
 | .index t x y=>match zf2 P t,aev T st.F x,aev T st.F y,vn9 P t with
  |some (n,sz),some s,some (.cell ⟨.int _,j⟩),true=>yj5 T n sz s j K
  |_,_,_,_=>none
 | .slice t x lo hi none=>match va6 P t,aev T st.F x,jo1 st.F lo,jo1 st.F hi with
  |some (n,sz),some s,some l,some h=>yj9 T n sz st.H s l h K
  |_,_,_,_=>none
 | .sliceToArrayPointer t x=>match zf2 P t,aev T st.F x with
  |some (n,sz),some s=>yi6 T n sz st.H s K
  |_,_=>none
 | .load t x=>match zf2 P t,aev T st.F x with
  |some (n,sz),some p=>yh3 T n sz (match P.info? t with|some i=>Nat.beq i.size (n*sz)|none=>false) st.H p K (j8 (loadA T P t st.H p) K)
  |_,_=>none
 | .nilCheck x=>match aev T st.F x with|some a=>(match kb6 a with|true=>K a|false=>none)|none=>none
 | .lookup t m x co=>match aev T st.F m,aev T st.F x with
  |some a,some (.cell ⟨.int kx,x⟩)=>yz3 T P t co st.H a kx x fun b=>match zf6 b with|true=>K b|false=>none
  |_,_=>none
 |_=>none
def zo7 (o:Oper) (st:St T) (K:AV T.U->Option R):Option R:=
 match ja6 T P o.op st.F with
 |some a=>match vz7 o.op||zf6 a with|true=>K a|false=>none
 |none=>match o.op with
  | .pick c a b=>match aev T st.F c,aev T st.F a,aev T st.F b with
   |some (.cell ⟨.bool,c⟩),some x,some y=>yv9 c x y K
   |_,_,_=>none
  | .binOp b _ x y _=>match aev T st.F x,aev T st.F y with
   |some x,some y=>divA T b x y K
   |_,_=>none
  | .load t x=>match aev T st.F x with
   |some p=>match loadA T P t st.H p with|some a=>K a|none=>none
   |none=>none
  | .convert s d x=>match P.underlying s,P.underlying d,aev T st.F x with
   |some (.slice e),some .string,some a=>match P.underlying e with
    |some (.int .u8)=>rdF T st.H (.list (.int .u8)) a fun xs=>K (.cell ⟨.str,zq3 xs⟩)
    |_=>none
   |_,_,_=>none
  | .index t x y=>match P.underlying t,aev T st.F x,aev T st.F y with
   |some .string,some (.cell ⟨.str,s⟩),some (.cell ⟨.int _,j⟩)=>jt8 s j fun b=>K (cI T .u8 b)
   |_,_,_=>none
  | .indexAddr t x y=>match aev T st.F x,aev T st.F y with
   |some s,some (.cell ⟨.int _,j⟩)=>zw7 T P t st.H s j K
   |_,_=>none
  | .slice t x lo hi none=>match aev T st.F x,jo1 st.F lo,jo1 st.F hi with
   |some s,some l,some h=>match l,h with
    |none,none=>none
    |l,h=>ya7 T P t st.H s l h K
   |_,_,_=>none
  | .typeAssert x _ at_ ok=>match aev T st.F x with
   |some a=>match yq1 T P a at_ ok with|some b=>(match zf6 b with|true=>K b|false=>none)|none=>none
   |none=>none
  | .call c=>match zm5 T st.F c.args.toList with
   |none=>none
   |some aS=>match c.callee with
    | .builtin .len=>match aS,c.argTypes.toList with
     | [a],[t]=>match lenOf P t st.H a with
      |some n=>K (cI T .i64 n)
      |none=>match kh7 P t st.H a with|some n=>K (cI T .i64 n)|none=>none
     |_,_=>none
    | .builtin .min=>match ki2 T aS with|some a=>K a|none=>none
    | .builtin .max=>match ki1 T aS with|some a=>K a|none=>none
    |_=>none
  |_=>none
def zu5 (o:Oper) (st:St T) (K:AV T.U->Option R):Option R:=match vn6 P o.op with|true=>yi2 P o st K|false=>zo7 P o st K
def stepA (o:Oper) (st:St T) (K:St T->Option R) (Kp:AV T.U->St T->Option R):Option R:=
 let put:=fun (a:AV T.U) (H:List (Ent T.U))=>K ⟨k8 T st.F o.dst a,H⟩
 match o.op with
 | .alloc e=>match ju1 T P e with
  |some cs=>(match vt8 T (C.lay e) cs with|some cs=>put (.ptr st.H.length 0) (st.H++ [.blk e cs])|none=>none)
  |none=>none
 | .box e x=>match aev T st.F x with
  |some a=>match kh2 T (C.lay e) a with|some cs=>put (.ptr st.H.length 0) (st.H++ [.blk e cs])|none=>none
  |none=>none
 | .makeMap t none=>match yq7 P t,C.ty t with
  |some (k,_,_),none=>put (.mp st.H.length) (st.H++ [.map k []])
  |some (k,_,_),some ty=>put (.mp st.H.length) (st.H++ [.tmap k ty []])
  |none,_=>none
 | .insert t m x v=>match o.dst,aev T st.F m,aev T st.F x,aev T st.F v with
  |none,some a,some (.cell ⟨.int kx,x⟩),some b=>(match zf6 b,vk4 T P t st.H a kx x b with|true,some H1=>K ⟨st.F,H1⟩|_,_=>none)
  |_,_,_,_=>none
 | .mapUpdate t m x v=>match o.dst,aev T st.F m,aev T st.F x,aev T st.F v with
  |none,some a,some (.cell ⟨.int kx,x⟩),some b=>(match zf6 b,vk4 T P t st.H a kx x b with|true,some H1=>K ⟨st.F,H1⟩|_,_=>none)
  |_,_,_,_=>none
 | .store t x y=>match o.dst,aev T st.F x,aev T st.F y with
  |none,some p,some a=>match yw7 T P t st.H p a with|some H1=>K ⟨st.F,H1⟩|none=>none
  |_,_,_=>none
 | .makeSlice t x y=>match aev T st.F x,aev T st.F y,C.ty t with
  |some (.cell ⟨.int _,l⟩),some (.cell ⟨.int _,c⟩),some e=>jh9 T P e t st.H l c put
  |_,_,_=>none
 | .buildSlice t len ps=>match zr4 T st.F ps.toList,C.ty t with
  |some l,some ty=>match qj3 T P ty t len l with|some (e,xs)=>put (.own st.H.length) (st.H++ [.row e ty xs])|none=>none
  |some l,none=>match je7 T P t len l with|some (e,sz,cs)=>put (.sl st.H.length sz 0 len) (st.H++ [.blk e cs])|none=>none
  |_,_=>none
 | .call c=>match reads c with
  |true=>zu5 P o st fun a=>put a st.H
  |false=>yg7 P C c st put fun a H=>Kp a ⟨st.F,H⟩
 | .convert s d x=>match P.underlying s,P.underlying d,aev T st.F x with
  |some .string,some (.slice e),some (.cell ⟨.str,b⟩)=>match P.underlying e with
   |some (.int .u8)=>put (.cell ⟨.list (.int .u8),zq8 b⟩) st.H
   |_=>none
  |some (.slice _),some (.slice e),some (.own i)=>match Nat.beq s d,C.ty d,P.underlying e,appA.rowIn T (.int .u8) st.H (.own i) with
   |true,some _,some (.int .u8),some (x::xs)=>put (.cell ⟨.list (.int .u8),x::xs⟩) (st.H.set i .gone)
   |_,_,_,_=>none
  |_,_,_=>zu5 P o st fun a=>put a st.H
 | .panic x=>match aev T st.F x with|some (.ifc t a)=>Kp (.ifc t a) st|_=>none
 |_=>zu5 P o st fun a=>put a st.H
where
 reads (c:Call):Bool:=match c.callee with| .builtin .len=>true| .builtin .min=>true| .builtin .max=>true|_=>false
end
end
section
variable {T:Tab} {P:Program} {C:Ctx T} {w w':World} {S S':List Nat} {φ φ':Nat->RA} {w0:World} {S0:Ow} {F:AF T} {H:List (Ent T.U)} {F':PF}
variable {rd:List Nat} {ops:Array Oper} {Q:Exit->Act->World->Prop} {k n:Nat} {ds:List Deferred} {o:Oper}
def za4 (T:Tab) (P:Program) (f:FuncId) (cs:CallSpec T):Prop:=
 ∀ {R:Type} (aS:List (AV T.U)) (H:List (Ent T.U)) (K Kp:AV T.U->List (Ent T.U)->Option R) (r:R),cs.call aS H K Kp=some r->
  ∀(w0:World) (S0:Ow) (F:AF T) (F':PF) (w:World) (S:List Nat) (φ:Nat->RA),Sim T w0 S0 ⟨F,H⟩ F' w S φ-> ∀vs:List Value,VRL T w S φ aS vs->(∀a∈aS,okA H a)->
  Calls P f vs.toArray w fun e w'=>match e with
   | .returned v=> ∃a H1,K a H1=some r/\ ∃S1 φ1,Sim T w0 S0 ⟨F,H1⟩ F' w' S1 φ1/\VR T w' S1 φ1 a v/\okA H1 a
   | .panicked ch=> ∃a H1,Kp a H1=some r/\ ∃v,ch= [{v:=v,recovered:=false}]/\ ∃S1 φ1,Sim T w0 S0 ⟨F,H1⟩ F' w' S1 φ1/\VR T w' S1 φ1 a v/\okA H1 a
   | .outgrown=>False
def zk2 (T:Tab) (P:Program) (f:FuncId) (cs:CallSpec T):Prop:=
 ∀ {R:Type} (aS:List (AV T.U)) (H:List (Ent T.U)) (K:AV T.U->Option R) (r:R),cs.q aS H K=some r->
  ∀(w0:World) (S0:Ow) (F:AF T) (F':PF) (w:World) (S:List Nat) (φ:Nat->RA),Sim T w0 S0 ⟨F,H⟩ F' w S φ-> ∀vs:List Value,VRL T w S φ aS vs->(∀a∈aS,okA H a)->
  ∃a v,K a=some r/\VR T w S φ a v/\okA H a/\ ∀w1,Chg S w w1->Same φ (j4 aS) w w1->Calls P f vs.toArray w1 (zh0 w1 v)
structure Keeps (T:Tab) (l:List Nat) (H H1:List (Ent T.U)):Prop where
 len:H.length<=H1.length
 same: ∀e,e<H.length->e∉l->H1[e]?=H[e]?
 row: ∀(e:Nat) (ty:TypeId) (t:Ty) (ys:List (den T.U t)),e<H.length->H1[e]?=some (.row ty t ys)-> ∃xs,H[e]?=some (.row ty t xs)
def yf2 (cs:CallSpec T):Prop:=
 ∀ {R:Type} (aS:List (AV T.U)) (H:List (Ent T.U)) (K Kp:AV T.U->List (Ent T.U)->Option R) (r:R),cs.call aS H K Kp=some r->
  (∃a H1,K a H1=some r/\Keeps T (cs.wr aS H) H H1/\ ∀ {R':Type} (K' Kp':AV T.U->List (Ent T.U)->Option R'),cs.call aS H K' Kp'=K' a H1)\/
  ∃a H1,Kp a H1=some r/\Keeps T (cs.wr aS H) H H1/\ ∀ {R':Type} (K' Kp':AV T.U->List (Ent T.U)->Option R'),cs.call aS H K' Kp'=Kp' a H1
def za2 (T:Tab) (P:Program) (E:List (FuncId×CallSpec T)):Prop:= ∀f cs,js0 E f=some cs->za4 T P f cs/\zk2 T P f cs/\yf2 cs
def zb9 {a:AV T.U} (h:zf6 a=true) (hi: ∀i∈a.ids,i<H.length):okA H a:=⟨hi,by cases a<;>first|trivial|cases h⟩
def jc2 {l:List Operand} (hs:Sim T w0 S0 ⟨F,H⟩ F' w S φ): ∀ {aS:List (AV T.U)},zm5 T F l=some aS-> ∀i∈j4 aS,i<H.length:=by
 induction l with
 |nil=>intro aS h;simp only [zm5,X0] at h;subst h;intro i hi;cases hi
 |cons x r ih=>
  intro aS h;unfold zm5 at h;split at h
  ·rename_i a l ha hl;simp only [X0] at h;subst h;intro i hi;rw [j4] at hi;rcases X4.1 hi with hi|hi
   ·exact (zb2 hs ha).1 i hi
   ·exact ih hl i hi
  ·cases h
def qh1 {aS cs:List (AV T.U)} {o0:Nat} {m:Nat} (h1: ∀i∈j4 cs,i<m) (h2: ∀i∈j4 aS,i<m): ∀i∈j4 (ye4 T cs o0 aS),i<m:=fun i hi=>(ys9 i hi).elim (h1 i) (h2 i)
def yh0 {place:Nat->Option (Nat×Nat)} {m:Nat}: ∀ {ps:List (Nat×AV T.U)} {cs cs':List (AV T.U)},yo4 T place cs ps=some cs'->(∀i∈j4 cs,i<m)->(∀i∈j4 (ps.map Prod.snd),i<m)-> ∀i∈j4 cs',i<m
 | [],cs,cs',h,h1,_=>by simp only [yo4,X0] at h;subst h;exact h1
 |(j,a)::r,cs,cs',h,h1,h2=>by
  rw [U1,j4] at h2;unfold yo4 at h;split at h
  ·split at h
   ·rename_i hok;simp only [X3] at hok;exact yh0 h (qh1 h1 (by rw [yb5 hok.1];exact fun i hi=>h2 i (X4.2 (.inl hi)))) fun i hi=>h2 i (X4.2 (.inr hi))
   ·cases h
  ·cases h
def yl8 {l:List (Nat×Operand)} (hs:Sim T w0 S0 ⟨F,H⟩ F' w S φ): ∀ {aS:List (Nat×AV T.U)},zr4 T F l=some aS-> ∀i∈j4 (aS.map Prod.snd),i<H.length:=by
 induction l with
 |nil=>intro aS h;simp only [zr4,X0] at h;subst h;intro i hi;cases hi
 |cons x r ih=>
  intro aS h;obtain ⟨j,x⟩:=x;unfold zr4 at h;split at h
  ·rename_i a l ha hl;simp only [X0] at h;subst h;intro i hi;rw [U1,j4] at hi;rcases X4.1 hi with hi|hi
   ·exact (zb2 hs ha).1 i hi
   ·exact ih hl i hi
  ·cases h
def ql8 {t:TypeId} {lit:Bool} {x y a:AV T.U} {neg:Bool} (h:eqA T P t lit x y neg=some a):a.ids= []:=by
 unfold eqA at h;split at h
 ·simp only [X0] at h;subst h;rfl
 split at h
 ·simp only [X0] at h;subst h;rfl
 split at h
 ·split at h
  ·simp only [X0] at h;subst h;rfl
  ·cases h
 ·simp only at h;split at h
  ·split at h
   ·simp only [X0] at h;subst h;rfl
   ·cases h
  ·cases h
 ·cases h
def vw6 {u:UnOp} {x a:AV T.U} (h:unA T u x=some a):a.ids= []:=by
 unfold unA at h;split at h
 ·unfold unI at h;split at h
  ·simp only [X0] at h;subst h;rfl
  ·simp only [X0] at h;subst h;rfl
  ·cases h
 ·split at h
  ·simp only [X0] at h;subst h;rfl
  ·cases h
 ·cases h
def vc2 {b:BinOp} {t:TypeId} {lit:Bool} {x y a:AV T.U} (h:vq7 T P b t lit x y=some a):a.ids= []:=by
 unfold vq7 at h;split at h
 ·split at h
  ·cases b<;>simp only [vx6,X0,reduceCtorEq] at h<;>subst h<;>rfl
  ·cases h
 ·simp only [X0] at h;subst h;rfl
 ·simp only [X0] at h;subst h;rfl
 ·exact ql8 h
 ·exact ql8 h
 ·cases h
def qv9 {op:Op} {a:AV T.U} (hs:Sim T w0 S0 ⟨F,H⟩ F' w S φ) (h:ja6 T P op F=some a): ∀i∈a.ids,i<H.length:=by
 unfold ja6 at h;split at h
 ·exact (zb2 hs h).1
 ·exact (zb2 hs h).1
 ·split at h
  ·rw [vc2 h];intro i hi;cases hi
  ·cases h
 ·split at h
  ·rw [vw6 h];intro i hi;cases hi
  ·cases h
 ·split at h
  ·simp only [X0] at h;subst h;intro i hi;cases hi
  ·cases h
 ·split at h
  ·rename_i vs hx;have:=(zb2 hs hx).1;intro i hi;exact this i (by rw [AV.ids];exact zg1 (X6 h) i hi)
  ·cases h
 ·split at h
  ·rename_i x hx;have:=(zb2 hs hx).1;unfold jr8 at h;split at h
   ·split at h
    ·intro i hi;exact this i (by rw [AV.ids];exact jc4 h i hi)
    ·cases h
   ·cases h
  ·cases h
 ·split at h
  ·rename_i x d hx hd;have:=(zb2 hs hx).1;split at h
   ·cases h
   ·simp only [X0] at h;subst h;intro i hi;exact this i (by rw [AV.ids] at hi;exact hi)
  ·cases h
 ·split at h
  ·rename_i x y hx hy;simp only [X0] at h;subst h;intro i hi;rw [AV.ids] at hi;rcases X4.1 hi with hi|hi
   ·exact jc2 hs hx i hi
   ·exact jc2 hs hy i hi
  ·cases h
 ·split at h
  ·rename_i pl z l hpl hz hl;split at h
   ·rename_i cs hcs;simp only [X0] at h;subst h;unfold ju1 at hz;split at hz
    ·simp only [X0] at hz;subst hz;intro i hi;rw [AV.ids] at hi;exact yh0 hcs (by rw [yh5];intro i hi;cases hi) (yl8 hs hl) i hi
    ·cases hz
   ·cases h
  ·cases h
 ·split at h
  ·rename_i x ft f m ag hx hp;have:=(zb2 hs hx).1;split at h
   ·cases h
   ·unfold qg3 at h;split at h<;>simp only [X0,reduceCtorEq] at h<;>subst h<;>exact this
  ·cases h
 ·cases h
def vh0 {op:Op} {a:AV T.U} (hs:Sim T w0 S0 ⟨F,H⟩ F' w S φ) (h:ja6 T P op F=some a) (hm:(vz7 op||zf6 a)=true):okA H a:=by
 rcases J7 _ _▸hm with hm|hm
 ·cases op<;>first|cases hm|skip
  ·exact zb2 hs h
  ·exact zb2 hs h
  ·unfold ja6 at h;simp only at h;split at h
   ·rename_i x ft f m ag hx hp;have hx':=zb2 hs hx;split at h
    ·cases h
    ·unfold qg3 at h;split at h<;>simp only [X0,reduceCtorEq] at h<;>subst h
     ·exact ⟨hx'.1,trivial⟩
     ·exact hx'
     ·exact ⟨hx'.1,trivial⟩
     ·exact ⟨hx'.1,trivial⟩
   ·cases h
 ·exact zb9 hm (qv9 hs h)
def VR.int (kk:IntKind) (x:Int):VR T w S φ (cI T kk x) (.int kk x):=by rw [VR];exact CR.int _ _
def VR.bool (x:Bool):VR T w S φ (cB T x) (.bool x):=by rw [VR];exact CR.bool _
def jh1 {a:AV T.U} {v:Value} (hd:dec ops k n F'=some o) (hr:(execOp (evD F') o).run P w=.ok (.value v) w) (h:Sim T w0 S0 ⟨F,H⟩ F' w S φ) (hv:VR T w S φ a v) (hok:okA H a) (K:zn5 P ops Q (k+1) n ds w0 S0 (⟨k8 T F o.dst a,H⟩:St T)):WR P ops Q k n ds F' w:=
 .val hd hr (K _ _ ⟨S,φ,h.slot hv hok⟩)
def qv7 {c:Bool} {x y z:AV T.U} (h:vo7 T c x y=some z) {X Y:Value} (hx:VR T w S φ x X) (hy:VR T w S φ y Y):VR T w S φ z (if c=true then X else Y)/\z.ids= []/\zf6 z=true:=by
 unfold vo7 at h;split at h
 ·split at h
  ·rename_i hk;have:=v8 hk;subst this;simp only [X0] at h;subst h;have e1:=j9 hx;have e2:=j9 hy;subst e1;subst e2;refine ⟨?_,rfl,rfl⟩;cases c<;>exact .int _ _
  ·cases h
 ·simp only [X0] at h;subst h;have e1:=zd5 hx;have e2:=zd5 hy;subst e1;subst e2;refine ⟨?_,rfl,rfl⟩;cases c<;>exact .bool _
 ·cases h
def ke1 {Z:Prop} {R:Type} {r:R} {c x y:Operand} (hd:dec ops k n F'=some o) (hop:o.op=.pick c x y) {t:Bool} {a b:AV T.U} (hc:aev T F c=some (cB T t)) (hx:aev T F x=some a) (hy:aev T F y=some b) {K0:AV T.U->Option R} (hK0:yv9 t a b K0=some r)
  (h:Sim T w0 S0 ⟨F,H⟩ F' w S φ) (K: ∀a v,K0 a=some r->QR P F' o S φ rd w v->VR T w S φ a v->okA H a->Z):Z:=by
 obtain ⟨C',h1,h2⟩:=z7 h.fr hc;have e:=zd5 h2;subst e;obtain ⟨X,h3,h4⟩:=z7 h.fr hx;obtain ⟨Y,h5,h6⟩:=z7 h.fr hy;have hr:QR P F' o S φ rd w (if t=true then X else Y):=fun w1 _ _=>by simp [execOp,hop,z8 h1,z8 h3,z8 h5,asBool]
 unfold yv9 at hK0;split at hK0
 ·rename_i z hz;obtain ⟨g1,g2,g3⟩:=qv7 hz h4 h6;exact K _ _ hK0 hr g1 (zb9 g3 (by rw [g2];intro i hi;cases hi))
 ·split at hK0
  ·rename_i hne;simp only [X3] at hne;cases t with
   |true=>rw [if_pos rfl] at hK0 hr;exact K _ _ hK0 hr h4 (zb2 h hx)
   |false=>rw [if_neg (by simp)] at hK0 hr;exact K _ _ hK0 hr h6 (zb2 h hy)
  ·cases hK0
def zx3 {R:Type} {c:Prop} {_:Decidable c} {x:Option R} {r:R} (h:(if c then none else x)=some r): ¬c/\x=some r:=by
 split at h
 ·cases h
 ·rename_i hc;exact ⟨hc,h⟩
def kj1 {Z:Prop} {R:Type} {r:R} {b:BinOp} {t ty:TypeId} {x y:Operand} (hd:dec ops k n F'=some o) (hop:o.op=.binOp b t x y ty) {a c:AV T.U} (hx:aev T F x=some a) (hy:aev T F y=some c) {K0:AV T.U->Option R} (hK0:divA T b a c K0=some r)
  (h:Sim T w0 S0 ⟨F,H⟩ F' w S φ) (K: ∀a v,K0 a=some r->QR P F' o S φ rd w v->VR T w S φ a v->okA H a->Z):Z:=by
 obtain ⟨X,h1,h2⟩:=z7 h.fr hx;obtain ⟨Y,h3,h4⟩:=z7 h.fr hy;have hi: ∀(kk:IntKind) (z:Int),okA H (cI T kk z):=fun kk z=>⟨fun i hi=>(by cases hi),trivial⟩;unfold divA at hK0;split at hK0
 ·split at hK0
  ·rename_i hk;have:=v8 hk;subst this;have e1:=j9 h2;have e2:=j9 h4;subst e1;subst e2;unfold divA.divI at hK0;obtain ⟨hne,hK⟩:=zx3 hK0;exact K _ _ hK (fun w1 _ _=>by simp [execOp,hop,z8 h1,z8 h3,eqGuard,binOp,Op.intDiv,hne]) (.int _ _) (hi _ _)
  ·cases hK0
 ·split at hK0
  ·rename_i hk;have:=v8 hk;subst this;have e1:=j9 h2;have e2:=j9 h4;subst e1;subst e2;unfold divA.remI at hK0;obtain ⟨hne,hK⟩:=zx3 hK0;exact K _ _ hK (fun w1 _ _=>by simp [execOp,hop,z8 h1,z8 h3,eqGuard,binOp,Op.intDiv,hne]) (.int _ _) (hi _ _)
  ·cases hK0
 ·have e1:=j9 h2;have e2:=j9 h4;subst e1;subst e2;unfold divA.shlI at hK0;obtain ⟨hne,hK⟩:=zx3 hK0;exact K _ _ hK (fun w1 _ _=>by simp [execOp,hop,z8 h1,z8 h3,eqGuard,binOp,Op.shift,hne,kp5]) (.int _ _) (hi _ _)
 ·have e1:=j9 h2;have e2:=j9 h4;subst e1;subst e2;unfold divA.shrI at hK0;obtain ⟨hne,hK⟩:=zx3 hK0;exact K _ _ hK (fun w1 _ _=>by simp [execOp,hop,z8 h1,z8 h3,eqGuard,binOp,Op.shift,hne,kb4]) (.int _ _) (hi _ _)
 ·cases hK0
def jv3 {Z:Prop} {t:TypeId} {x:Operand} (hd:dec ops k n F'=some o) (hop:o.op=.load t x) {i o1 sz n0 j c:Nat} {e:TypeId} {cs r:List (AV T.U)} {ty:Ty} {xs:List (den T.U ty)} {a:AV T.U} (hx:aev T F x=some (.aptr i o1 sz n0 j c)) (hi:H[i]?=some (.blk e cs)) (hloc:yu5 T cs o1=some (.arr ty n0 xs::r)) (hsz:szT T ty=sz) (hl:zp7 T P t (zr1 T ty (xs.getD j (zv6 T ty))) c=some a)
  (h:Sim T w0 S0 ⟨F,H⟩ F' w S φ) (hrd:i∈rd) (K: ∀v,QR P F' o S φ rd w v->VR T w S φ a v->okA H a->Z):Z:=by
 obtain ⟨v,h1,g,h2,hj,rfl⟩:=z7 h.fr hx;obtain ⟨g',cc,vals,a1,a2,a3,a4,a5,a6⟩:=vj5 (h.ents i _ hi) hloc;rw [h2] at a1;simp only [X0,Addr.mk.injEq,and_true] at a1;subst a1;subst hsz;have hcut:=a6.cut (j*szT T ty) (szT T ty);rw [yd4 (q7 T ty) (zk7 (zv6 T ty) (show j<xs.length by omega))] at hcut;have hr:Rg w (some ⟨g,o1+j*szT T ty,none⟩) ((vals.drop (j*szT T ty)).take (szT T ty)):=Rg.sub a5 _ _ _ fun _=>rfl;exact jp2 hd hop (b:=g) (o0:=o1+j*szT T ty) (c:=c) (by rw [h1,V1]) (fun w1 _ hsm=>Rg.same hr (show w1.heap[g]?=w.heap[g]? from hsm i hrd _ h2 a2.lt)) (CellsR.vrl hcut) (yk4 _ _) (yk3 _ _) hl K
def vk8 {Z:Prop} {t:TypeId} {x:Operand} (hd:dec ops k n F'=some o) (hop:o.op=.load t x) {p a:AV T.U} (hx:aev T F x=some p) (hl:loadA T P t H p=some a) (h:Sim T w0 S0 ⟨F,H⟩ F' w S φ) (hrd: ∀i∈p.ids,i∈rd) (K: ∀v,QR P F' o S φ rd w v->VR T w S φ a v->okA H a->Z):Z:=by
 unfold loadA at hl;split at hl
 ·split at hl
  ·rename_i e cs hi;split at hl
   ·cases hl
   ·rename_i hne;exact qf9 hd hop hx hi (fun i sz kk c e=>hne i sz kk c (e▸hl)) hl h (hrd _ (by simp [AV.ids])) K
  ·cases hl
 ·split at hl
  ·rename_i e cs hi;split at hl
   ·rename_i b r hloc;split at hl
    ·rename_i ty n' xs hb;have:=zq2 hb;subst this;split at hl
     ·rename_i hm;rw [X3] at hm;have hm1:=X1 hm.1;have hm2:=X1 hm.2;subst hm1;exact jv3 hd hop hx hi hloc hm2 hl h (hrd _ (by simp [AV.ids])) K
     ·cases hl
    ·cases hl
   ·cases hl
  ·cases hl
 ·split at hl
  ·rename_i e ty xs hi;exact jv4 hd hop hx hi hl h (hrd _ (by simp [AV.ids])) K
  ·cases hl
 ·exact jv5 hd hop hx hl h K
 ·cases hl
def vi7 {t:TypeId} {x y:Operand} (hd:dec ops k n F'=some o) (hop:o.op=.store t x y) (hdst:o.dst=none) {p a:AV T.U} {H1:List (Ent T.U)} (hx:aev T F x=some p) (hy:aev T F y=some a) (hs:yw7 T P t H p a=some H1) (h:Sim T w0 S0 ⟨F,H⟩ F' w S φ) (K:zn5 P ops Q (k+1) n ds w0 S0 (⟨F,H1⟩:St T)):WR P ops Q k n ds F' w:=by
 unfold yw7 at hs;split at hs
 ·split at hs
  ·rename_i e cs hi;split at hs
   ·rename_i cs' hf;simp only [X0] at hs;subst hs;obtain ⟨X,h1,g,h2,rfl⟩:=z7 h.fr hx;exact yn3 hd hop hdst h1 h2 hy hi (fun vs v hb hv=>qi4 hf hb hv) h K
   ·cases hs
  ·cases hs
 ·rename_i i1 o1 sz1 n1 k1 c1;split at hs
  ·rename_i e cs hi;split at hs
   ·rename_i l hf hl;split at hs
    ·rename_i cs' ht;simp only [X0] at hs;subst hs;obtain ⟨X,h1,g,h2,hk1,rfl⟩:=z7 h.fr hx;obtain ⟨ii,hii,f1,f2,f3,f4⟩:=zy1 hf;refine yn3 hd hop hdst h1 h2 hy hi (fun vs v hb hv=>?_) h K;have hcr:=zp2 hl (zh4 f1 hv);have hcl:=(zh4 f1 hv).len T;obtain ⟨g1,g2,g3⟩:=BR.turn (us:=v.cells.toList) (ex:= []) ht hb fun l1 l2 B hf1 hB=>jv7 hf1 hB hk1 hcr;refine ⟨g1,fun i hi=>(g3 i hi).imp id (fun h=>absurd h (by simp)),fun c0 hcs=>?_⟩;exact jt9 hf hv (c:=c0) (p:=o1+(k1*sz1+c1)) (by rw [hcl];omega)
    ·cases hs
   ·cases hs
  ·cases hs
 ·split at hs
  ·rename_i e ty xs hi;split at hs
   ·rename_i hf hl;split at hs
    ·rename_i y' hy';simp only [X0] at hs;subst hs;exact jg8 hd hop hdst hx hy hi hf hl hy' h K
    ·cases hs
   ·cases hs
  ·cases hs
 ·cases hs
end
end Go.X
