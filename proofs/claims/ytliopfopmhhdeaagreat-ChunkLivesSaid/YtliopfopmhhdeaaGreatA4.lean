import Derived.Test.YtliopfopmhhdeaaGreatA3
set_option linter.defProp false
namespace Go.X
open Go.RowKit Go.V
section
variable {T:Tab} {P:Program} {w w':World} {S S':List Nat} {φ φ':Nat->RA} {w0:World} {S0:Ow} {F:AF T} {H:List (Ent T.U)} {F':PF}
variable {rd:List Nat} {ops:Array Oper} {Q:Exit->Act->World->Prop} {k n:Nat} {ds:List Deferred} {o:Oper}
def zd9 {t:TypeId} {n sz:Nat} (h:zf8 P t=some (n,sz)): ∃e inf,P.underlying t=some (.array n e)/\P.info? e=some inf/\inf.size=sz/\ ∀w,(sizeOf e).run P w=.ok sz w:=by
 unfold zf8 at h;split at h
 ·rename_i m e hu;split at h
  ·rename_i inf hi;simp only [X0,X7] at h;obtain ⟨rfl,rfl⟩:=h;exact ⟨e,inf,hu,hi,rfl,fun w=>by simp [sizeOf,typeInfo,hi]⟩
  ·cases h
 ·cases h
def zv2 (b o1 d:Nat):(⟨b,o1,none⟩:Addr).add d=⟨b,o1+d,none⟩:=by unfold Addr.add;split<;>simp_all
def QR.indexArr {t:TypeId} {x y:Operand} {b o1 n0 sz:Nat} {kk:IntKind} {i:Int} (h0:dec ops k n F'=some o) (hop:o.op=.indexAddr t x y) (hai:zf8 P t=some (n0,sz)) (hx:ev F' x=some (.pointer (some ⟨b,o1,none⟩))) (hy:ev F' y=some (.int kk i)) (hi:0<=i/\i<(n0:Int)):
  QR P F' o S φ rd w (.pointer (some ⟨b,o1+i.toNat*sz,none⟩)):=by
 obtain ⟨e,inf,hu,_,_,hs⟩:=zd9 hai;intro w1 _ _;have h1:=hi.1;have h2:=hi.2;simp [execOp,hop,j6 hx,j6 hy,Instr.indexAt,asIntOf,run_underlying hu,Instr.sureAddr,h1,h2,hs,zv2]
def vp6 {Z:Prop} {R:Type} {r:R} {t:TypeId} {x y:Operand} {n0 sz:Nat} (hd:dec ops k n F'=some o) (hop:o.op=.indexAddr t x y) (hai:zf8 P t=some (n0,sz)) {s:AV T.U} {kk:IntKind} {j:Int} (hx:aev T F x=some s) (hy:aev T F y=some (cI T kk j)) {K0:AV T.U->Option R} (hK0:yc0 T n0 sz H s j K0=some r)
  (h:Sim T w0 S0 ⟨F,H⟩ F' w S φ) (K: ∀a v,K0 a=some r->QR P F' o S φ rd w v->VR T w S φ a v->okA H a->Z):Z:=by
 obtain ⟨X,h1,h2⟩:=z8 h.fr hx;obtain ⟨Y,h3,h4⟩:=z8 h.fr hy;have e:=v7 h4;subst e;have hok:=zb5 h hx;unfold yc0 at hK0;split at hK0
 ·rename_i i o1;obtain ⟨g,hg,rfl⟩:=h2;split at hK0
  ·rename_i e cs hi;split at hK0
   ·rename_i b r hl;split at hK0
    ·rename_i ty m xs hb;have:=zs6 hb;subst this;split at hK0
     ·rename_i hm;rw [X3] at hm;have hm1:=X1 hm.1;have hm2:=X1 hm.2;obtain ⟨hj,hK⟩:=q7 hK0;exact K _ _ hK (QR.indexArr hd hop hai h1 h3 hj) ⟨g,hg,by omega,by simp⟩ ⟨hok.1,trivial⟩
     ·cases hK0
    ·obtain ⟨hj,hK⟩:=q7 hK0;exact K _ _ hK (QR.indexArr hd hop hai h1 h3 hj) ⟨g,hg,rfl⟩ ⟨hok.1,trivial⟩
   ·cases hK0
  ·cases hK0
 ·rename_i e xs k1 c;split at hK0
  ·rename_i hm;rw [X3] at hm;have hm1:=X1 hm.1;have hm2:=X1 hm.2;obtain ⟨hj,hK1⟩:=q7 hK0;obtain ⟨hj2,hK⟩:=q7 hK1;obtain ⟨ad,cap,hc,hk,rfl⟩:=h2;subst hm1;subst hm2;exact K _ _ hK (QR.indexArr hd hop hai h1 h3 hj) ⟨ad,cap,hc,hj2,by simp [V6,V1]⟩ ⟨hok.1,trivial⟩
  ·cases hK0
 ·rename_i i s k1 c;split at hK0
  ·rename_i e ty xs hi;split at hK0
   ·rename_i hm;rw [X3,X3] at hm;have hm1:=X1 hm.1;have hm2:=X1 hm.2.1;have hm3:=X1 hm.2.2;obtain ⟨hj,hK1⟩:=q7 hK0;obtain ⟨hj2,hK⟩:=q7 hK1;obtain ⟨g,hg,rfl⟩:=h2;subst hm1;subst hm2;subst hm3;refine K _ _ hK (QR.indexArr hd hop hai h1 h3 hj) ⟨g,hg,by simp [V6,V1]⟩ ⟨hok.1,?_⟩;intro e1 t1 ys hy1;have hi':H[i]?=some (.row e ty xs):=hi;rw [hi'] at hy1;simp only [X0,Ent.row.injEq] at hy1;obtain ⟨rfl,rfl,hh⟩:=hy1;have:=eq_of_heq hh;subst this;exact ⟨hj2,rfl⟩
   ·cases hK0
  ·cases hK0
 ·cases hK0
def vm2 (P:Program) (t:TypeId):Option (Nat×Nat):=match P.underlying t with|some (.pointer a)=>zf8 P a|_=>zf8 P t
def jc3 {n0:Nat} {l h:Option Int} {kl kh:IntKind} (hj:0<=l.getD 0/\l.getD 0<=h.getD n0/\h.getD n0<=(n0:Int)) (w:World):(Instr.sliceBounds false n0 n0 (l.map (Value.int kl)) (h.map (Value.int kh)) none).run P w=.ok ((l.getD 0).toNat,(h.getD n0).toNat,n0) w:=by
 obtain ⟨h1,h2,h3⟩:=hj;cases l<;>cases h<;>simp only [N5,V2] at h1 h2 h3⊢
 ·simp [Instr.sliceBounds]
 ·rename_i b;simp [Instr.sliceBounds,Instr.sliceBound,asIntOf,h2,h3]
 ·rename_i a;simp [Instr.sliceBounds,Instr.sliceBound,asIntOf,h1,h2]
 ·rename_i a b;have e:a<=((b.toNat:Nat):Int):=by omega
  have e2:0<=b:=by omega
  have e3: ¬max b 0<a:=by omega
  simp [Instr.sliceBounds,Instr.sliceBound,asIntOf,h1,e2,h3,e,e3]
def QR.sliceArr {t:TypeId} {x:Operand} {lo hi:Option Operand} {b o1 n0 sz:Nat} {l m:Option Int} {kl kh:IntKind} (h0:dec ops k n F'=some o) (hop:o.op=.slice t x lo hi none) (hai:vm2 P t=some (n0,sz)) (hx:ev F' x=some (.pointer (some ⟨b,o1,none⟩)))
  (e1:lo.map (evD F')=l.map (Value.int kl)) (e2:hi.map (evD F')=m.map (Value.int kh)) (hj:0<=l.getD 0/\l.getD 0<=m.getD n0/\m.getD n0<=(n0:Int)):
  QR P F' o S φ rd w (.slice (some (if n0=(l.getD 0).toNat then ⟨b,o1,none⟩ else ⟨b,o1+(l.getD 0).toNat*sz,none⟩)) ((m.getD n0).toNat-(l.getD 0).toNat) (n0-(l.getD 0).toNat)):=by
 intro w1 _ _;have hb:=jc3 (P:=P) (kl:=kl) (kh:=kh) hj w1;unfold vm2 at hai;split at hai
 ·rename_i a hu;obtain ⟨e,inf,hu2,_,_,hs⟩:=zd9 hai;have:(Instr.sliceAt t (.pointer (some ⟨b,o1,none⟩)) (l.map (Value.int kl)) (m.map (Value.int kh)) none).run P w1=.ok (.slice (some (if n0=(l.getD 0).toNat then ⟨b,o1,none⟩ else ⟨b,o1+(l.getD 0).toNat*sz,none⟩)) ((m.getD n0).toNat-(l.getD 0).toNat) (n0-(l.getD 0).toNat)) w1:=by
   simp [Instr.sliceAt,Instr.slice,run_underlying hu,run_underlying hu2,asAddr,hb,hs,zv2]
  simp [execOp,hop,j6 hx,e1,e2,this]
 ·obtain ⟨e,inf,hu2,_,_,hs⟩:=zd9 hai;have:(Instr.sliceAt t (.pointer (some ⟨b,o1,none⟩)) (l.map (Value.int kl)) (m.map (Value.int kh)) none).run P w1=.ok (.slice (some (if n0=(l.getD 0).toNat then ⟨b,o1,none⟩ else ⟨b,o1+(l.getD 0).toNat*sz,none⟩)) ((m.getD n0).toNat-(l.getD 0).toNat) (n0-(l.getD 0).toNat)) w1:=by
   simp [Instr.sliceAt,run_underlying hu2,Instr.sureAddr,hb,hs,zv2]
  simp [execOp,hop,j6 hx,e1,e2,this]
def vu9 {Z:Prop} {R:Type} {r:R} {t:TypeId} {x:Operand} {lo hi:Option Operand} {n0 sz:Nat} (hd:dec ops k n F'=some o) (hop:o.op=.slice t x lo hi none) (hai:vm2 P t=some (n0,sz)) {s:AV T.U} {l m:Option Int} (hx:aev T F x=some s) (hlo:jt8 F lo=some l) (hhi:jt8 F hi=some m)
  {K0:AV T.U->Option R} (hK0:yn2 T n0 sz H s l m K0=some r) (h:Sim T w0 S0 ⟨F,H⟩ F' w S φ) (K: ∀a v,K0 a=some r->QR P F' o S φ rd w v->VR T w S φ a v->okA H a->Z):Z:=by
 obtain ⟨X,h1,h2⟩:=z8 h.fr hx;obtain ⟨kl,e1⟩:=yr1 h.fr hlo;obtain ⟨kh,e2⟩:=yr1 h.fr hhi;have hok:=zb5 h hx;unfold yn2 at hK0;simp only at hK0;split at hK0
 ·rename_i i o1;obtain ⟨g,hg,rfl⟩:=h2;split at hK0
  ·rename_i e cs hi;split at hK0
   ·rename_i b r hl;split at hK0
    ·rename_i ty mm xs hb;have:=zs6 hb;subst this;split at hK0
     ·rename_i hm;rw [X3] at hm;have hm1:=X1 hm.1;have hm2:=X1 hm.2;obtain ⟨hj,hK⟩:=q7 hK0;refine K (.asl i o1 sz n0 (l.getD 0).toNat ((m.getD n0).toNat-(l.getD 0).toNat)) _ hK (QR.sliceArr hd hop hai h1 e1 e2 hj) ⟨g,_,hg,rfl,by omega,?_⟩ ⟨hok.1,trivial⟩;split
      ·left;omega
      ·right;rfl
     ·cases hK0
    ·cases hK0
   ·cases hK0
  ·cases hK0
 ·rename_i e xs k1 c;split at hK0
  ·rename_i hm;rw [X3,X3] at hm;have hm1:=X1 hm.1;have hm2:=X1 hm.2.1;have hm3:=X1 hm.2.2;subst hm1;subst hm2;subst hm3;obtain ⟨hn,hK1⟩:=q7 hK0;obtain ⟨hj,hK⟩:=q7 hK1;obtain ⟨ad,cap,hc,hk,rfl⟩:=h2;refine K (.cell ⟨.list e,_⟩) _ hK (QR.sliceArr hd hop hai h1 e1 e2 hj) ?_ ⟨fun i hi=>(by cases hi),trivial⟩;show CR T w S (.list e) (List.take ((m.getD n0).toNat-(l.getD 0).toNat) (List.drop (l.getD 0).toNat xs)) _;have had:ad=some ⟨bk ad,of ad,none⟩:=by
    generalize hv:Value.slice ad xs.length cap=v at hc;cases hc with
    |list _ _ ad' cap' u hcap hnil had hcell hrel=>
     simp only [Value.slice.injEq,true_and] at hv;obtain ⟨rfl,rfl⟩:=hv;exact (had (by intro e;subst e;simp at hk)).1
   have h3:=CR.sub hc (i:=0) (m:=n0) (by omega);rw [qs4,N2] at h3;have hl3:(xs.take n0).length=n0:=by rw [Y6];omega
   have h4:CR T w S (.list e) (xs.take n0) (.slice ad (xs.take n0).length n0):=CR.recap (by rw [hl3];exact h3) (by omega) (by intro e;rw [e] at had;cases had);have h5:=CR.sub h4 (i:=(l.getD 0).toNat) (m:=(m.getD n0).toNat-(l.getD 0).toNat) (by omega);rw [List.drop_take,List.take_take,V7 (by omega)] at h5;have hcut:zk8 ad n0 (l.getD 0).toNat (szT T e)=some (if n0=(l.getD 0).toNat then ⟨bk ad,of ad+(0*szT T e+0),none⟩ else ⟨bk ad,of ad+(0*szT T e+0)+(l.getD 0).toNat*szT T e,none⟩):=by
    unfold zk8;generalize bk ad=b at *;generalize of ad=o1 at *;subst had;split
    ·simp
    ·simp [zv2]
   rwa [hcut] at h5
  ·cases hK0
 ·cases hK0
def kd4 {Z:Prop} {R:Type} {r:R} {t:TypeId} {x:Operand} {n0 sz:Nat} (hop:o.op=.sliceToArrayPointer t x) (hai:zf8 P t=some (n0,sz)) {s:AV T.U} (hx:aev T F x=some s)
  {K0:AV T.U->Option R} (hK0:yl5 T n0 sz H s K0=some r) (h:Sim T w0 S0 ⟨F,H⟩ F' w S φ) (K: ∀a v,K0 a=some r->QR P F' o S φ rd w v->VR T w S φ a v->okA H a->Z):Z:=by
 obtain ⟨X,h1,h2⟩:=z8 h.fr hx;have hok:=zb5 h hx;obtain ⟨e0,inf,hu,_,_,_⟩:=zd9 hai;have run: ∀(ad:Option Addr) (m cap:Nat),X=.slice ad m cap->n0<=m->QR P F' o S φ rd w (.pointer ad):=by
  intro ad m cap e hm w1 _ _;subst e;simp [execOp,hop,j6 h1,Instr.arrayAt,run_underlying hu,Nat.not_lt.2 hm]
 unfold yl5 at hK0;split at hK0
 ·rename_i e xs;split at hK0
  ·rename_i hm;rw [X3] at hm;have hm2:=Y1 hm.2;obtain ⟨hn,hK⟩:=q7 hK0;have h2:CR T w S (.list e) xs X:=h2;have h2':=h2;cases h2' with
   |list _ _ ad cap u hcap hnil had hcell hrel=>
    have hq:=run ad _ _ rfl hn;have ha:=(had (by intro e;subst e;simp at hn;omega)).1;refine K _ _ hK hq ⟨ad,cap,h2,by omega,?_⟩ ⟨fun i hi=>(by cases hi),trivial⟩;have ha2:ad=some ⟨bk ad,of ad+(0*szT T e+0),none⟩:=by rw [M1];exact ha
    exact congrArg Value.pointer ha2
  ·cases hK0
 ·rename_i i;split at hK0
  ·rename_i e ty xs hi;split at hK0
   ·rename_i hm;rw [X3] at hm;have hm1:=X1 hm.1;have hm2:=Y1 hm.2;subst hm1;obtain ⟨hn,hK⟩:=q7 hK0;rw [VR] at h2;subst h2;obtain ⟨g,c,B,vals,a1,a2,_⟩:=jb4 h hi (by omega);refine K _ _ hK (run _ _ _ rfl (by omega)) ⟨g,a1,by rw [a1];simp⟩ ⟨hok.1,?_⟩;intro e1 t1 ys hy1;have hi':H[i]?=some (.row e ty xs):=hi;rw [hi'] at hy1;simp only [X0,Ent.row.injEq] at hy1;obtain ⟨rfl,rfl,hh⟩:=hy1;have:=eq_of_heq hh;subst this;exact ⟨by omega,rfl⟩
   ·cases hK0
  ·cases hK0
 ·cases hK0
def vv1 {t e:TypeId} {n0:Nat} (hu:P.underlying t=some (.array n0 e)):zj2 P t=false/\(P.underlying t).isSome=true:=by
 unfold zj2;rw [hu];exact ⟨rfl,rfl⟩
def qe4 {α β:Type} {f:α->List β} {sz:Nat} (hf: ∀y,(f y).length=sz) (l:List α) (a b:Nat):((l.flatMap f).drop (a*sz)).take (b*sz)=((l.drop a).take b).flatMap f:=by
 have h1:(l.flatMap f).drop (a*sz)=(l.drop a).flatMap f:=by
  induction l generalizing a with
  |nil=>simp
  |cons x r ih=>
   cases a with
   |zero=>simp
   |succ a=>rw [V5,List.drop_succ_cons,V9,J6,List.drop_append,hf,R8 (by rw [hf];omega),N1,M9,ih]
 rw [h1];generalize l.drop a=l;induction l generalizing b with
 |nil=>simp
 |cons x r ih=>
  cases b with
  |zero=>simp
  |succ b=>rw [V5,List.take_succ_cons,V5,V9,J6,List.take_append,hf,Q4 (by rw [hf];omega),N1,ih]
def kf1 {Z:Prop} {R:Type} {r:R} {t:TypeId} {x:Operand} {n0 sz:Nat} (hd:dec ops k n F'=some o) (hop:o.op=.load t x) (hai:zf8 P t=some (n0,sz)) {ok:Bool} (hk:ok=true->yt2 P t=some (n0*sz)) {s:AV T.U} (hx:aev T F x=some s)
  {K0:AV T.U->Option R} {D:Option R} (hK0:yk2 T n0 sz ok H s K0 D=some r) (h:Sim T w0 S0 ⟨F,H⟩ F' w S φ) (hrd: ∀i∈s.ids,i∈rd) (K: ∀a v,K0 a=some r->QR P F' o S φ rd w v->VR T w S φ a v->okA H a->Z) (KD:D=some r->Z):Z:=by
 obtain ⟨X,h1,h2⟩:=z8 h.fr hx;obtain ⟨e0,inf,hu,_,_,_⟩:=zd9 hai;obtain ⟨u1,u2⟩:=vv1 hu;unfold yk2 at hK0;split at hK0
 ·rename_i e xs k1 c;split at hK0
  ·rename_i hm;rw [X3,X3] at hm;have hm1:=X1 hm.2.1;have hm2:=X1 hm.2.2;subst hm1;subst hm2;obtain ⟨hle,hK⟩:=q7 hK0;obtain ⟨ad,cap,hc,hk1,rfl⟩:=h2;have had:bk ad∉S:=by
    generalize hv:Value.slice ad xs.length cap=v at hc;cases hc with
    |list _ _ ad' cap' u hcap hnil had hcell hrel=>
     simp only [Value.slice.injEq,true_and] at hv;obtain ⟨rfl,rfl⟩:=hv;exact (had (by intro e;subst e;simp at hk1)).2.2
   obtain ⟨_,_,vals,hr,hcr⟩:=ji5 hc;have hcut:=hcr.cut (k1*szT T e) (n0*szT T e);rw [qe4 (v8 T e)] at hcut;have hlen:((xs.drop k1).take n0).length=n0:=by rw [Y6,Q7];omega
   have hvl:=hcut.1;rw [flatMap_lenT (v8 T e),hlen] at hvl;exact K _ _ hK (QR.loadA hd (fun w1 hc1 _=>hr.chg hc1 (.inl had)) (by rw [zw2 hd hop,j6 h1,J8]) u1 u2 (hk hm.1) _ hvl.symm rfl) ⟨_,rfl,hlen,hcut⟩ ⟨fun i hi=>(by cases hi),trivial⟩
  ·exact KD hK0
 ·rename_i i s k1 c;split at hK0
  ·rename_i e ty xs hi;split at hK0
   ·rename_i hm;rw [X3,X3,X3] at hm;have hm1:=X1 hm.2.1;have hm2:=X1 hm.2.2.1;have hm3:=X1 hm.2.2.2;subst hm1;subst hm2;subst hm3;obtain ⟨hle,hK⟩:=q7 hK0;obtain ⟨hj,_⟩:=(zb5 h hx).2 e ty xs hi;obtain ⟨g,hg,rfl⟩:=h2;obtain ⟨g',carr,B,vals,a1,a2,a3,a4,a5,a6,a7,a8,_⟩:=jb4 h hi (by omega);rw [hg] at a1;simp only [X0,Addr.mk.injEq,and_true] at a1;subst a1;have hr:Rg w (φ i).ad vals:=a3.rg;rw [hg] at hr;have hcut:=a7.cut (k1*szT T ty) (n0*szT T ty);rw [qe4 (v8 T ty)] at hcut;have hlen:((xs.drop k1).take n0).length=n0:=by rw [Y6,Q7];omega
    have hvl:=hcut.1;rw [flatMap_lenT (v8 T ty),hlen] at hvl;exact K _ _ hK (QR.loadA (ad:=some ⟨g,0,none⟩) hd (fun w1 _ hsm=>Rg.same hr (show w1.heap[g]?=w.heap[g]? from hsm i (hrd i (by simp [AV.ids])) _ hg a4.lt)) (by rw [zw2 hd hop,j6 h1];rfl) u1 u2 (hk hm.1) _ hvl.symm rfl) ⟨_,rfl,hlen,hcut⟩ ⟨fun i hi=>(by cases hi),trivial⟩
   ·exact KD hK0
  ·exact KD hK0
 ·exact KD hK0
def ym7 {R:Type} (T:Tab) (n sz:Nat) (a:AV T.U) (j:Int) (K:AV T.U->Option R):Option R:=
 match a with
 | .arr ty m xs=>match Nat.beq m n&&(Nat.beq (szT T ty) sz&&(ty.one&&Nat.beq sz 1)) with
  |true=>if 0<=j/\j<((n:Nat):Int) then K (.cell ⟨ty,xs.getD j.toNat (zy1 T ty)⟩) else none
  |false=>none
 | .agg (.cell c::cs)=>match c.t.one&&Nat.beq sz 1,jg7 T c.t n (.cell c::cs) with
  |true,some xs=>if 0<=j/\j<((n:Nat):Int) then K (.cell ⟨c.t,xs.getD j.toNat (zy1 T c.t)⟩) else none
  |_,_=>none
 |_=>none
def vs3 {e:TypeId} {inf:TypeInfo} {d:TypeDesc} (hi:P.info? e=some inf) (hs:inf.size=1) (hu:P.underlying e=some d) (hd:ya1 d=false) {cs:Array Value} {j:Nat} {v:Value} (hj:cs[j]?=some v) (w:World):(part e cs j).run P w=.ok v w:=by
 refine yk6 ?_ w;unfold ys6;simp only [hi,hu,hd];exact hj
def vr7 {t:Ty} (h:t.one=true):szT T t=1:=by cases t<;>first|rfl|cases h
def vp7 {Z:Prop} {R:Type} {r:R} {t e:TypeId} {d:TypeDesc} {x y:Operand} {n0 sz:Nat} (hop:o.op=.index t x y) (hai:zf8 P t=some (n0,sz)) (hel:P.underlying t=some (.array n0 e)) (hu:P.underlying e=some d) (had:ya1 d=false) {s:AV T.U} {kk:IntKind} {j:Int} (hx:aev T F x=some s) (hy:aev T F y=some (cI T kk j))
  {K0:AV T.U->Option R} (hK0:ym7 T n0 sz s j K0=some r) (h:Sim T w0 S0 ⟨F,H⟩ F' w S φ) (K: ∀a v,K0 a=some r->QR P F' o S φ rd w v->VR T w S φ a v->okA H a->Z):Z:=by
 obtain ⟨X,h1,h2⟩:=z8 h.fr hx;obtain ⟨Y,h3,h4⟩:=z8 h.fr hy;have e1:=v7 h4;subst e1;obtain ⟨e0,inf,hu0,hinf,hsz,hs⟩:=zd9 hai;rw [hel] at hu0;simp only [X0,TypeDesc.array.injEq,true_and] at hu0;subst hu0;have go: ∀(ty:Ty) (xs:List (den T.U ty)) (us:Array Value),ty.one=true->sz=1->X=.agg us->CellsR T w S (xs.flatMap (za3 T ty)) us.toList->xs.length=n0->(0<=j/\j<(n0:Int))->K0 (.cell ⟨ty,xs.getD j.toNat (zy1 T ty)⟩)=some r->Z:=by
  intro ty xs us hone hs1 hX hc hl hj hK;subst hX;have hjl:j.toNat<xs.length:=by omega
  have hg:=zm0 (zy1 T ty) hjl;have hfl:(xs.flatMap (za3 T ty))[j.toNat]?=some ⟨ty,xs.getD j.toNat (zy1 T ty)⟩:=by
   have:=yf9 (v8 T ty) hg;rw [vr7 hone,Nat.mul_one,yr9 T hone] at this;have h5:=congrArg (·[0]?) this;simpa [Z3,Q6] using h5
  have hul:j.toNat<us.toList.length:=by rw [<-hc.1];exact (X2.1 hfl).1
  obtain ⟨u,hu1⟩: ∃u,us.toList[j.toNat]?=some u:=⟨_,Y0 hul⟩;have hcr:=hc.2 _ _ _ hfl hu1;refine K _ u hK (fun w1 _ _=>?_) hcr ⟨fun i hi=>(by cases hi),trivial⟩;have hp:=vs3 (P:=P) hinf (by rw [hsz,hs1]) hu had (cs:=us) (j:=j.toNat) (by simpa using hu1) w1;have b1:=hj.1;have b2:=hj.2;have hs:=hs w1;rw [hs1] at hs;simp [execOp,hop,j6 h1,j6 h3,Instr.index,asIntOf,run_underlying hel,b1,b2,hs,hp]
 unfold ym7 at hK0;split at hK0
 ·rename_i ty m xs;split at hK0
  ·rename_i hm;rw [X3,X3,X3] at hm;have hm1:=X1 hm.1;have hm4:=X1 hm.2.2.2;subst hm1;obtain ⟨hj,hK⟩:=q7 hK0;obtain ⟨us,rfl,hl,hc⟩:=h2;exact go ty xs us hm.2.2.1 hm4 rfl hc hl hj hK
  ·cases hK0
 ·rename_i c cs;split at hK0
  ·rename_i xs hm hr;rw [X3] at hm;have hm4:=X1 hm.2;obtain ⟨hj,hK⟩:=q7 hK0;obtain ⟨us,rfl,hc⟩:=h2;obtain ⟨q1,q2⟩:=yb2 hr hc;exact go c.t xs us hm.1 hm4 rfl q2 q1 hj hK
  ·cases hK0
 ·cases hK0
def vh9 {a b:AV T.U} (h:qt7 T a b=true):a=b:=by
 unfold qt7 at h;split at h
 ·rw [X3] at h;obtain ⟨h1,h2⟩:=h;have h1:=k9 h1;subst h1;have h2:=eq_of_beq (show (_==_)=true from h2);exact congrArg (fun z=>AV.cell ⟨.int _,z⟩) h2
 ·have h2:=eq_of_beq (show (_==_)=true from h);exact congrArg (fun z=>AV.cell ⟨.bool,z⟩) h2
 ·cases h
def js0: ∀ {z r s:List (AV T.U)},jm2 T z r=some s->r=z++s
 | [],r,s,h=>by simp only [jm2,X0] at h;exact h
 |_::_,[],s,h=>by cases h
 |a::z,b::r,s,h=>by
  unfold jm2 at h;split at h
  ·rename_i hs;rw [<-vh9 hs,js0 h];rfl
  ·cases h
def jg6 {t:Ty} {x:den T.U t} {z:List (AV T.U)} (hz:z=(za3 T t x).map .cell): ∀ {m:Nat} {r:List (AV T.U)} {vs:List Value},jl7 T z m r=true->VRL T w S φ r vs->CellsR T w S ((List.replicate m x).flatMap (za3 T t)) vs
 |0,r,vs,h,hv=>by
  have:r= []:=by simpa [jl7] using h
  subst this;cases vs with
  |nil=>exact ⟨rfl,fun j c v h=>by simp at h⟩
  |cons v r=>exact hv.elim
 |m+1,r,vs,h,hv=>by
  unfold jl7 at h;split at h
  ·rename_i s hs;have:=js0 hs;subst this;have h1:=hv.take T z.length;rw [List.take_left' rfl] at h1;have h2:=hv.drop T z.length;rw [List.drop_left' rfl] at h2;rw [List.replicate_succ,V5,<-List.take_append_drop z.length vs];refine CellsR.app ?_ (jg6 hz h h2);subst hz;exact VRL.cells.1 h1
  ·cases h
def ve3 {a:AV T.U} (h:jy8 a=true):a=.raw (.slice none 0 0):=by
 unfold jy8 at h;split at h
 ·rfl
 ·cases h
def qg2 {e:Ty}: ∀ {aS:List (AV T.U)} {vs:List Value},aS.all jy8=true->VRL T w S φ aS vs->CellsR T w S ((List.replicate aS.length ([]:List (den T.U e))).flatMap (za3 T (.nl e))) vs
 | [],[],_,_=>⟨rfl,fun j c v h=>by cases h⟩
 | [],_::_,_,hv=>hv.elim
 |_::_,[],_,hv=>hv.elim
 |a::aS,v::vs,h,hv=>by
  rw [J1,X3] at h;have h1:=ve3 h.1;subst h1;have h2:v=.slice none 0 0:=hv.1;subst h2;show CellsR T w S (([⟨.nl e,([]:List (den T.U e))⟩]:List (Cell T.U))++(List.replicate aS.length ([]:List (den T.U e))).flatMap (za3 T (.nl e))) ([.slice none 0 0]++vs);refine CellsR.app ?_ (qg2 h.2 hv.2);refine ⟨rfl,fun j c v hj hv=>?_⟩
  match j with
  |0=>
   simp only [Y4,X0] at hj hv;subst hj;subst hv;exact .nl e [] none 0 (.list e [] none 0 (fun _ _=>.slice none 0 0) (W8 0) (fun _=>⟨rfl,rfl⟩) (fun h=>absurd rfl h) (fun k j c h=>by simp at h) (fun k j c h=>by simp at h)) fun _=>⟨rfl,rfl⟩
  |j+1=>simp at hj
def qp4 {t:Ty} {m:Nat} {aS:List (AV T.U)} {xs:List (den T.U t)} {vs:List Value} (h:qt2 T m aS t=some xs) (hv:VRL T w S φ aS vs):xs.length=m/\CellsR T w S (xs.flatMap (za3 T t)) vs:=by
 unfold qt2 at h;split at h
 ·split at h
  ·rename_i hb;rw [X3] at hb;simp only [X0] at h;subst h;have:=X1 hb.2;subst this;exact ⟨Z9,qg2 hb.1 hv⟩
  ·cases h
 ·cases h
def vc7 {t:Ty} {m:Nat} {aS:List (AV T.U)} {xs:List (den T.U t)} {vs:List Value} (h:ka0 T t m aS=some xs) (hv:VRL T w S φ aS vs):xs.length=m/\CellsR T w S (xs.flatMap (za3 T t)) vs:=by
 unfold ka0 at h;split at h
 ·rename_i ys hys;simp only [X0] at h;subst h;exact qp4 hys hv
 split at h
 ·rename_i l hl;split at h
  ·rename_i x hx;split at h
   ·rename_i hr;simp only [X0] at h;subst h;exact ⟨Z9,jg6 (by rw [zm8 T hx];exact zr4 hl) hr hv⟩
   ·exact yb2 h hv
  ·cases h
 ·cases h
def yo1: ∀ {ls:Lay} {aS cs:List (AV T.U)},yq5 T ls aS=some cs->(∀i∈j8 cs,i∈j8 aS)/\ ∀ {w:World} {S:List Nat} {φ:Nat->RA} {vs:List Value},VRL T w S φ aS vs->BR T w S φ cs vs
 | [],[],cs,h=>by
  simp only [yq5,X0] at h;subst h;exact ⟨fun i hi=>hi,fun hv=>⟨hv,trivial⟩⟩
 | [],_::_,cs,h=>by cases h
 |none::r,[],cs,h=>by cases h
 |none::r,a::s,cs,h=>by
  unfold yq5 at h;simp only at h;split at h
  ·rename_i hn;split at h
   ·rename_i l hl;simp only [X0] at h;subst h;obtain ⟨h1,h2⟩:=yo1 hl;refine ⟨fun i hi=>?_,fun {w S φ vs} hv=>?_⟩
    ·rw [j8] at hi⊢;exact X4.2 ((X4.1 hi).imp id (h1 i))
    ·match vs,hv with
     |v::vs,hv=>
      have:=h2 hv.2;exact ⟨by rw [zg3,zp1 T hn];exact ⟨hv.1,this.1⟩,ya6 T hn,this.2⟩
   ·cases h
  ·cases h
 |some (t,m)::r,aS,cs,h=>by
  unfold yq5 at h;split at h
  ·rename_i xs l hx hl;simp only [X0] at h;subst h;obtain ⟨h1,h2⟩:=yo1 hl;refine ⟨fun i hi=>?_,fun {w S φ vs} hv=>?_⟩
   ·rw [j8] at hi;rcases X4.1 hi with hi|hi
    ·cases hi
    ·have:=h1 i hi;rw [<-List.take_append_drop (m*szT T t) aS,yi0];exact X4.2 (.inr this)
   ·obtain ⟨q1,q2⟩:=vc7 hx (hv.take T (m*szT T t));have q3:=h2 (hv.drop T (m*szT T t));refine ⟨?_,q1,q3.2⟩;rw [zg3,<-List.take_append_drop (m*szT T t) vs];exact VRL.app T (VRL.cells.2 q2) q3.1
  ·cases h
def qf0 {ls:Option Lay} {aS cs:List (AV T.U)} (h:ke9 T ls aS=some cs):(∀i∈j8 cs,i∈j8 aS)/\ ∀ {w:World} {S:List Nat} {φ:Nat->RA} {vs:List Value},VRL T w S φ aS vs->BR T w S φ cs vs:=by
 unfold ke9 at h;split at h
 ·split at h
  ·rename_i hn;simp only [X0] at h;subst h;exact ⟨fun i hi=>hi,fun hv=>BR.of T hv hn⟩
  ·cases h
 ·exact yo1 h
def vo3 {ls:Option Lay} {a:AV T.U} {cs:List (AV T.U)} (h:kv9 T ls a=some cs):(∀i∈j8 cs,i∈a.ids)/\ ∀ {w:World} {S:List Nat} {φ:Nat->RA} {v:Value},VR T w S φ a v->BR T w S φ cs v.cells.toList:=by
 unfold kv9 at h;split at h
 ·rename_i z hz;obtain ⟨t,m,xs⟩:=z;have:=zs6 hz;subst this;simp only [X0] at h;subst h;refine ⟨fun i hi=>hi,fun {w S φ v} hv=>?_⟩;obtain ⟨us,rfl,h1,h2⟩:=hv;refine ⟨?_,h1,trivial⟩;rw [zg3,zg3,J4];exact VRL.cells.2 h2
 ·split at h
  ·rename_i hok;obtain ⟨h1,h2⟩:=qf0 h;exact ⟨fun i hi=>by have:=h1 i hi;rwa [ye1 hok] at this,fun hv=>h2 (zi9 hok hv)⟩
  ·cases h
def vc3 {e:TypeId} (hd:dec ops k n F'=some o) (hop:o.op=.alloc e) {ls:Option Lay} {cs cs':List (AV T.U)} (hz:qb1 T P e=some cs) (hl:ke9 T ls cs=some cs') (h:Sim T w0 S0 ⟨F,H⟩ F' w S φ)
  (K:zp5 P ops Q (k+1) n ds w0 S0 (⟨za1 T F o.dst (.ptr H.length 0),H++ [.blk e cs']⟩:St T)):WR P ops Q k n ds F' w:=by
 unfold qb1 at hz;split at hz
 ·rename_i c hc;simp only [X0] at hz;subst hz;obtain ⟨g1,g2⟩:=qf0 hl;refine WR.alloc (qb6 hd hop) c hc fun g w' hN=>K _ _ ⟨g::S,zu1 φ H.length ⟨some ⟨g,0,none⟩,0,0,[]⟩,?_⟩;have h1:=h.add (r:=⟨some ⟨g,0,none⟩,0,0,[]⟩) hN.chg hN.fresh hN.blk.lt (fun a ha=>zv3 ha) (e:=.blk e cs')
   ⟨g,c,by rw [j5],hN.blk,by simp,g2 (ya7 T _)⟩ (by intro j hj;have:=g1 j hj;rw [yk4] at this;cases this)
  refine h1.slot ⟨g,by rw [j5],rfl⟩ ⟨by intro i hi;simp [AV.ids] at hi;subst hi;simp,trivial⟩
 ·cases hz
def ko3 {U:Nat->Type}:AV U->Bool| .ptr _ _=>true| .eptr _ _ _ _=>true| .lptr _ _ _ _=>true| .aptr _ _ _ _ _ _=>true| .fn (.func _) _ _=>true|_=>false
def vi2 {x:Operand} (hop:o.op=.nilCheck x) {a:AV T.U} (ha:ko3 a=true) {v:Value} (h1:ev F' x=some v) (h2:VR T w S φ a v):QR P F' o S φ rd w v:=by
 intro w1 _ _;cases a<;>first|(cases ha;done)|skip
 ·obtain ⟨g,_,rfl⟩:=h2;simp [execOp,hop,j6 h1]
 ·obtain ⟨g,_,rfl⟩:=h2;simp [execOp,hop,j6 h1]
 ·obtain ⟨ad,cap,_,_,rfl⟩:=h2;simp [execOp,hop,j6 h1]
 ·rename_i f a b;cases f<;>first|(cases ha;done)|skip
  obtain ⟨va,vb,rfl,_⟩:=h2;simp [execOp,hop,j6 h1]
 ·obtain ⟨g,_,_,rfl⟩:=h2;simp [execOp,hop,j6 h1]
end
end Go.X
namespace Go.X
open Go.RowKit Go.V
section
variable {T:Tab} {P:Program} {w w':World} {S S':List Nat} {φ φ':Nat->RA} {w0:World} {S0:Ow} {F:AF T} {H:List (Ent T.U)} {F':PF}
variable {rd:List Nat} {ops:Array Oper} {Q:Exit->Act->World->Prop} {k n:Nat} {ds:List Deferred} {o:Oper}
def zf4 {t kt et:TypeId} {kd:IntKind} (h:yu8 P t=some (kd,kt,et)):yu7 P t=some (kt,et,.int kd):=by
 unfold yu8 at h;split at h
 ·rename_i kt' et' hu;split at h
  ·rename_i k' hk;simp only [X0,X7] at h;obtain ⟨rfl,rfl,rfl⟩:=h;simp [yu7,hu,hk]
  ·cases h
 ·cases h
def vr2 {t kt et:TypeId} {kd:IntKind} (hd:dec ops k n F'=some o) (hop:o.op=.makeMap t none) (_:yu8 P t=some (kd,kt,et)) (h:Sim T w0 S0 ⟨F,H⟩ F' w S φ)
  (K:zp5 P ops Q (k+1) n ds w0 S0 (⟨za1 T F o.dst (.mp H.length),H++ [.map kd []]⟩:St T)):WR P ops Q k n ds F' w:=by
 have hdm:zs8 ops k n F'=some (o.dst,t):=by
  unfold zs8;rw [hd];cases o;simp only at hop;subst hop;rfl
 refine WR.mkMap hdm fun g w' hN=>K _ _ ⟨g::S,zu1 φ H.length ⟨some ⟨g,0,none⟩,0,0,[]⟩,?_⟩;have h1:=h.add (r:=⟨some ⟨g,0,none⟩,0,0,[]⟩) hN.chg hN.fresh hN.blk.lt (fun a ha=>zv3 ha) (e:=.map kd [])
  ⟨g,#[],0,by rw [j5],hN.blk,by simp,trivial,MapKept.stamped_empty 0⟩ (by intro j hj;cases hj)
 exact h1.slot ⟨g,by rw [j5],rfl⟩ ⟨by intro i hi;simp [AV.ids] at hi;subst hi;simp,trivial⟩
def vg1 {t kt et:TypeId} {kd:IntKind} {ty:Ty} (hd:dec ops k n F'=some o) (hop:o.op=.makeMap t none) (_:yu8 P t=some (kd,kt,et)) (h:Sim T w0 S0 ⟨F,H⟩ F' w S φ)
  (K:zp5 P ops Q (k+1) n ds w0 S0 (⟨za1 T F o.dst (.mp H.length),H++ [.tmap kd ty []]⟩:St T)):WR P ops Q k n ds F' w:=by
 have hdm:zs8 ops k n F'=some (o.dst,t):=by
  unfold zs8;rw [hd];cases o;simp only at hop;subst hop;rfl
 refine WR.mkMap hdm fun g w' hN=>K _ _ ⟨g::S,zu1 φ H.length ⟨some ⟨g,0,none⟩,0,0,[]⟩,?_⟩;have h1:=h.add (r:=⟨some ⟨g,0,none⟩,0,0,[]⟩) hN.chg hN.fresh hN.blk.lt (fun a ha=>zv3 ha) (e:=.tmap kd ty [])
  ⟨g,#[],0,by rw [j5],hN.blk,by simp,trivial,MapKept.stamped_empty 0⟩ (by intro j hj;cases hj)
 exact h1.slot ⟨g,by rw [j5],rfl⟩ ⟨by intro i hi;simp [AV.ids] at hi;subst hi;simp,trivial⟩
def TR.find {kd:IntKind} {ty:Ty} {x:Int}: ∀ {es:List (Int×den T.U ty)} {l:List MapEntry} (i:Nat),TR T w S kd ty es l->
  (Instr.findNow (.int kd) (.int kd x) l i=some none/\zf1 es x=false/\zb7 T ty es x=zy1 T ty/\(∀a,k8 es x a=es++ [(x,a)])/\zc9 es x=es/\ ∀e∈l,e.key≠.int kd x)\/
  ∃j e,Instr.findNow (.int kd) (.int kd x) l i=some (some (i+j,e.val))/\l[j]?=some e/\e.key=.int kd x/\CR T w S ty (zb7 T ty es x) e.val/\zf1 es x=true/\(∀a v,CR T w S ty a v->TR T w S kd ty (k8 es x a) (l.modify j fun e=> {e with key:=.int kd x,val:=v}))/\TR T w S kd ty (zc9 es x) (l.eraseIdx j)
 | [],[],_,_=>.inl ⟨rfl,rfl,rfl,fun _=>rfl,rfl,by simp⟩
 | [],_::_,_,h=>h.elim
 |_::_,[],_,h=>h.elim
 |(y,a)::r,e::l,i,h=>by
  obtain ⟨h1,h2,h3⟩:=h;by_cases hx:x=y
  ·subst hx;refine .inr ⟨0,e,?_,rfl,h1,?_,?_,?_,?_⟩
   ·unfold Instr.findNow;rw [h1];simp [Instr.sameNow]
   ·simpa [zb7] using h2
   ·simp [zf1]
   ·intro b v hb;simp only [k8,if_true];exact ⟨rfl,hb,h3⟩
   ·simp only [zc9,if_true];exact h3
  ·have hf:Instr.findNow (.int kd) (.int kd x) (e::l) i=Instr.findNow (.int kd) (.int kd x) l (i+1):=by
    rw [Instr.findNow,h1];simp only [Instr.sameNow,if_true];rw [show (x==y)=false from by simpa using hx]
   rcases TR.find (x:=x) (i+1) h3 with ⟨g1,g2,g3,g4,g5,g6⟩|⟨j,e',g1,g2,g3,g4,g5,g6,g7⟩
   ·refine .inl ⟨hf.trans g1,by simp [zf1,hx,g2],by simp [zb7,hx,g3],fun b=>by simp [k8,hx,g4],by simp [zc9,hx,g5],?_⟩;intro q hq;rcases Z0.1 hq with rfl|hq
    ·rw [h1];simp;exact fun e=>hx e.symm
    ·exact g6 q hq
   ·refine .inr ⟨j+1,e',by rw [hf,g1];simp;omega,by simpa using g2,g3,by simpa [zb7,hx] using g4,by simp [zf1,hx,g5],fun b v hb=>?_,?_⟩
    ·simp only [k8,hx,if_false];exact ⟨h1,h2,g6 b v hb⟩
    ·simp only [zc9,hx,if_false];exact ⟨h1,h2,g7⟩
def TR.snoc {kd:IntKind} {ty:Ty} {x:Int} {a:den T.U ty} {v:Value} {c:Nat} (hv:CR T w S ty a v): ∀ {es:List (Int×den T.U ty)} {l:List MapEntry},TR T w S kd ty es l->TR T w S kd ty (es++ [(x,a)]) (l++ [{key:=.int kd x,val:=v,born:=c}])
 | [],[],_=>⟨rfl,hv,trivial⟩
 | [],_::_,h=>h.elim
 |_::_,[],h=>h.elim
 |(_,_)::_,_::_,h=>⟨h.1,h.2.1,TR.snoc hv h.2.2⟩
def yi7 {i g:Nat} {kd:IntKind} {ty:Ty} {es es':List (Int×den T.U ty)} {l l':Array MapEntry} {c c':Nat} (h:Sim T w0 S0 ⟨F,H⟩ F' w S φ) (hHi:H[i]?=some (.tmap kd ty es)) (hg:(φ i).ad=some ⟨g,0,none⟩) (hm:Mp w g l c)
  (hgS:g∈S) (ht:TR T w S kd ty es' l'.toList) (hst:MapKept.Stamped l' c'):Sim T w0 S0 ⟨F,H.set i (.tmap kd ty es')⟩ F' {w with heap:=w.heap.setIfInBounds g (.map l' c')} S φ:=by
 have hset:=MapKept.heap_set (o':=.map l' c') hm;have hC:Chg [g] w {w with heap:=w.heap.setIfInBounds g (.map l' c')}:=⟨rfl,rfl,rfl,by simp,fun r _ hr=>hset.2 r (by simpa using hr)⟩;refine h.upd hHi rfl hC ?_ ⟨g,_,_,hg,hset.1,hgS,ht.chg T hC ?_ fun b hb=>.inl hb,hst⟩ ?_ ?_
 ·intro b hb;simp at hb;subst hb;exact ⟨_,.inl hg,rfl⟩
 ·intro b hb;simp at hb;subst hb;exact hgS
 ·intro q hq;cases hq
 ·intro e1 t1 xs he;cases he
def vv3 {i g:Nat} {t kt et:TypeId} {kd:IntKind} {ty:Ty} {es:List (Int×den T.U ty)} {l:Array MapEntry} {c:Nat} {x:Int} {a:den T.U ty} {v:Value} (hmk:yu8 P t=some (kd,kt,et)) (h:Sim T w0 S0 ⟨F,H⟩ F' w S φ) (hHi:H[i]?=some (.tmap kd ty es)) (hg:(φ i).ad=some ⟨g,0,none⟩) (hm:Mp w g l c)
  (hgS:g∈S) (ht:TR T w S kd ty es l.toList) (hst:MapKept.Stamped l c) (hv:CR T w S ty a v): ∃w',(Instr.mapUpdate t (.map (some g)) (.int kd x) v).run P w=.ok () w'/\Sim T w0 S0 ⟨F,H.set i (.tmap kd ty (k8 es x a))⟩ F' w' S φ:=by
 obtain ⟨hu,hkd⟩:=zc6 (zf4 hmk);have hb:w.heap[g]?=some (.map l c):=hm;rcases TR.find (x:=x) 0 ht with ⟨g1,_,_,g4,_,g6⟩|⟨j,e',g1,g2,g3,_,_,g6,_⟩
 ·refine ⟨_,?_,yi7 (l':=l.push {key:=.int kd x,val:=v,born:=c}) (c':=c+1) h hHi hg hm hgS ?_ (MapKept.stamped_push hst g6)⟩
  ·simp [Instr.mapUpdate,run_underlying hu,MapKept.run_getObj_map hb,MapKept.run_checkKey hkd (show MapKept.IsKey (.int kd) (.int kd x) from rfl),MapKept.run_findKey hkd g1,MapKept.run_setObj_map _ hb,Result.andThen]
  ·rw [g4,Array.toList_push];exact TR.snoc hv ht
 ·have hlt:j<l.size:=by have:=(X2.1 g2).1;simpa using this
  have g2':l[j]?=some e':=by simpa using g2
  have hl':(l.modify j fun e=> {e with key:=.int kd x,val:=v}).toList=l.toList.modify j fun e=> {e with key:=.int kd x,val:=v}:=by simp
  refine ⟨_,?_,yi7 (l':=l.modify j fun e=> {e with key:=.int kd x,val:=v}) (c':=c) h hHi hg hm hgS (by rw [hl'];exact g6 a v hv) (MapKept.stamped_modify hst j _ (fun _ _=>rfl) fun e _ he=>?_)⟩
  ·rw [U0] at g1;have g2'':l[j]=e':=by rw [Z6 hlt] at g2';exact X5 g2'
   simp [Instr.mapUpdate,run_underlying hu,MapKept.run_getObj_map hb,MapKept.run_checkKey hkd (show MapKept.IsKey (.int kd) (.int kd x) from rfl),MapKept.run_findKey hkd g1,MapKept.run_setObj_map _ hb,Result.andThen,g2',g2'',g3,MapKept.run_keyThatStays (show MapKept.IsKey (.int kd) (.int kd x) from rfl)]
  ·rw [g2'] at he;have:=X5 he;subst this;exact g3.symm
def vv2 {i g:Nat} {t kt et ty':TypeId} {at2:List TypeId} {kd:IntKind} {ty:Ty} {es:List (Int×den T.U ty)} {l:Array MapEntry} {c:Nat} {x:Int} (hmk:yu8 P t=some (kd,kt,et)) (h:Sim T w0 S0 ⟨F,H⟩ F' w S φ) (hHi:H[i]?=some (.tmap kd ty es)) (hg:(φ i).ad=some ⟨g,0,none⟩) (hm:Mp w g l c)
  (hgS:g∈S) (ht:TR T w S kd ty es l.toList) (hst:MapKept.Stamped l c): ∃w',(Builtin.delete_ (t::at2).toArray ty' #[.map (some g),.int kd x]).run P w=.ok (.tuple #[]) w'/\Sim T w0 S0 ⟨F,H.set i (.tmap kd ty (zc9 es x))⟩ F' w' S φ:=by
 obtain ⟨hu,hkd⟩:=zc6 (zf4 hmk);have hb:w.heap[g]?=some (.map l c):=hm;rcases TR.find (x:=x) 0 ht with ⟨g1,_,_,_,g5,_⟩|⟨j,e',g1,g2,g3,_,_,_,g7⟩
 ·refine ⟨_,?_,yi7 (l':=l) (c':=c) h hHi hg hm hgS (by rw [g5];exact ht) hst⟩;simp [Builtin.delete_,run_underlying hu,MapKept.run_getObj_map hb,MapKept.run_checkKey hkd (show MapKept.IsKey (.int kd) (.int kd x) from rfl),MapKept.run_findKey hkd g1,MapKept.run_setObj_map _ hb,Result.andThen]
 ·have hlt:j<l.size:=by have:=(X2.1 g2).1;simpa using this
  refine ⟨_,?_,yi7 (l':=l.eraseIdxIfInBounds j) (c':=c) h hHi hg hm hgS ?_ (MapKept.stamped_erase hst j)⟩
  ·rw [U0] at g1;simp [Builtin.delete_,run_underlying hu,MapKept.run_getObj_map hb,MapKept.run_checkKey hkd (show MapKept.IsKey (.int kd) (.int kd x) from rfl),MapKept.run_findKey hkd g1,MapKept.run_setObj_map _ hb,Result.andThen]
  ·have:(l.eraseIdxIfInBounds j).toList=l.toList.eraseIdx j:=by
    unfold Array.eraseIdxIfInBounds;rw [dif_pos hlt,Array.toList_eraseIdx]
   rw [this];exact g7
def kj4 {ty:Ty} {z:Value} (h:zTy ty z=true):CR T w S ty (zy1 T ty) z:=by
 unfold zTy at h;split at h
 ·rename_i k k' x;rw [X3] at h;have:=k9 h.1;subst this;have hx:x=0:=by simpa [zTy.eqZ] using h.2
  subst hx;exact .int _ _
 ·rename_i b;have hb:b=false:=by simpa using h
  subst hb;exact .bool _
 ·rename_i e n c;rw [X3] at h;have h1:=X1 h.1;have h2:=X1 h.2;subst h1;subst h2;exact .list e [] none 0 (fun _ _=>.int .i64 0) (W8 _) (fun _=>⟨rfl,rfl⟩) (fun h=>absurd rfl h) (fun k j c h=>by simp at h) (fun k j c h=>by simp at h)
 ·cases h
def vj3 {et:TypeId} {ty:Ty} (h:kc6 P et ty=true): ∃z,(P.info? et).bind (·.zero)=some z/\CR T w S ty (zy1 T ty) z:=by
 unfold kc6 at h;split at h
 ·rename_i inf hinf;split at h
  ·rename_i z hz;exact ⟨z,by rw [hinf];exact hz,kj4 h⟩
  ·cases h
 ·cases h
def MR.snoc {kd:IntKind} {x:Int} {a:AV T.U} {v:Value} {c:Nat} (hv:VR T w S φ a v): ∀ {es:List (Int×AV T.U)} {l:List MapEntry},MR T w S φ kd es l->MR T w S φ kd (es++ [(x,a)]) (l++ [{key:=.int kd x,val:=v,born:=c}])
 | [],[],_=>⟨rfl,hv,trivial⟩
 | [],_::_,h=>h.elim
 |_::_,[],h=>h.elim
 |(_,_)::_,_::_,h=>⟨h.1,h.2.1,MR.snoc hv h.2.2⟩
def MR.find2 {kd:IntKind} {x:Int}: ∀ {es:List (Int×AV T.U)} {l:List MapEntry} (i:Nat),MR T w S φ kd es l->
  (Instr.findNow (.int kd) (.int kd x) l i=some none/\(∀a,k8 es x a=es++ [(x,a)])/\zc9 es x=es/\ ∀e∈l,e.key≠.int kd x)\/
  ∃j e,Instr.findNow (.int kd) (.int kd x) l i=some (some (i+j,e.val))/\l[j]?=some e/\e.key=.int kd x/\(∀a v,VR T w S φ a v->MR T w S φ kd (k8 es x a) (l.modify j fun e=> {e with key:=.int kd x,val:=v}))/\MR T w S φ kd (zc9 es x) (l.eraseIdx j)
 | [],[],_,_=>.inl ⟨rfl,fun _=>rfl,rfl,by simp⟩
 | [],_::_,_,h=>h.elim
 |_::_,[],_,h=>h.elim
 |(y,a)::r,e::l,i,h=>by
  obtain ⟨h1,h2,h3⟩:=h;by_cases hx:x=y
  ·subst hx;refine .inr ⟨0,e,?_,rfl,h1,?_,?_⟩
   ·unfold Instr.findNow;rw [h1];simp [Instr.sameNow]
   ·intro b v hb;simp only [k8,if_true];exact ⟨rfl,hb,h3⟩
   ·simp only [zc9,if_true];exact h3
  ·have hf:Instr.findNow (.int kd) (.int kd x) (e::l) i=Instr.findNow (.int kd) (.int kd x) l (i+1):=by
    rw [Instr.findNow,h1];simp only [Instr.sameNow,if_true];rw [show (x==y)=false from by simpa using hx]
   rcases MR.find2 (x:=x) (i+1) h3 with ⟨g1,g4,g5,g6⟩|⟨j,e',g1,g2,g3,g6,g7⟩
   ·refine .inl ⟨hf.trans g1,fun b=>by simp [k8,hx,g4],by simp [zc9,hx,g5],?_⟩;intro q hq;rcases Z0.1 hq with rfl|hq
    ·rw [h1];simp;exact fun e=>hx e.symm
    ·exact g6 q hq
   ·refine .inr ⟨j+1,e',by rw [hf,g1];simp;omega,by simpa using g2,g3,fun b v hb=>?_,?_⟩
    ·simp only [k8,hx,if_false];exact ⟨h1,h2,g6 b v hb⟩
    ·simp only [zc9,hx,if_false];exact ⟨h1,h2,g7⟩
def jp5 {U:Nat->Type} (x:Int) (a:AV U): ∀(es:List (Int×AV U)) (q:Nat),q∈idsM (k8 es x a)->q∈idsM es\/q∈a.ids
 | [],q,h=>by simpa [k8,idsM] using h
 |(y,b)::r,q,h=>by
  unfold k8 at h;split at h
  ·rw [idsM] at h⊢;rcases X4.1 h with h|h
   ·exact .inr h
   ·exact .inl (X4.2 (.inr h))
  ·rw [idsM] at h⊢;rcases X4.1 h with h|h
   ·exact .inl (X4.2 (.inl h))
   ·rcases jp5 x a r q h with h|h
    ·exact .inl (X4.2 (.inr h))
    ·exact .inr h
def jp4 {U:Nat->Type} (x:Int): ∀(es:List (Int×AV U)) (q:Nat),q∈idsM (zc9 es x)->q∈idsM es
 | [],q,h=>h
 |(y,b)::r,q,h=>by
  unfold zc9 at h;rw [idsM];split at h
  ·exact X4.2 (.inr h)
  ·rw [idsM] at h;rcases X4.1 h with h|h
   ·exact X4.2 (.inl h)
   ·exact X4.2 (.inr (jp4 x r q h))
def je3 {i g:Nat} {kd:IntKind} {es es':List (Int×AV T.U)} {l l':Array MapEntry} {c c':Nat} (h:Sim T w0 S0 ⟨F,H⟩ F' w S φ) (hHi:H[i]?=some (.map kd es)) (hg:(φ i).ad=some ⟨g,0,none⟩) (hm:Mp w g l c)
  (hgS:g∈S) (ht:MR T w S φ kd es' l'.toList) (hst:MapKept.Stamped l' c') (hids: ∀q∈idsM es',q<H.length):Sim T w0 S0 ⟨F,H.set i (.map kd es')⟩ F' {w with heap:=w.heap.setIfInBounds g (.map l' c')} S φ:=by
 have hset:=MapKept.heap_set (o':=.map l' c') hm;have hC:Chg [g] w {w with heap:=w.heap.setIfInBounds g (.map l' c')}:=⟨rfl,rfl,rfl,by simp,fun r _ hr=>hset.2 r (by simpa using hr)⟩;have hT: ∀b∈ [g],b∈S:=by intro b hb;simp at hb;subst hb;exact hgS
 refine h.upd hHi rfl hC ?_ ⟨g,_,_,hg,hset.1,hgS,ht.chg T hC hT fun b hb=>.inl hb,hst⟩ ?_ ?_
 ·intro b hb;simp at hb;subst hb;exact ⟨_,.inl hg,rfl⟩
 ·exact hids
 ·intro e1 t1 xs he;cases he
def kf6 {i g:Nat} {t kt et:TypeId} {kd:IntKind} {es:List (Int×AV T.U)} {l:Array MapEntry} {c:Nat} {x:Int} {a:AV T.U} {v:Value} (hmk:yu8 P t=some (kd,kt,et)) (h:Sim T w0 S0 ⟨F,H⟩ F' w S φ) (hHi:H[i]?=some (.map kd es)) (hg:(φ i).ad=some ⟨g,0,none⟩) (hm:Mp w g l c)
  (hgS:g∈S) (ht:MR T w S φ kd es l.toList) (hst:MapKept.Stamped l c) (hv:VR T w S φ a v) (hok: ∀q∈a.ids,q<H.length): ∃w',(Instr.mapUpdate t (.map (some g)) (.int kd x) v).run P w=.ok () w'/\Sim T w0 S0 ⟨F,H.set i (.map kd (k8 es x a))⟩ F' w' S φ:=by
 obtain ⟨hu,hkd⟩:=zc6 (zf4 hmk);have hb:w.heap[g]?=some (.map l c):=hm;have hids: ∀q∈idsM (k8 es x a),q<H.length:=fun q hq=>(jp5 x a es q hq).elim (h.eids _ _ hHi q) (hok q);rcases MR.find2 (x:=x) 0 ht with ⟨g1,g4,_,gk⟩|⟨j,e',g1,g2,g3,g6,_⟩
 ·refine ⟨_,?_,je3 (l':=l.push {key:=.int kd x,val:=v,born:=c}) (c':=c+1) h hHi hg hm hgS ?_ (MapKept.stamped_push hst gk) hids⟩
  ·simp [Instr.mapUpdate,run_underlying hu,MapKept.run_getObj_map hb,MapKept.run_checkKey hkd (show MapKept.IsKey (.int kd) (.int kd x) from rfl),MapKept.run_findKey hkd g1,MapKept.run_setObj_map _ hb,Result.andThen]
  ·rw [g4,Array.toList_push];exact MR.snoc hv ht
 ·have hlt:j<l.size:=by have:=(X2.1 g2).1;simpa using this
  have g2':l[j]?=some e':=by simpa using g2
  have hl':(l.modify j fun e=> {e with key:=.int kd x,val:=v}).toList=l.toList.modify j fun e=> {e with key:=.int kd x,val:=v}:=by simp
  refine ⟨_,?_,je3 (l':=l.modify j fun e=> {e with key:=.int kd x,val:=v}) (c':=c) h hHi hg hm hgS (by rw [hl'];exact g6 a v hv) (MapKept.stamped_modify hst j _ (fun _ _=>rfl) fun e _ he=>by rw [g2'] at he;have:=X5 he;subst this;exact g3.symm) hids⟩;rw [U0] at g1;have g2'':l[j]=e':=by rw [Z6 hlt] at g2';exact X5 g2'
  simp [Instr.mapUpdate,run_underlying hu,MapKept.run_getObj_map hb,MapKept.run_checkKey hkd (show MapKept.IsKey (.int kd) (.int kd x) from rfl),MapKept.run_findKey hkd g1,MapKept.run_setObj_map _ hb,Result.andThen,g2',g2'',g3,MapKept.run_keyThatStays (show MapKept.IsKey (.int kd) (.int kd x) from rfl)]
def kf5 {i g:Nat} {t kt et ty':TypeId} {at2:List TypeId} {kd:IntKind} {es:List (Int×AV T.U)} {l:Array MapEntry} {c:Nat} {x:Int} (hmk:yu8 P t=some (kd,kt,et)) (h:Sim T w0 S0 ⟨F,H⟩ F' w S φ) (hHi:H[i]?=some (.map kd es)) (hg:(φ i).ad=some ⟨g,0,none⟩) (hm:Mp w g l c)
  (hgS:g∈S) (ht:MR T w S φ kd es l.toList) (hst:MapKept.Stamped l c): ∃w',(Builtin.delete_ (t::at2).toArray ty' #[.map (some g),.int kd x]).run P w=.ok (.tuple #[]) w'/\Sim T w0 S0 ⟨F,H.set i (.map kd (zc9 es x))⟩ F' w' S φ:=by
 obtain ⟨hu,hkd⟩:=zc6 (zf4 hmk);have hb:w.heap[g]?=some (.map l c):=hm;have hids: ∀q∈idsM (zc9 es x),q<H.length:=fun q hq=>h.eids _ _ hHi q (jp4 x es q hq);rcases MR.find2 (x:=x) 0 ht with ⟨g1,_,g5,_⟩|⟨j,e',g1,g2,g3,_,g7⟩
 ·refine ⟨_,?_,je3 (l':=l) (c':=c) h hHi hg hm hgS (by rw [g5];exact ht) hst hids⟩;simp [Builtin.delete_,run_underlying hu,MapKept.run_getObj_map hb,MapKept.run_checkKey hkd (show MapKept.IsKey (.int kd) (.int kd x) from rfl),MapKept.run_findKey hkd g1,MapKept.run_setObj_map _ hb,Result.andThen]
 ·have hlt:j<l.size:=by have:=(X2.1 g2).1;simpa using this
  refine ⟨_,?_,je3 (l':=l.eraseIdxIfInBounds j) (c':=c) h hHi hg hm hgS ?_ (MapKept.stamped_erase hst j) hids⟩
  ·rw [U0] at g1;simp [Builtin.delete_,run_underlying hu,MapKept.run_getObj_map hb,MapKept.run_checkKey hkd (show MapKept.IsKey (.int kd) (.int kd x) from rfl),MapKept.run_findKey hkd g1,MapKept.run_setObj_map _ hb,Result.andThen]
  ·have:(l.eraseIdxIfInBounds j).toList=l.toList.eraseIdx j:=by
    unfold Array.eraseIdxIfInBounds;rw [dif_pos hlt,Array.toList_eraseIdx]
   rw [this];exact g7
def jp7 {t:TypeId} {xm xk xv:Operand} (hd:dec ops k n F'=some o) (hop:o.op=.insert t xm xk xv\/o.op=.mapUpdate t xm xk xv) (hdst:o.dst=none) {m a:AV T.U} {kx:IntKind} {x:Int} (hm:aev T F xm=some m) (hk:aev T F xk=some (cI T kx x)) (hv:aev T F xv=some a) {H1:List (Ent T.U)} (hi:vw9 T P t H m kx x a=some H1)
  (h:Sim T w0 S0 ⟨F,H⟩ F' w S φ) (K:zp5 P ops Q (k+1) n ds w0 S0 (⟨F,H1⟩:St T)):WR P ops Q k n ds F' w:=by
 obtain ⟨M,h1,h2⟩:=z8 h.fr hm;obtain ⟨X,h3,h4⟩:=z8 h.fr hk;obtain ⟨V,h5,h6⟩:=z8 h.fr hv;have e:=v7 h4;subst e;have hok:=zb5 h hv;unfold vw9 at hi;split at hi
 ·rename_i i kd kt et hmk;split at hi
  ·rename_i kd' es hHi;split at hi
   ·rename_i hb;rw [X3] at hb;have b1:=k9 hb.1;have b2:=k9 hb.2;subst b1;subst b2;simp only [X0] at hi;subst hi;obtain ⟨g,hg,rfl⟩:=h2;obtain ⟨g',l,c,a1,a2,a3,a4,a5⟩:=h.ents i _ hHi;rw [hg] at a1;simp only [X0,Addr.mk.injEq,and_true] at a1;subst a1;obtain ⟨w',hr,hs⟩:=kf6 (x:=x) hmk h hHi hg a2 a3 a4 a5 h6 hok.1;rcases hop with hop|hop
    ·refine WR.skip hd (w':=w') ?_ (by rw [hdst];exact K _ _ ⟨S,φ,hs⟩);cases o;simp only at hop hdst;subst hop;subst hdst;simp [execOp,j6 h1,j6 h3,j6 h5,hr]
    ·refine WR.skip hd (w':=w') ?_ (by rw [hdst];exact K _ _ ⟨S,φ,hs⟩);cases o;simp only at hop hdst;subst hop;subst hdst;simp [execOp,j6 h1,j6 h3,j6 h5,hr]
   ·cases hi
  ·rename_i kd' ty es hHi;split at hi
   ·rename_i y hb hy;rw [X3] at hb;have b1:=k9 hb.1;have b2:=k9 hb.2;subst b1;subst b2;simp only [X0] at hi;subst hi;obtain ⟨g,hg,rfl⟩:=h2;obtain ⟨g',l,c,a1,a2,a3,a4,a5⟩:=h.ents i _ hHi;rw [hg] at a1;simp only [X0,Addr.mk.injEq,and_true] at a1;subst a1;unfold km4 at hy;split at hy
    ·rename_i cl;have e:=Cell.as_eq hy;subst e;obtain ⟨w',hr,hs⟩:=vv3 (x:=x) hmk h hHi hg a2 a3 a4 a5 h6;rcases hop with hop|hop
     ·refine WR.skip hd (w':=w') ?_ (by rw [hdst];exact K _ _ ⟨S,φ,hs⟩);cases o;simp only at hop hdst;subst hop;subst hdst;simp [execOp,j6 h1,j6 h3,j6 h5,hr]
     ·refine WR.skip hd (w':=w') ?_ (by rw [hdst];exact K _ _ ⟨S,φ,hs⟩);cases o;simp only at hop hdst;subst hop;subst hdst;simp [execOp,j6 h1,j6 h3,j6 h5,hr]
    ·cases hy
   ·cases hi
  ·cases hi
 ·cases hi
def jq3 {R:Type} {r:R} {kd:IntKind} {x:Int} {co:Bool} {z:AV T.U} {Z:Value} (hz:VR T w S φ z Z) {K:AV T.U->Option R}: ∀ {es:List (Int×AV T.U)} {l:List MapEntry} (i:Nat),ja5 T co z x K es=some r->MR T w S φ kd es l->
  ∃a q,K a=some r/\Instr.findNow (.int kd) (.int kd x) l i=some q/\VR T w S φ a (lkV Z co q)/\ ∀j∈a.ids,j∈z.ids\/j∈idsM es
 | [],[],i,h,_=>by
  refine ⟨_,none,h,rfl,?_,fun j hj=>.inl ?_⟩
  ·cases co
   ·exact hz
   ·exact ⟨_,rfl,hz,CR.bool _,trivial⟩
  ·cases co
   ·exact hj
   ·simpa [AV.ids,j8] using hj
 | [],_::_,_,_,h=>h.elim
 |_::_,[],_,_,h=>h.elim
 |(y,b)::es,e::l,i,h,hm=>by
  obtain ⟨h1,h2,h3⟩:=hm;unfold ja5 at h;unfold Instr.findNow;rw [h1];simp only [Instr.sameNow,if_true];split at h
  ·rename_i he;subst he;rw [show (x==x)=true from by simp];refine ⟨_,some (i,e.val),h,rfl,?_,fun j hj=>.inr ?_⟩
   ·cases co
    ·exact h2
    ·exact ⟨_,rfl,h2,CR.bool _,trivial⟩
   ·rw [idsM];cases co
    ·exact X4.2 (.inl hj)
    ·exact X4.2 (.inl (by simpa [AV.ids,j8] using hj))
  ·rename_i hne;rw [show (x==y)=false from by simpa using hne];obtain ⟨a,q,q1,q2,q3,q4⟩:=jq3 hz (i+1) h h3;exact ⟨a,q,q1,q2,q3,fun j hj=>(q4 j hj).imp id fun hj=>by rw [idsM];exact X4.2 (.inr hj)⟩
def kf2 {Z:Prop} {R:Type} {r:R} {t:TypeId} {xm xk:Operand} {co:Bool} (hd:dec ops k n F'=some o) (hop:o.op=.lookup t xm xk co) {m:AV T.U} {kx:IntKind} {x:Int} (hm:aev T F xm=some m) (hk:aev T F xk=some (cI T kx x)) {K0:AV T.U->Option R} (hl:jd9 T P t co H m kx x K0=some r)
  (h:Sim T w0 S0 ⟨F,H⟩ F' w S φ) (hrd: ∀i∈m.ids,i∈rd) (K: ∀a v,K0 a=some r->QR P F' o S φ rd w v->VR T w S φ a v->(∀i∈a.ids,i<H.length)->Z):Z:=by
 obtain ⟨M,h1,h2⟩:=z8 h.fr hm;obtain ⟨X,h3,h4⟩:=z8 h.fr hk;have e:=v7 h4;subst e;unfold jd9 at hl;split at hl
 ·rename_i i kd kt et hmk;split at hl
  ·rename_i kd' es hHi;split at hl
   ·rename_i z hb hz;rw [X3] at hb;obtain ⟨b1,b2⟩:=hb;have b1:=k9 b1;have b2:=k9 b2;subst b1;subst b2;obtain ⟨g,hg,rfl⟩:=h2;obtain ⟨g',l,c,a1,a2,a3,a4,a5⟩:=h.ents i _ hHi;rw [hg] at a1;simp only [X0,Addr.mk.injEq,and_true] at a1;subst a1;obtain ⟨zv,hzv,hze⟩: ∃zv,(P.info? et).bind (·.zero)=some zv/\z=ofV T zv:=by
     unfold qs1 at hz;split at hz
     ·rename_i inf hinf;split at hz
      ·rename_i zv hzv;simp only [X0] at hz;exact ⟨zv,by rw [hinf];exact hzv,hz.symm⟩
      ·cases hz
     ·cases hz
    subst hze;obtain ⟨a,q,q1,q2,q3,q4⟩:=jq3 (jv5 T zv) 0 hl a4;have hdl:zn1 ops k n F'=some (o.dst,t,.map (some g),.int kx x,co):=by
     unfold zn1;rw [hd];cases o;simp only at hop;subst hop;simp only [j6 h1,j6 h3]
    refine K a _ q1 (fun w1 _ hsm=>?_) q3 fun j hj=>?_
    ·have hm1:Mp w1 g l c:=(hsm i (hrd i (by simp [AV.ids])) _ hg a2.lt).trans a2;have hr:=yf2 (P:=P) hm1 hdl (zf4 hmk) rfl q q2 hzv _ rfl;unfold zt7 at hr;rw [hd] at hr;simp only [X0,X7] at hr;exact hr.2
    ·rcases q4 j hj with hj|hj
     ·rw [jv4] at hj;cases hj
     ·exact h.eids _ _ hHi j hj
   ·cases hl
  ·rename_i kd' ty es hHi;split at hl
   ·rename_i hb;rw [X3,X3] at hb;have b1:=k9 hb.1;have b2:=k9 hb.2.1;subst b1;subst b2;obtain ⟨g,hg,rfl⟩:=h2;obtain ⟨g',l,c,a1,a2,a3,a4,a5⟩:=h.ents i _ hHi;rw [hg] at a1;simp only [X0,Addr.mk.injEq,and_true] at a1;subst a1;obtain ⟨zv,hzv,hzr⟩:=vj3 (T:=T) (w:=w) (S:=S) hb.2.2;have hdl:zn1 ops k n F'=some (o.dst,t,.map (some g),.int kx x,co):=by
     unfold zn1;rw [hd];cases o;simp only at hop;subst hop;simp only [j6 h1,j6 h3]
    have hq: ∀q,Instr.findNow (.int kx) (.int kx x) l.toList 0=some q->QR P F' o S φ rd w (lkV zv co q):=fun q q2 w1 _ hsm=>by
     have hm1:Mp w1 g l c:=(hsm i (hrd i (by simp [AV.ids])) _ hg a2.lt).trans a2;have hr:=yf2 (P:=P) hm1 hdl (zf4 hmk) rfl q q2 hzv _ rfl;unfold zt7 at hr;rw [hd] at hr;simp only [X0,X7] at hr;exact hr.2
    have hids: ∀j∈(qt1 T co ty es x).ids,j<H.length:=by
     intro j hj;cases co<;>simp [qt1,AV.ids,j8] at hj
    rcases TR.find (x:=x) 0 a4 with ⟨g1,g2,g3,_⟩|⟨j,e',g1,g2,g3,g4,g5,_⟩
    ·refine K _ _ hl (hq _ g1) ?_ hids;cases co
     ·show CR T w S ty _ _;rw [g3];exact hzr
     ·exact ⟨_,rfl,by rw [g3];exact hzr,by rw [g2];exact CR.bool _,trivial⟩
    ·refine K _ _ hl (hq _ g1) ?_ hids;cases co
     ·exact g4
     ·exact ⟨_,rfl,g4,by rw [g5];exact CR.bool _,trivial⟩
   ·cases hl
  ·cases hl
 ·cases hl
end
end Go.X
namespace Go.X
open Go.RowKit Go.V
structure CallSpec (T:Tab) where
 call: {R:Type}->List (AV T.U)->List (Ent T.U)->(AV T.U->List (Ent T.U)->Option R)->(AV T.U->List (Ent T.U)->Option R)->Option R
 q: {R:Type}->List (AV T.U)->List (Ent T.U)->(AV T.U->Option R)->Option R
 isq:Bool
 wr:List (AV T.U)->List (Ent T.U)->List Nat
structure Ctx (T:Tab) where
 ty:TypeId->Option Ty
 E:List (FuncId×CallSpec T)
 pin:Nat
 ms:List (Nat×Nat)
 lay:TypeId->Option Lay:=fun _=>none
 dr:TypeId->Option (Nat×List TypeId):=fun _=>none
 pm:TypeId->Option (TypeId×Nat):=fun _=>none
section
variable {T:Tab} (P:Program) (C:Ctx T)
def jy7:List (FuncId×CallSpec T)->FuncId->Option (CallSpec T)
 | [],_=>none
 |(g,c)::r,f=>match Nat.beq g f with|true=>some c|false=>jy7 r f
def zh1:AV T.U->Bool| .eptr _ _ _ _=>false|_=>true
def kl9:Op->Bool| .move _=>true| .assign _=>true| .fieldAddr _ _ _=>true|_=>false
def zl0 (f:FuncId):Bool:=match P.funcs[f]? with|some fn=> !(fn.name== "runtime.NumGoroutine")&&fn.body.isSome|none=>false
def kw3 (t:TypeId) (H:List (Ent T.U)) (a:AV T.U):Option Int:=
 match P.underlying t with
 |some (.map _ _)=>match a with
  | .mp i=>match H[i]? with|some (.tmap _ _ m)=>some ((m.length:Nat):Int)|_=>none
  |_=>none
 |_=>none
def jz3:List (AV T.U)->List Nat
 | []=> []
 | .mp i::r=>i::jz3 r
 |_::r=>jz3 r
def lenOf (t:TypeId) (H:List (Ent T.U)) (a:AV T.U):Option Int:=
 match P.underlying t with
 |some (.slice _)=>match gc8 T H a with|some n=>some ((n:Nat):Int)|none=>none
 |some .string=>match a with| .cell ⟨.str,s⟩=>some ((ByteArray.size s:Nat):Int)|_=>none
 |_=>none
section
variable {R:Type}
def ja7 (c:Bool) (x y:AV T.U) (K:AV T.U->Option R):Option R:=
 match kb0 T c x y with
 |some z=>K z
 |none=>match zh1 x&&zh1 y with|true=>if c=true then K x else K y|false=>none
def yj4 (c:Call) (st:St T) (K:AV T.U->List (Ent T.U)->Option R) (Kp:AV T.U->List (Ent T.U)->Option R):Option R:=
 match zn8 T st.F c.args.toList with
 |none=>none
 |some aS=>
  match c.callee with
  | .value f=>match aev T st.F f with
   |some (.fn (.func g) first caps)=>match zl0 P g,jy7 C.E g with
    |true,some cs=>match (first++aS++caps).all zh1 with|true=>cs.call (first++aS++caps) st.H K Kp|false=>none
    |_,_=>none
   |_=>none
  | .builtin .append=>match aS,c.argTypes.toList with
   | [s,x],[t,t']=>match Nat.beq t t',C.ty t with|true,some e=>appA T P e t st.H s x K|_,_=>none
   |_,_=>none
  | .builtin .clear=>match aS,c.argTypes.toList with
   | [s],[t]=>yl9 T P t st.H s K
   |_,_=>none
  | .builtin .delete=>match aS,c.argTypes.toList with
   | [m,.cell ⟨.int kx,x⟩],t::_=>(match kd9 T P t st.H m kx x with|some H1=>K (.tup []) H1|none=>none)
   |_,_=>none
  |_=>none
def qq3 (o:Oper) (F:AF T):List Nat:=
 match o.op with
 | .load _ x=>match aev T F x with|some a=>a.ids|none=> []
 | .convert _ _ x=>match aev T F x with|some a=>a.ids|none=> []
 | .lookup _ m _ _=>match aev T F m with|some a=>a.ids|none=> []
 | .call c=>match c.callee with
  | .value f=>match aev T F f,zn8 T F c.args.toList with|some a,some aS=>a.ids++j8 aS|_,_=> []
  | .builtin .len=>match zn8 T F c.args.toList with|some aS=>jz3 aS|none=> []
  |_=> []
 |_=> []
def ka1:Op->Bool
 | .indexAddr t _ _=>(zf8 P t).isSome
 | .index t _ _=>(zf8 P t).isSome
 | .slice t _ _ _ none=>(vm2 P t).isSome
 | .sliceToArrayPointer _ _=>true
 | .load t _=>(zf8 P t).isSome
 | .nilCheck _=>true
 | .lookup _ _ _ _=>true
 |_=>false
def ka4 (t:TypeId):Bool:=match P.underlying t with|some (.array _ e)=>(match P.underlying e with|some d=> !ya1 d|none=>false)|_=>false
def yl0 (o:Oper) (st:St T) (K:AV T.U->Option R):Option R:=
 match o.op with
 | .indexAddr t x y=>match zf8 P t,aev T st.F x,aev T st.F y with
  |some (n,sz),some s,some (.cell ⟨.int _,j⟩)=>yc0 T n sz st.H s j K
  |_,_,_=>none
 | .index t x y=>match zf8 P t,aev T st.F x,aev T st.F y,ka4 P t with
  |some (n,sz),some s,some (.cell ⟨.int _,j⟩),true=>ym7 T n sz s j K
  |_,_,_,_=>none
 | .slice t x lo hi none=>match vm2 P t,aev T st.F x,jt8 st.F lo,jt8 st.F hi with
  |some (n,sz),some s,some l,some h=>yn2 T n sz st.H s l h K
  |_,_,_,_=>none
 | .sliceToArrayPointer t x=>match zf8 P t,aev T st.F x with
  |some (n,sz),some s=>yl5 T n sz st.H s K
  |_,_=>none
 | .load t x=>match zf8 P t,aev T st.F x with
  |some (n,sz),some p=>yk2 T n sz (match P.info? t with|some i=>Nat.beq i.size (n*sz)|none=>false) st.H p K (j7 (loadA T P t st.H p) K)
  |_,_=>none
 | .nilCheck x=>match aev T st.F x with|some a=>(match ko3 a with|true=>K a|false=>none)|none=>none
 | .lookup t m x co=>match aev T st.F m,aev T st.F x with
  |some a,some (.cell ⟨.int kx,x⟩)=>jd9 T P t co st.H a kx x fun b=>match zh1 b with|true=>K b|false=>none
  |_,_=>none
 |_=>none
def zq9 (o:Oper) (st:St T) (K:AV T.U->Option R):Option R:=
 match jf6 T P o.op st.F with
 |some a=>match kl9 o.op||zh1 a with|true=>K a|false=>none
 |none=>match o.op with
  | .pick c a b=>match aev T st.F c,aev T st.F a,aev T st.F b with
   |some (.cell ⟨.bool,c⟩),some x,some y=>ja7 c x y K
   |_,_,_=>none
  | .binOp b _ x y _=>match aev T st.F x,aev T st.F y with
   |some x,some y=>divA T b x y K
   |_,_=>none
  | .load t x=>match aev T st.F x with
   |some p=>match loadA T P t st.H p with|some a=>K a|none=>none
   |none=>none
  | .convert s d x=>match P.underlying s,P.underlying d,aev T st.F x with
   |some (.slice e),some .string,some a=>match P.underlying e with
    |some (.int .u8)=>rdF T st.H (.list (.int .u8)) a fun xs=>K (.cell ⟨.str,zs7 xs⟩)
    |_=>none
   |_,_,_=>none
  | .index t x y=>match P.underlying t,aev T st.F x,aev T st.F y with
   |some .string,some (.cell ⟨.str,s⟩),some (.cell ⟨.int _,j⟩)=>qa8 s j fun b=>K (cI T .u8 b)
   |_,_,_=>none
  | .indexAddr t x y=>match aev T st.F x,aev T st.F y with
   |some s,some (.cell ⟨.int _,j⟩)=>zz2 T P t st.H s j K
   |_,_=>none
  | .slice t x lo hi none=>match aev T st.F x,jt8 st.F lo,jt8 st.F hi with
   |some s,some l,some h=>match l,h with
    |none,none=>none
    |l,h=>yc7 T P t st.H s l h K
   |_,_,_=>none
  | .typeAssert x _ at_ ok=>match aev T st.F x with
   |some a=>match yt9 T P a at_ ok with|some b=>(match zh1 b with|true=>K b|false=>none)|none=>none
   |none=>none
  | .call c=>match zn8 T st.F c.args.toList with
   |none=>none
   |some aS=>match c.callee with
    | .builtin .len=>match aS,c.argTypes.toList with
     | [a],[t]=>match lenOf P t st.H a with
      |some n=>K (cI T .i64 n)
      |none=>match kw3 P t st.H a with|some n=>K (cI T .i64 n)|none=>none
     |_,_=>none
    | .builtin .min=>match kw8 T aS with|some a=>K a|none=>none
    | .builtin .max=>match kw7 T aS with|some a=>K a|none=>none
    |_=>none
  |_=>none
def zx2 (o:Oper) (st:St T) (K:AV T.U->Option R):Option R:=match ka1 P o.op with|true=>yl0 P o st K|false=>zq9 P o st K
def stepA (o:Oper) (st:St T) (K:St T->Option R) (Kp:AV T.U->St T->Option R):Option R:=
 let put:=fun (a:AV T.U) (H:List (Ent T.U))=>K ⟨za1 T st.F o.dst a,H⟩
 match o.op with
 | .alloc e=>match qb1 T P e with
  |some cs=>(match ke9 T (C.lay e) cs with|some cs=>put (.ptr st.H.length 0) (st.H++ [.blk e cs])|none=>none)
  |none=>none
 | .box e x=>match aev T st.F x with
  |some a=>match kv9 T (C.lay e) a with|some cs=>put (.ptr st.H.length 0) (st.H++ [.blk e cs])|none=>none
  |none=>none
 | .makeMap t none=>match yu8 P t,C.ty t with
  |some (k,_,_),none=>put (.mp st.H.length) (st.H++ [.map k []])
  |some (k,_,_),some ty=>put (.mp st.H.length) (st.H++ [.tmap k ty []])
  |none,_=>none
 | .insert t m x v=>match o.dst,aev T st.F m,aev T st.F x,aev T st.F v with
  |none,some a,some (.cell ⟨.int kx,x⟩),some b=>(match zh1 b,vw9 T P t st.H a kx x b with|true,some H1=>K ⟨st.F,H1⟩|_,_=>none)
  |_,_,_,_=>none
 | .mapUpdate t m x v=>match o.dst,aev T st.F m,aev T st.F x,aev T st.F v with
  |none,some a,some (.cell ⟨.int kx,x⟩),some b=>(match zh1 b,vw9 T P t st.H a kx x b with|true,some H1=>K ⟨st.F,H1⟩|_,_=>none)
  |_,_,_,_=>none
 | .store t x y=>match o.dst,aev T st.F x,aev T st.F y with
  |none,some p,some a=>match jb6 T P t st.H p a with|some H1=>K ⟨st.F,H1⟩|none=>none
  |_,_,_=>none
 | .makeSlice t x y=>match aev T st.F x,aev T st.F y,C.ty t with
  |some (.cell ⟨.int _,l⟩),some (.cell ⟨.int _,c⟩),some e=>jn0 T P e t st.H l c put
  |_,_,_=>none
 | .buildSlice t len ps=>match zu0 T st.F ps.toList,C.ty t with
  |some l,some ty=>match qs2 T P ty t len l with|some (e,xs)=>put (.own st.H.length) (st.H++ [.row e ty xs])|none=>none
  |some l,none=>match jk1 T P t len l with|some (e,sz,cs)=>put (.sl st.H.length sz 0 len) (st.H++ [.blk e cs])|none=>none
  |_,_=>none
 | .call c=>match reads c with
  |true=>zx2 P o st fun a=>put a st.H
  |false=>yj4 P C c st put fun a H=>Kp a ⟨st.F,H⟩
 | .convert s d x=>match P.underlying s,P.underlying d,aev T st.F x with
  |some .string,some (.slice e),some (.cell ⟨.str,b⟩)=>match P.underlying e with
   |some (.int .u8)=>put (.cell ⟨.list (.int .u8),zt4 b⟩) st.H
   |_=>none
  |some (.slice _),some (.slice e),some (.own i)=>match Nat.beq s d,C.ty d,P.underlying e,appA.rowIn T (.int .u8) st.H (.own i) with
   |true,some _,some (.int .u8),some (x::xs)=>put (.cell ⟨.list (.int .u8),x::xs⟩) (st.H.set i .gone)
   |_,_,_,_=>none
  |_,_,_=>zx2 P o st fun a=>put a st.H
 | .panic x=>match aev T st.F x with|some (.ifc t a)=>Kp (.ifc t a) st|_=>none
 |_=>zx2 P o st fun a=>put a st.H
where
 reads (c:Call):Bool:=match c.callee with| .builtin .len=>true| .builtin .min=>true| .builtin .max=>true|_=>false
end
end
section
variable {T:Tab} {P:Program} {C:Ctx T} {w w':World} {S S':List Nat} {φ φ':Nat->RA} {w0:World} {S0:Ow} {F:AF T} {H:List (Ent T.U)} {F':PF}
variable {rd:List Nat} {ops:Array Oper} {Q:Exit->Act->World->Prop} {k n:Nat} {ds:List Deferred} {o:Oper}
def zc2 (T:Tab) (P:Program) (f:FuncId) (cs:CallSpec T):Prop:=
 ∀ {R:Type} (aS:List (AV T.U)) (H:List (Ent T.U)) (K Kp:AV T.U->List (Ent T.U)->Option R) (r:R),cs.call aS H K Kp=some r->
  ∀(w0:World) (S0:Ow) (F:AF T) (F':PF) (w:World) (S:List Nat) (φ:Nat->RA),Sim T w0 S0 ⟨F,H⟩ F' w S φ-> ∀vs:List Value,VRL T w S φ aS vs->(∀a∈aS,okA H a)->
  Calls P f vs.toArray w fun e w'=>match e with
   | .returned v=> ∃a H1,K a H1=some r/\ ∃S1 φ1,Sim T w0 S0 ⟨F,H1⟩ F' w' S1 φ1/\VR T w' S1 φ1 a v/\okA H1 a
   | .panicked ch=> ∃a H1,Kp a H1=some r/\ ∃v,ch= [{v:=v,recovered:=false}]/\ ∃S1 φ1,Sim T w0 S0 ⟨F,H1⟩ F' w' S1 φ1/\VR T w' S1 φ1 a v/\okA H1 a
   | .outgrown=>False
def zt5 (T:Tab) (P:Program) (f:FuncId) (cs:CallSpec T):Prop:=
 ∀ {R:Type} (aS:List (AV T.U)) (H:List (Ent T.U)) (K:AV T.U->Option R) (r:R),cs.q aS H K=some r->
  ∀(w0:World) (S0:Ow) (F:AF T) (F':PF) (w:World) (S:List Nat) (φ:Nat->RA),Sim T w0 S0 ⟨F,H⟩ F' w S φ-> ∀vs:List Value,VRL T w S φ aS vs->(∀a∈aS,okA H a)->
  ∃a v,K a=some r/\VR T w S φ a v/\okA H a/\ ∀w1,Chg S w w1->Same φ (j8 aS) w w1->Calls P f vs.toArray w1 (zp6 w1 v)
structure Keeps (T:Tab) (l:List Nat) (H H1:List (Ent T.U)):Prop where
 len:H.length<=H1.length
 same: ∀e,e<H.length->e∉l->H1[e]?=H[e]?
 row: ∀(e:Nat) (ty:TypeId) (t:Ty) (ys:List (den T.U t)),e<H.length->H1[e]?=some (.row ty t ys)-> ∃xs,H[e]?=some (.row ty t xs)
def jb7 (cs:CallSpec T):Prop:=
 ∀ {R:Type} (aS:List (AV T.U)) (H:List (Ent T.U)) (K Kp:AV T.U->List (Ent T.U)->Option R) (r:R),cs.call aS H K Kp=some r->
  (∃a H1,K a H1=some r/\Keeps T (cs.wr aS H) H H1/\ ∀ {R':Type} (K' Kp':AV T.U->List (Ent T.U)->Option R'),cs.call aS H K' Kp'=K' a H1)\/
  ∃a H1,Kp a H1=some r/\Keeps T (cs.wr aS H) H H1/\ ∀ {R':Type} (K' Kp':AV T.U->List (Ent T.U)->Option R'),cs.call aS H K' Kp'=Kp' a H1
def za0 (T:Tab) (P:Program) (E:List (FuncId×CallSpec T)):Prop:= ∀f cs,jy7 E f=some cs->zc2 T P f cs/\zt5 T P f cs/\jb7 cs
def zf6 {a:AV T.U} (h:zh1 a=true) (hi: ∀i∈a.ids,i<H.length):okA H a:=⟨hi,by cases a<;>first|trivial|cases h⟩
def jh4 {l:List Operand} (hs:Sim T w0 S0 ⟨F,H⟩ F' w S φ): ∀ {aS:List (AV T.U)},zn8 T F l=some aS-> ∀i∈j8 aS,i<H.length:=by
 induction l with
 |nil=>intro aS h;simp only [zn8,X0] at h;subst h;intro i hi;cases hi
 |cons x r ih=>
  intro aS h;unfold zn8 at h;split at h
  ·rename_i a l ha hl;simp only [X0] at h;subst h;intro i hi;rw [j8] at hi;rcases X4.1 hi with hi|hi
   ·exact (zb5 hs ha).1 i hi
   ·exact ih hl i hi
  ·cases h
def qp9 {aS cs:List (AV T.U)} {o0:Nat} {m:Nat} (h1: ∀i∈j8 cs,i<m) (h2: ∀i∈j8 aS,i<m): ∀i∈j8 (yg8 T cs o0 aS),i<m:=fun i hi=>(yx2 i hi).elim (h1 i) (h2 i)
def yj7 {place:Nat->Option (Nat×Nat)} {m:Nat}: ∀ {ps:List (Nat×AV T.U)} {cs cs':List (AV T.U)},yr7 T place cs ps=some cs'->(∀i∈j8 cs,i<m)->(∀i∈j8 (ps.map Prod.snd),i<m)-> ∀i∈j8 cs',i<m
 | [],cs,cs',h,h1,_=>by simp only [yr7,X0] at h;subst h;exact h1
 |(j,a)::r,cs,cs',h,h1,h2=>by
  rw [U1,j8] at h2;unfold yr7 at h;split at h
  ·split at h
   ·rename_i hok;simp only [X3] at hok;exact yj7 h (qp9 h1 (by rw [ye1 hok.1];exact fun i hi=>h2 i (X4.2 (.inl hi)))) fun i hi=>h2 i (X4.2 (.inr hi))
   ·cases h
  ·cases h
def yo8 {l:List (Nat×Operand)} (hs:Sim T w0 S0 ⟨F,H⟩ F' w S φ): ∀ {aS:List (Nat×AV T.U)},zu0 T F l=some aS-> ∀i∈j8 (aS.map Prod.snd),i<H.length:=by
 induction l with
 |nil=>intro aS h;simp only [zu0,X0] at h;subst h;intro i hi;cases hi
 |cons x r ih=>
  intro aS h;obtain ⟨j,x⟩:=x;unfold zu0 at h;split at h
  ·rename_i a l ha hl;simp only [X0] at h;subst h;intro i hi;rw [U1,j8] at hi;rcases X4.1 hi with hi|hi
   ·exact (zb5 hs ha).1 i hi
   ·exact ih hl i hi
  ·cases h
def qu9 {t:TypeId} {lit:Bool} {x y a:AV T.U} {neg:Bool} (h:eqA T P t lit x y neg=some a):a.ids= []:=by
 unfold eqA at h;split at h
 ·simp only [X0] at h;subst h;rfl
 split at h
 ·simp only [X0] at h;subst h;rfl
 split at h
 ·split at h
  ·simp only [X0] at h;subst h;rfl
  ·cases h
 ·simp only at h;split at h
  ·split at h
   ·simp only [X0] at h;subst h;rfl
   ·cases h
  ·cases h
 ·cases h
def kj0 {u:UnOp} {x a:AV T.U} (h:unA T u x=some a):a.ids= []:=by
 unfold unA at h;split at h
 ·unfold unI at h;split at h
  ·simp only [X0] at h;subst h;rfl
  ·simp only [X0] at h;subst h;rfl
  ·cases h
 ·split at h
  ·simp only [X0] at h;subst h;rfl
  ·cases h
 ·cases h
def vo0 {b:BinOp} {t:TypeId} {lit:Bool} {x y a:AV T.U} (h:kd6 T P b t lit x y=some a):a.ids= []:=by
 unfold kd6 at h;split at h
 ·split at h
  ·cases b<;>simp only [kj8,X0,reduceCtorEq] at h<;>subst h<;>rfl
  ·cases h
 ·simp only [X0] at h;subst h;rfl
 ·simp only [X0] at h;subst h;rfl
 ·exact qu9 h
 ·exact qu9 h
 ·cases h
def vh0 {op:Op} {a:AV T.U} (hs:Sim T w0 S0 ⟨F,H⟩ F' w S φ) (h:jf6 T P op F=some a): ∀i∈a.ids,i<H.length:=by
 unfold jf6 at h;split at h
 ·exact (zb5 hs h).1
 ·exact (zb5 hs h).1
 ·split at h
  ·rw [vo0 h];intro i hi;cases hi
  ·cases h
 ·split at h
  ·rw [kj0 h];intro i hi;cases hi
  ·cases h
 ·split at h
  ·simp only [X0] at h;subst h;intro i hi;cases hi
  ·cases h
 ·split at h
  ·rename_i vs hx;have:=(zb5 hs hx).1;intro i hi;exact this i (by rw [AV.ids];exact zi4 (X6 h) i hi)
  ·cases h
 ·split at h
  ·rename_i x hx;have:=(zb5 hs hx).1;unfold jy5 at h;split at h
   ·split at h
    ·intro i hi;exact this i (by rw [AV.ids];exact jh5 h i hi)
    ·cases h
   ·cases h
  ·cases h
 ·split at h
  ·rename_i x d hx hd;have:=(zb5 hs hx).1;split at h
   ·cases h
   ·simp only [X0] at h;subst h;intro i hi;exact this i (by rw [AV.ids] at hi;exact hi)
  ·cases h
 ·split at h
  ·rename_i x y hx hy;simp only [X0] at h;subst h;intro i hi;rw [AV.ids] at hi;rcases X4.1 hi with hi|hi
   ·exact jh4 hs hx i hi
   ·exact jh4 hs hy i hi
  ·cases h
 ·split at h
  ·rename_i pl z l hpl hz hl;split at h
   ·rename_i cs hcs;simp only [X0] at h;subst h;unfold qb1 at hz;split at hz
    ·simp only [X0] at hz;subst hz;intro i hi;rw [AV.ids] at hi;exact yj7 hcs (by rw [yk4];intro i hi;cases hi) (yo8 hs hl) i hi
    ·cases hz
   ·cases h
  ·cases h
 ·split at h
  ·rename_i x ft f m ag hx hp;have:=(zb5 hs hx).1;split at h
   ·cases h
   ·unfold qo9 at h;split at h<;>simp only [X0,reduceCtorEq] at h<;>subst h<;>exact this
  ·cases h
 ·cases h
def vs4 {op:Op} {a:AV T.U} (hs:Sim T w0 S0 ⟨F,H⟩ F' w S φ) (h:jf6 T P op F=some a) (hm:(kl9 op||zh1 a)=true):okA H a:=by
 rcases J3 _ _▸hm with hm|hm
 ·cases op<;>first|cases hm|skip
  ·exact zb5 hs h
  ·exact zb5 hs h
  ·unfold jf6 at h;simp only at h;split at h
   ·rename_i x ft f m ag hx hp;have hx':=zb5 hs hx;split at h
    ·cases h
    ·unfold qo9 at h;split at h<;>simp only [X0,reduceCtorEq] at h<;>subst h
     ·exact ⟨hx'.1,trivial⟩
     ·exact hx'
     ·exact ⟨hx'.1,trivial⟩
     ·exact ⟨hx'.1,trivial⟩
   ·cases h
 ·exact zf6 hm (vh0 hs h)
def VR.int (kk:IntKind) (x:Int):VR T w S φ (cI T kk x) (.int kk x):=by rw [VR];exact CR.int _ _
def VR.bool (x:Bool):VR T w S φ (cB T x) (.bool x):=by rw [VR];exact CR.bool _
def jm3 {a:AV T.U} {v:Value} (hd:dec ops k n F'=some o) (hr:(execOp (evD F') o).run P w=.ok (.value v) w) (h:Sim T w0 S0 ⟨F,H⟩ F' w S φ) (hv:VR T w S φ a v) (hok:okA H a) (K:zp5 P ops Q (k+1) n ds w0 S0 (⟨za1 T F o.dst a,H⟩:St T)):WR P ops Q k n ds F' w:=
 .val hd hr (K _ _ ⟨S,φ,h.slot hv hok⟩)
def vg8 {c:Bool} {x y z:AV T.U} (h:kb0 T c x y=some z) {X Y:Value} (hx:VR T w S φ x X) (hy:VR T w S φ y Y):VR T w S φ z (if c=true then X else Y)/\z.ids= []/\zh1 z=true:=by
 unfold kb0 at h;split at h
 ·split at h
  ·rename_i hk;have:=k9 hk;subst this;simp only [X0] at h;subst h;have e1:=v7 hx;have e2:=v7 hy;subst e1;subst e2;refine ⟨?_,rfl,rfl⟩;cases c<;>exact .int _ _
  ·cases h
 ·simp only [X0] at h;subst h;have e1:=zd7 hx;have e2:=zd7 hy;subst e1;subst e2;refine ⟨?_,rfl,rfl⟩;cases c<;>exact .bool _
 ·cases h
def kq9 {Z:Prop} {R:Type} {r:R} {c x y:Operand} (hd:dec ops k n F'=some o) (hop:o.op=.pick c x y) {t:Bool} {a b:AV T.U} (hc:aev T F c=some (cB T t)) (hx:aev T F x=some a) (hy:aev T F y=some b) {K0:AV T.U->Option R} (hK0:ja7 t a b K0=some r)
  (h:Sim T w0 S0 ⟨F,H⟩ F' w S φ) (K: ∀a v,K0 a=some r->QR P F' o S φ rd w v->VR T w S φ a v->okA H a->Z):Z:=by
 obtain ⟨C',h1,h2⟩:=z8 h.fr hc;have e:=zd7 h2;subst e;obtain ⟨X,h3,h4⟩:=z8 h.fr hx;obtain ⟨Y,h5,h6⟩:=z8 h.fr hy;have hr:QR P F' o S φ rd w (if t=true then X else Y):=fun w1 _ _=>by simp [execOp,hop,j6 h1,j6 h3,j6 h5,asBool]
 unfold ja7 at hK0;split at hK0
 ·rename_i z hz;obtain ⟨g1,g2,g3⟩:=vg8 hz h4 h6;exact K _ _ hK0 hr g1 (zf6 g3 (by rw [g2];intro i hi;cases hi))
 ·split at hK0
  ·rename_i hne;simp only [X3] at hne;cases t with
   |true=>rw [if_pos rfl] at hK0 hr;exact K _ _ hK0 hr h4 (zb5 h hx)
   |false=>rw [if_neg (by simp)] at hK0 hr;exact K _ _ hK0 hr h6 (zb5 h hy)
  ·cases hK0
def zz7 {R:Type} {c:Prop} {_:Decidable c} {x:Option R} {r:R} (h:(if c then none else x)=some r): ¬c/\x=some r:=by
 split at h
 ·cases h
 ·rename_i hc;exact ⟨hc,h⟩
def kx8 {Z:Prop} {R:Type} {r:R} {b:BinOp} {t ty:TypeId} {x y:Operand} (hd:dec ops k n F'=some o) (hop:o.op=.binOp b t x y ty) {a c:AV T.U} (hx:aev T F x=some a) (hy:aev T F y=some c) {K0:AV T.U->Option R} (hK0:divA T b a c K0=some r)
  (h:Sim T w0 S0 ⟨F,H⟩ F' w S φ) (K: ∀a v,K0 a=some r->QR P F' o S φ rd w v->VR T w S φ a v->okA H a->Z):Z:=by
 obtain ⟨X,h1,h2⟩:=z8 h.fr hx;obtain ⟨Y,h3,h4⟩:=z8 h.fr hy;have hi: ∀(kk:IntKind) (z:Int),okA H (cI T kk z):=fun kk z=>⟨fun i hi=>(by cases hi),trivial⟩;unfold divA at hK0;split at hK0
 ·split at hK0
  ·rename_i hk;have:=k9 hk;subst this;have e1:=v7 h2;have e2:=v7 h4;subst e1;subst e2;unfold divA.divI at hK0;obtain ⟨hne,hK⟩:=zz7 hK0;exact K _ _ hK (fun w1 _ _=>by simp [execOp,hop,j6 h1,j6 h3,eqGuard,binOp,Op.intDiv,hne]) (.int _ _) (hi _ _)
  ·cases hK0
 ·split at hK0
  ·rename_i hk;have:=k9 hk;subst this;have e1:=v7 h2;have e2:=v7 h4;subst e1;subst e2;unfold divA.remI at hK0;obtain ⟨hne,hK⟩:=zz7 hK0;exact K _ _ hK (fun w1 _ _=>by simp [execOp,hop,j6 h1,j6 h3,eqGuard,binOp,Op.intDiv,hne]) (.int _ _) (hi _ _)
  ·cases hK0
 ·have e1:=v7 h2;have e2:=v7 h4;subst e1;subst e2;unfold divA.shlI at hK0;obtain ⟨hne,hK⟩:=zz7 hK0;exact K _ _ hK (fun w1 _ _=>by simp [execOp,hop,j6 h1,j6 h3,eqGuard,binOp,Op.shift,hne,ge0]) (.int _ _) (hi _ _)
 ·have e1:=v7 h2;have e2:=v7 h4;subst e1;subst e2;unfold divA.shrI at hK0;obtain ⟨hne,hK⟩:=zz7 hK0;exact K _ _ hK (fun w1 _ _=>by simp [execOp,hop,j6 h1,j6 h3,eqGuard,binOp,Op.shift,hne,ko1]) (.int _ _) (hi _ _)
 ·cases hK0
def qc1 {Z:Prop} {t:TypeId} {x:Operand} (hd:dec ops k n F'=some o) (hop:o.op=.load t x) {i o1 sz n0 j c:Nat} {e:TypeId} {cs r:List (AV T.U)} {ty:Ty} {xs:List (den T.U ty)} {a:AV T.U} (hx:aev T F x=some (.aptr i o1 sz n0 j c)) (hi:H[i]?=some (.blk e cs)) (hloc:yy9 T cs o1=some (.arr ty n0 xs::r)) (hsz:szT T ty=sz) (hl:zs2 T P t (zt6 T ty (xs.getD j (zy1 T ty))) c=some a)
  (h:Sim T w0 S0 ⟨F,H⟩ F' w S φ) (hrd:i∈rd) (K: ∀v,QR P F' o S φ rd w v->VR T w S φ a v->okA H a->Z):Z:=by
 obtain ⟨v,h1,g,h2,hj,rfl⟩:=z8 h.fr hx;obtain ⟨g',cc,vals,a1,a2,a3,a4,a5,a6⟩:=vv9 (h.ents i _ hi) hloc;rw [h2] at a1;simp only [X0,Addr.mk.injEq,and_true] at a1;subst a1;subst hsz;have hcut:=a6.cut (j*szT T ty) (szT T ty);rw [yf9 (v8 T ty) (zm0 (zy1 T ty) (show j<xs.length by omega))] at hcut;have hr:Rg w (some ⟨g,o1+j*szT T ty,none⟩) ((vals.drop (j*szT T ty)).take (szT T ty)):=Rg.sub a5 _ _ _ fun _=>rfl;exact jv1 hd hop (b:=g) (o0:=o1+j*szT T ty) (c:=c) (by rw [h1,V1]) (fun w1 _ hsm=>Rg.same hr (show w1.heap[g]?=w.heap[g]? from hsm i hrd _ h2 a2.lt)) (CellsR.vrl hcut) (yn7 _ _) (yn6 _ _) hl K
def vx3 {Z:Prop} {t:TypeId} {x:Operand} (hd:dec ops k n F'=some o) (hop:o.op=.load t x) {p a:AV T.U} (hx:aev T F x=some p) (hl:loadA T P t H p=some a) (h:Sim T w0 S0 ⟨F,H⟩ F' w S φ) (hrd: ∀i∈p.ids,i∈rd) (K: ∀v,QR P F' o S φ rd w v->VR T w S φ a v->okA H a->Z):Z:=by
 unfold loadA at hl;split at hl
 ·split at hl
  ·rename_i e cs hi;split at hl
   ·cases hl
   ·rename_i hne;exact qo6 hd hop hx hi (fun i sz kk c e=>hne i sz kk c (e▸hl)) hl h (hrd _ (by simp [AV.ids])) K
  ·cases hl
 ·split at hl
  ·rename_i e cs hi;split at hl
   ·rename_i b r hloc;split at hl
    ·rename_i ty n' xs hb;have:=zs6 hb;subst this;split at hl
     ·rename_i hm;rw [X3] at hm;have hm1:=X1 hm.1;have hm2:=X1 hm.2;subst hm1;exact qc1 hd hop hx hi hloc hm2 hl h (hrd _ (by simp [AV.ids])) K
     ·cases hl
    ·cases hl
   ·cases hl
  ·cases hl
 ·split at hl
  ·rename_i e ty xs hi;exact qc2 hd hop hx hi hl h (hrd _ (by simp [AV.ids])) K
  ·cases hl
 ·exact qc3 hd hop hx hl h K
 ·cases hl
def vv0 {t:TypeId} {x y:Operand} (hd:dec ops k n F'=some o) (hop:o.op=.store t x y) (hdst:o.dst=none) {p a:AV T.U} {H1:List (Ent T.U)} (hx:aev T F x=some p) (hy:aev T F y=some a) (hs:jb6 T P t H p a=some H1) (h:Sim T w0 S0 ⟨F,H⟩ F' w S φ) (K:zp5 P ops Q (k+1) n ds w0 S0 (⟨F,H1⟩:St T)):WR P ops Q k n ds F' w:=by
 unfold jb6 at hs;split at hs
 ·split at hs
  ·rename_i e cs hi;split at hs
   ·rename_i cs' hf;simp only [X0] at hs;subst hs;obtain ⟨X,h1,g,h2,rfl⟩:=z8 h.fr hx;exact yq2 hd hop hdst h1 h2 hy hi (fun vs v hb hv=>qr4 hf hb hv) h K
   ·cases hs
  ·cases hs
 ·rename_i i1 o1 sz1 n1 k1 c1;split at hs
  ·rename_i e cs hi;split at hs
   ·rename_i l hf hl;split at hs
    ·rename_i cs' ht;simp only [X0] at hs;subst hs;obtain ⟨X,h1,g,h2,hk1,rfl⟩:=z8 h.fr hx;obtain ⟨ii,hii,f1,f2,f3,f4⟩:=ya4 hf;refine yq2 hd hop hdst h1 h2 hy hi (fun vs v hb hv=>?_) h K;have hcr:=zr5 hl (zi9 f1 hv);have hcl:=(zi9 f1 hv).len T;obtain ⟨g1,g2,g3⟩:=BR.turn (us:=v.cells.toList) (ex:= []) ht hb fun l1 l2 B hf1 hB=>qc6 hf1 hB hk1 hcr;refine ⟨g1,fun i hi=>(g3 i hi).imp id (fun h=>absurd h (by simp)),fun c0 hcs=>?_⟩;exact qa9 hf hv (c:=c0) (p:=o1+(k1*sz1+c1)) (by rw [hcl];omega)
    ·cases hs
   ·cases hs
  ·cases hs
 ·split at hs
  ·rename_i e ty xs hi;split at hs
   ·rename_i hf hl;split at hs
    ·rename_i y' hy';simp only [X0] at hs;subst hs;exact jm1 hd hop hdst hx hy hi hf hl hy' h K
    ·cases hs
   ·cases hs
  ·cases hs
 ·cases hs
end
end Go.X
