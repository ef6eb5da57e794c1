import Derived.Test.YthhhfnfgmijggaaGreatXF
namespace Go.X
open Go.RowKit Go.V
structure Rec (T:Tab) where
 o:Oper
 d:DR
 skip:Bool
 F:AF T
 Hm:List (Ent T.U)
 a:AV T.U
 H1:List (Ent T.U)
 dead:Bool
 loc:Option (Nat×Nat×Option (AV T.U))
section
variable {T:Tab}
def upR (r:Rec T) (e:Nat):Option (Ent T.U):=
 match r.skip with
 |true=>none
 |false=>match r.loc with
  |some _=>none
  |none=>if e<r.d.nb then (if e∈r.d.tch/\e∈r.d.wr then r.H1[e]? else none) else r.H1[e]?
def upG (r:Rec T) (e:Nat) (x:Ent T.U):Ent T.U:=match r.loc with|some (k,c,some v)=>(if e=k then yc8 c v x else x)|_=>(upR r e).getD x
def jf9 (r:Rec T) (e:Nat):Prop:=upR r e≠none\/ ∃c v,r.loc=some (e,c,some v)
theorem qm4 {r:Rec T} (h:r.loc=none) (e:Nat) (x:Ent T.U):upG r e x=(upR r e).getD x:=by unfold upG;rw [h]
theorem yt2 {r:Rec T} {e:Nat} (h: ¬jf9 r e) (x:Ent T.U):upG r e x=x:=by
 have h1:upR r e=none:=Classical.byContradiction fun hn=>h (.inl hn);unfold upG;split
 ·rename_i k c v hl;split
  ·rename_i he;subst he;exact absurd (.inr ⟨c,v,hl⟩) h
  ·rfl
 ·rw [h1];rfl
def hF (D:Nat->Bool):List (Rec T)->(Nat->Ent T.U)->Nat->Ent T.U
 | [],f=>f
 |r::rs,f=>hF D rs (match D r.d.j with|true=>fun e=>upG r e (f e)|false=>f)
def fF (D:Nat->Bool):List (Rec T)->(Nat->Option (AV T.U))->Nat->Option (AV T.U)
 | [],f=>f
 |r::rs,f=>fF D rs (match r.o.dst with|some d=>(fun t=>if t=d then (match D r.d.j with|true=>some r.a|false=>f t) else f t)|none=>f)
def base (H0:List (Ent T.U)) (e:Nat):Ent T.U:=(H0[e]?).getD .gone
def zi9:Nat->Bool:=fun _=>true
theorem zz5 (D:Nat->Bool): ∀(ps qs:List (Rec T)) (f:Nat->Ent T.U),hF D (ps++qs) f=hF D qs (hF D ps f)
 | [],_,_=>rfl
 |r::ps,qs,f=>zz5 D ps qs _
theorem jr5 (D:Nat->Bool): ∀(ps qs:List (Rec T)) (f:Nat->Option (AV T.U)),fF D (ps++qs) f=fF D qs (fF D ps f)
 | [],_,_=>rfl
 |r::ps,qs,f=>jr5 D ps qs _
theorem zo9 {D:Nat->Bool} {e:Nat}: ∀ {rs:List (Rec T)} {f:Nat->Ent T.U},(∀r∈rs,D r.d.j=true-> ¬jf9 r e)->hF D rs f e=f e
 | [],f,_=>rfl
 |r::rs,f,h=>by
  unfold hF;rw [zo9 (rs:=rs) fun r' hr'=>h r' (Z4 _ hr')];cases hD:D r.d.j with
  |false=>rfl
  |true=>exact yt2 (h r (List.mem_cons_self ..) hD) _
theorem zx8 {D D':Nat->Bool} {e:Nat}: ∀ {rs:List (Rec T)} {f g:Nat->Ent T.U},f e=g e->(∀r∈rs,jf9 r e->D r.d.j=D' r.d.j)->hF D rs f e=hF D' rs g e
 | [],f,g,hf,_=>hf
 |r::rs,f,g,hf,h=>by
  unfold hF;refine zx8 (rs:=rs) ?_ fun r' hr'=>h r' (Z4 _ hr');by_cases hu:jf9 r e
  ·rw [h r (List.mem_cons_self ..) hu];cases D' r.d.j
   ·exact hf
   ·show upG r e (f e)=upG r e (g e);rw [hf]
  ·cases D r.d.j<;>cases D' r.d.j<;>simp only [yt2 hu]<;>exact hf
theorem vl2 {D D':Nat->Bool} {e c:Nat}: ∀ {rs:List (Rec T)} {f g:Nat->Ent T.U},simE c (f e) (g e)->(∀r∈rs,jf9 r e->D r.d.j=D' r.d.j\/ ∃c' v,r.loc=some (e,c',some v)/\c'≠c)->simE c (hF D rs f e) (hF D' rs g e)
 | [],f,g,hf,_=>hf
 |r::rs,f,g,hf,h=>by
  unfold hF;refine vl2 (rs:=rs) ?_ fun r' hr'=>h r' (Z4 _ hr');by_cases hu:jf9 r e
  ·have same:simE c (upG r e (f e)) (upG r e (g e)):=by
    unfold upG;split
    ·split
     ·exact hf.both _ _
     ·exact hf
    ·cases hx:upR r e with
     |some x=>exact .inl rfl
     |none=>exact hf
   rcases h r (List.mem_cons_self ..) hu with h1|⟨c',v,h2,h3⟩
   ·rw [h1];cases D' r.d.j with
    |false=>exact hf
    |true=>exact same
   ·have up: ∀x,upG r e x=yc8 c' v x:=fun x=>by unfold upG;rw [h2];simp only [if_true]
    cases D r.d.j<;>cases D' r.d.j
    ·exact hf
    ·show simE c (f e) (upG r e (g e));rw [up];exact (hf.symm.left h3 v).symm
    ·show simE c (upG r e (f e)) (g e);rw [up];exact hf.left h3 v
    ·exact same
  ·cases D r.d.j<;>cases D' r.d.j<;>simp only [yt2 hu]<;>exact hf
theorem vt7 {D:Nat->Bool} {e c:Nat} {v:AV T.U}: ∀ {rs:List (Rec T)} {f g:Nat->Ent T.U},f e=yc8 c v (g e)->(∀r∈rs,D r.d.j=true->jf9 r e-> ∃c' v',r.loc=some (e,c',some v')/\c≠c')->hF D rs f e=yc8 c v (hF D rs g e)
 | [],f,g,hf,_=>hf
 |r::rs,f,g,hf,h=>by
  unfold hF;refine vt7 (rs:=rs) ?_ fun r' hr'=>h r' (Z4 _ hr');cases hD:D r.d.j with
  |false=>exact hf
  |true=>
   show upG r e (f e)=yc8 c v (upG r e (g e));by_cases hu:jf9 r e
   ·obtain ⟨c',v',h2,h3⟩:=h r (List.mem_cons_self ..) hD hu;unfold upG;rw [h2];simp only [if_true];rw [hf,vw5 h3]
   ·rw [yt2 hu,yt2 hu];exact hf
theorem zj7 {D:Nat->Bool} {t:Nat}: ∀ {rs:List (Rec T)} {f:Nat->Option (AV T.U)},(∀r∈rs,r.o.dst≠some t)->fF D rs f t=f t
 | [],f,_=>rfl
 |r::rs,f,h=>by
  unfold fF;rw [zj7 (rs:=rs) fun r' hr'=>h r' (Z4 _ hr')];have:=h r (List.mem_cons_self ..);cases hd:r.o.dst with
  |none=>rfl
  |some d=>exact if_neg (fun e=>this (by rw [hd,e]))
theorem yh6 {D:Nat->Bool} {t:Nat}: ∀ {rs:List (Rec T)} {f:Nat->Option (AV T.U)} {r:Rec T},r∈rs->r.o.dst=some t->(∀r'∈rs,r'.o.dst=some t->r'=r)->fF D rs f t=(match D r.d.j with|true=>some r.a|false=>f t)
 | [],f,r,h,_,_=>by cases h
 |q::rs,f,r,h,hd,hu=>by
  unfold fF;by_cases hin:r∈rs
  ·rw [yh6 hin hd fun r' hr'=>hu r' (Z4 _ hr')];cases hD:D r.d.j with
   |true=>rfl
   |false=>
    by_cases hqt:q.o.dst=some t
    ·have e:=hu q (List.mem_cons_self ..) hqt;subst e;simp only [hqt,if_true,hD]
    ·cases hq:q.o.dst with
     |none=>rfl
     |some d=>exact if_neg (fun e=>hqt (by rw [hq,e]))
  ·have hq:q=r:=by
    rcases Z0.1 h with h|h
    ·exact h.symm
    ·exact absurd h hin
   subst hq;rw [zj7 fun r' hr' hd'=>hin (hu r' (Z4 _ hr') hd'▸hr')];simp only [hd,if_true]
theorem yn0 {l:List Nat}: ∀ {H:List (Ent T.U)} {i e:Nat},(zl8 T l H i)[e]?=(H[e]?).map fun x=>if (i+e)∈l then x else .gone
 | [],i,e=>by simp [zl8]
 |x::r,i,0=>by
  simp only [zl8,Y4,Z8,Nat.add_zero];cases hm:yb5 i l with
  |true=>rw [if_pos (zc5.1 hm)]
  |false=>rw [if_neg (fun h=>by rw [zc5.2 h] at hm;cases hm)]
 |x::r,i,e+1=>by
  simp only [zl8,List.getElem?_cons_succ];rw [yn0 (H:=r),show i+1+e=i+(e+1) by omega]
theorem zq8 {l:List Nat}: ∀ {H:List (Ent T.U)} {i:Nat},(zl8 T l H i).length=H.length
 | [],i=>rfl
 |x::r,i=>by simp [zl8,zq8 (H:=r)]
theorem yq7 {l:List Nat}: ∀ {H H1:List (Ent T.U)} {i e:Nat},H.length<=H1.length->(yd1 T l H H1 i)[e]?=if e<H.length then (if (i+e)∈l then H1[e]? else H[e]?) else H1[e]?
 | [],H1,i,e,_=>by simp [yd1]
 |x::r,[],i,e,h=>by simp at h
 |x::r,y::s,i,0,h=>by
  simp only [yd1,Y4,Nat.add_zero,List.length_cons,Nat.zero_lt_succ,if_true];cases hm:yb5 i l with
  |true=>rw [if_pos (zc5.1 hm)]
  |false=>rw [if_neg (fun h=>by rw [zc5.2 h] at hm;cases hm)]
 |x::r,y::s,i,e+1,h=>by
  simp only [yd1,List.getElem?_cons_succ,List.length_cons];rw [yq7 (H:=r) (H1:=s) (by simpa using h),show i+1+e=i+(e+1) by omega];simp only [Nat.add_lt_add_iff_right]
theorem zx2 {l:List Nat}: ∀ {H H1:List (Ent T.U)} {i:Nat},H.length<=H1.length->(yd1 T l H H1 i).length=H1.length
 | [],H1,i,_=>rfl
 |x::r,[],i,h=>by simp at h
 |x::r,y::s,i,h=>by simp [yd1,zx2 (H:=r) (H1:=s) (by simpa using h)]
theorem zw7 {F:AF T} {i:Nat} {a:AV T.U}: ∀ {l:List Nat},(yb2 T F l).get T i=some a->i∈l/\F.get T i=some a
 | [],h=>by simp [yb2,AF.get] at h
 |j::r,h=>by
  unfold yb2 at h;split at h
  ·rename_i u hu;simp only [AF.get] at h;split at h
   ·rename_i hb;have:=X1 hb;subst this;rw [hu];exact ⟨List.mem_cons_self ..,h⟩
   ·obtain ⟨h1,h2⟩:=zw7 h;exact ⟨Z4 _ h1,h2⟩
  ·obtain ⟨h1,h2⟩:=zw7 h;exact ⟨Z4 _ h1,h2⟩
end
section
variable {T:Tab} (P:Program) (C:Ctx T) (ops:Array Oper) (n B:Nat) (F0:AF T) (H0:List (Ent T.U))
def gr6 (B:Nat) (ps:List (Rec T)) (ops:Array Oper) (r:Rec T) (i:Nat):Prop:=i<B\/(r.d.nb<=i/\i<r.d.ne)\/ ∃r'∈ps,r'.d.nb<=i/\i<r'.d.ne/\Tp ops r.d.j r'.d.j
structure ChkR (r r':Rec T):Prop where
 tch: ∀e∈r.d.tch,r'.d.wrE e=false
 wr: ∀e∈r.d.wr,e∉r'.d.tch
 l1: ∀k c v,r'.loc=some (k,c,some v)->k∉r.d.tch
 l2: ∀k c s,r'.loc=some (k,c,s)->k∉r.d.wr
 l3: ∀k c s,r.loc=some (k,c,s)->r'.d.wrE k=false
 l4: ∀k c v,r.loc=some (k,c,some v)->k∉r'.d.tch
 l5: ∀k c s c' s',r.loc=some (k,c,s)->r'.loc=some (k,c',s')->s.isSome=true\/s'.isSome=true->c'≠c
structure LocOk (ps:List (Rec T)) (r:Rec T) (k c:Nat) (sv:Option (AV T.U)):Prop where
 skip:r.skip=false
 ns:zd2 r.o=true
 pre:zr3 r.F r.o=true
 lt:k<r.d.nb
 ne:r.d.ne=r.d.nb
 tch:r.d.tch= []
 wr:r.d.wr= []
 fr: ∀t a,r.F.get T t=some a->t∈zv1 r.o/\fF zi9 ps (F0.get T) t=some a
 step: ∀(F':AF T) (H':List (Ent T.U)) (f:Ent T.U),(∀t a,r.F.get T t=some a->F'.get T t=some a)->H'[k]?=some f->simE c f (hF zi9 ps (base H0) k)->zh6 P C r.o ⟨F',H'⟩ some (fun _ _=>none)=some ⟨zb7 T F' r.o.dst r.a,qq4 k c sv f H'⟩
 chk: ∀r'∈ps,Tp ops r.d.j r'.d.j\/ChkR r r'
 ids: ∀i∈r.a.ids,gr6 B ps ops r i
 vids: ∀v,sv=some v-> ∀i∈v.ids,gr6 B ps ops r i
structure TakeOk (ps:List (Rec T)) (r:Rec T):Prop where
 ns:zd2 r.o=true
 pre:zr3 r.F r.o=true
 step: ∃Fz,zh6 P C r.o ⟨r.F,r.Hm⟩ some (fun _ _=>none)=some ⟨zb7 T Fz r.o.dst r.a,r.H1⟩
 keeps:Keeps T r.d.wr r.Hm r.H1
 hlen:r.Hm.length=r.d.nb
 hm: ∀e,e<r.d.nb->r.Hm[e]?=some (if e∈r.d.tch then hF zi9 ps (base H0) e else .gone)
 live: ∀e∈r.d.tch,e<r.d.nb/\(hF zi9 ps (base H0) e).live=true
 ne:r.H1.length=r.d.ne
 fr: ∀t a,r.F.get T t=some a->t∈zv1 r.o/\fF zi9 ps (F0.get T) t=some a
 fid: ∀t a,r.F.get T t=some a-> ∀i∈a.ids,i<r.d.nb
 eids: ∀f∈r.Hm,∀i∈f.cellIds,i<r.d.nb
 chk: ∀r'∈ps,Tp ops r.d.j r'.d.j\/ChkR r r'
 ids: ∀i∈r.a.ids,gr6 B ps ops r i
 ep:wj6 T r.d.tch r.d.nb H0 r.a=true
 cids: ∀f∈r.H1,∀i∈f.cellIds,gr6 B ps ops r i
structure RecOk (ps:List (Rec T)) (r:Rec T):Prop where
 idx:r.d.j=ps.length
 op:ops[r.d.j]?=some r.o
 dst:zj3 n r.o.dst=true
 le:B<=r.d.nb/\r.d.nb<=r.d.ne
 mono: ∀r'∈ps,r'.d.ne<=r.d.nb
 skip:r.skip=true->r.a=.raw undef/\r.loc=none
 dskip:r.dead=true->r.skip=true
 take:r.skip=false->r.loc=none->TakeOk P C ops B F0 H0 ps r
 lok: ∀k c sv,r.loc=some (k,c,sv)->LocOk P C ops B F0 H0 ps r k c sv
 dloc:r.d.loc=r.loc.map fun p=>(p.1,p.2.1,p.2.2.isSome)
 guard:r.dead=false->match r.o.guard with
  |none=>r.skip=false
  |some (g,b)=> ∃rg∈ps,rg.d.j=g/\(∃d,rg.o.dst=some d)/\(r.skip=false->rg.a=cB T b)/\(r.skip=true->rg.a=cB T (!b)\/ ∃u,rg.a=.raw (.tuple u))
structure PanI (ps:List (Rec T)) (j0:Nat) (a:AV T.U) (core:List (Ent T.U)):Prop where
 out: ∃(r0:Rec T) (tch:List Nat) (F:AF T) (Hm Hp:List (Ent T.U)) (wr:List Nat),ps[j0]?=some r0/\r0.dead=true/\
  (match r0.o.guard with|none=>True|some (g,b)=> ∃rg∈ps.take j0,rg.d.j=g/\(∃d,rg.o.dst=some d)/\rg.a=cB T b)/\
  zd2 r0.o=true/\zr3 F r0.o=true/\zh6 P C r0.o ⟨F,Hm⟩ (fun _=>none) (fun a st=>some (a,st.H))=some (a,Hp)/\Keeps T wr Hm Hp/\
  Hm.length=r0.d.nb/\(∀e,e<r0.d.nb->Hm[e]?=some (if e∈tch then hF zi9 (ps.take j0) (base H0) e else .gone))/\
  (∀e∈tch,e<r0.d.nb/\(hF zi9 (ps.take j0) (base H0) e).live=true)/\Hp.length=r0.d.ne/\
  (∀t a,F.get T t=some a->t∈zv1 r0.o/\fF zi9 (ps.take j0) (F0.get T) t=some a)/\(∀t a,F.get T t=some a-> ∀i∈a.ids,i<r0.d.nb)/\(∀f∈Hm,∀i∈f.cellIds,i<r0.d.nb)/\
  (∀r'∈ps.take j0,Tp ops j0 r'.d.j\/((∀e∈tch,r'.d.wrE e=false)/\ ∀k c v,r'.loc=some (k,c,some v)->k∉tch))/\
  (∀e,e<B->core[e]?=some (if e∈tch then (Hp[e]?).getD .gone else hF zi9 (ps.take j0) (base H0) e))/\core.length=B
 deads: ∀q∈ps,q.dead=true->q.d.j=j0\/Tp ops q.d.j j0
 wrs: ∀q∈ps,q.skip=false->(q.d.wr≠ []\/ ∃k c v,q.loc=some (k,c,some v))->Tp ops j0 q.d.j
 coreIds: ∀f∈core,∀i∈f.cellIds,i<B
 aids:a.ids= []
def PzOk {R:Type} (Fp:AF T) (Kp:AV T.U->St T->Option R) (ps:List (Rec T)):Option (Nat×Option R)->Prop
 |none=> ∀q∈ps,q.dead=false
 |some (j0,kf)=> ∃a core,PanI P C ops B F0 H0 ps j0 a core/\kf=Kp a ⟨Fp,core⟩
def TrOk (rs:List (Rec T)):Prop:= ∀j r,rs[j]?=some r->RecOk P C ops n B F0 H0 (rs.take j) r
structure AccD (ps:List (Rec T)) (FF:AF T) (Hc:List (Ent T.U)) (recs:List DR):Prop where
 tr:TrOk P C ops n B F0 H0 ps
 ff: ∀t,FF.get T t=fF zi9 ps (F0.get T) t
 hc: ∀e,e<Hc.length->Hc[e]?=some (hF zi9 ps (base H0) e)
 le:B<=Hc.length
 mono: ∀r∈ps,r.d.ne<=Hc.length
 recs:recs=ps.map (·.d)
end
section
variable {T:Tab} {P:Program} {C:Ctx T} {ops:Array Oper} {n B:Nat} {F0:AF T} {H0:List (Ent T.U)}
structure OkD (ops:Array Oper) (n:Nat):Prop where
 dep:vl5 ops ops.size=true
 uniq: ∀i j d,i<ops.size->j<ops.size->yw4 ops i=some d->yw4 ops j=some d->i=j
 back:yk9 ops=true
 guards:yq5 ops ops.size=true
 dst: ∀i d,i<ops.size->yw4 ops i=some d->d<n
theorem kr8 (h:okD ops n=true):OkD ops n:=by
 unfold okD at h;simp only [X3] at h;obtain ⟨h1,h2,h3,h4,h5⟩:=h;refine ⟨h1,jr4 h2,h3,h4,fun i d hi hd=>?_⟩;rw [Y8] at h5;simpa [Nat.blt_eq] using h5 d (by unfold vf9;rw [List.mem_filterMap];exact ⟨i,List.mem_range.2 hi,hd⟩)
theorem OkD.reads (h:OkD ops n) {i:Nat} {o:Oper} (ho:ops[i]?=some o) {t:Nat} (ht:t∈zv1 o++yk4 ops o):(∃j,(zt6 ops i).contains j=true/\yw4 ops j=some t)\/ ∀j,j<ops.size->yw4 ops j=some t->Tp ops j i:=by
 have hi:=(Y3.1 ho).1;have hd:=h.dep;unfold vl5 at hd;rw [Y8] at hd;have:=hd i (List.mem_range.2 hi);rw [ho] at this;simp only [X3,Y8] at this;have:=this.2 t ht;simp only [Bool.or_eq_true] at this;rcases this with h1|h1
 ·rw [List.any_eq_true] at h1;obtain ⟨j,hj,h2⟩:=h1;simp only [X3,beq_iff_eq] at h2;exact .inl ⟨j,by simpa using hj,h2.2⟩
 ·rw [Y8] at h1;refine .inr fun j hj hd=>?_;have h2:=h1 j (List.mem_range.2 hj);rw [Bool.or_eq_true] at h2;rcases h2 with h2|h2
  ·rw [hd] at h2;simp at h2
  ·exact zq5 _ _ _ (List.contains_iff_mem.1 h2)
theorem OkD.guard (h:OkD ops n) {i:Nat} {o:Oper} (ho:ops[i]?=some o) {g:Nat} {b:Bool} (hg:o.guard=some (g,b)):g<i:=by
 have hi:=(Y3.1 ho).1;have hd:=h.guards;unfold yq5 at hd;rw [Y8] at hd;have:=hd i (List.mem_range.2 hi);rw [ho] at this;simp only [hg] at this;simpa [Nat.blt_eq] using this
theorem zj8 {i:Nat} {o:Oper} (ho:ops[i]?=some o):yw4 ops i=o.dst:=by simp [yw4,ho]
theorem TrOk.uniq (hk:OkD ops n) {rs:List (Rec T)} (h:TrOk P C ops n B F0 H0 rs) {r r':Rec T} (hr:r∈rs) (hr':r'∈rs) {t:Nat} (hd:r.o.dst=some t) (hd':r'.o.dst=some t):r=r':=by
 obtain ⟨i,hi⟩:=Y9.1 hr;obtain ⟨j,hj⟩:=Y9.1 hr';have a:=h i r hi;have b:=h j r' hj;have e1:r.d.j=i:=by rw [a.idx,Y6,Nat.min_eq_left (Nat.le_of_lt (X2.1 hi).1)]
 have e2:r'.d.j=j:=by rw [b.idx,Y6,Nat.min_eq_left (Nat.le_of_lt (X2.1 hj).1)]
 have:=hk.uniq r.d.j r'.d.j t (Y3.1 a.op).1 (Y3.1 b.op).1 (by rw [zj8 a.op];exact hd) (by rw [zj8 b.op];exact hd');rw [e1,e2] at this;subst this;rw [hi] at hj;exact X5 hj
theorem TrOk.snoc {ps:List (Rec T)} {r:Rec T} (h:TrOk P C ops n B F0 H0 ps) (hr:RecOk P C ops n B F0 H0 ps r):TrOk P C ops n B F0 H0 (ps++ [r]):=by
 intro j q hq;rcases Nat.lt_trichotomy j ps.length with hj|hj|hj
 ·rw [X8 hj] at hq;rw [Z7 (by omega)];exact h j q hq
 ·subst hj;rw [Z2 (Nat.le_refl _),Nat.sub_self] at hq;simp at hq;subst hq;rw [List.take_left];exact hr
 ·rw [Y5 (by simp;omega)] at hq;cases hq
theorem TrOk.dlocs {ps:List (Rec T)} (h:TrOk P C ops n B F0 H0 ps): ∀r∈ps,r.d.loc=r.loc.map fun p=>(p.1,p.2.1,p.2.2.isSome):=fun r hr=>by
 obtain ⟨j,hj⟩:=Y9.1 hr;exact (h j r hj).dloc
theorem AccD.skip {ps:List (Rec T)} {FF:AF T} {Hc:List (Ent T.U)} {recs:List DR} (h:AccD P C ops n B F0 H0 ps FF Hc recs) {o:Oper} (ho:ops[ps.length]?=some o) (hd:zj3 n o.dst=true) (hg:match o.guard with
  |none=>False
  |some (g,b)=> ∃rg∈ps,rg.d.j=g/\(∃d,rg.o.dst=some d)/\(rg.a=cB T (!b)\/ ∃u,rg.a=.raw (.tuple u))):
  ∃r,AccD P C ops n B F0 H0 (ps++ [r]) (zb7 T FF o.dst (.raw undef)) Hc (recs++ [⟨ps.length,Hc.length,Hc.length,[],[],none⟩])/\r.dead=false/\r.skip=true:=by
 let r:Rec T:=⟨o,⟨ps.length,Hc.length,Hc.length,[],[],none⟩,true,[],[],.raw undef,[],false,none⟩
 have hup: ∀e,¬jf9 r e:=fun e h=>h.elim (fun h=>h rfl) fun ⟨_,_,h⟩=>by cases h
 refine ⟨r,?_,rfl,rfl⟩;refine ⟨h.tr.snoc ⟨rfl,ho,hd,⟨h.le,Nat.le_refl _⟩,h.mono,fun _=>⟨rfl,rfl⟩,fun h=>(by cases h),fun h=>(by cases h),fun _ _ _ h=>(by cases h),rfl,fun _=>?_⟩,?_,fun e he=>?_,h.le,fun q hq=>?_,by rw [h.recs];simp [r]⟩
 ·show match o.guard with|none=>_|some (g,b)=>_
  split at hg
  ·exact hg.elim
  ·rename_i g b hgg;obtain ⟨rg,a1,a2,a3,a4⟩:=hg;exact ⟨rg,a1,a2,a3,fun h=>(by cases h),fun _=>a4⟩
 ·intro t;rw [jr5];show (zb7 T FF o.dst (.raw undef)).get T t=(match o.dst with|some d=>(fun t=>if t=d then (match zi9 r.d.j with|true=>some r.a|false=>fF zi9 ps (F0.get T) t) else fF zi9 ps (F0.get T) t)|none=>fF zi9 ps (F0.get T)) t;cases hdst:o.dst with
  |none=>exact h.ff t
  |some d=>
   simp only [zb7,AF.get,zi9];cases hb:Nat.beq d t with
   |true=>have:=X1 hb;subst this;simp [r]
   |false=>rw [if_neg (fun e=>by subst e;simp at hb)];exact h.ff t
 ·rw [h.hc e he,zz5,zo9 (rs:= [r]) fun r' hr' _=>by simp at hr';subst hr';exact hup e]
 ·rcases X4.1 hq with hq|hq
  ·exact h.mono q hq
  ·simp at hq;subst hq;exact Nat.le_refl _
theorem zx3 {m:Nat} {l:List Nat} (h:jt6 m l=true): ∀i∈l,i<m:=by
 intro i hi;unfold jt6 at h;rw [Y8] at h;simpa [Nat.blt_eq] using h i hi
theorem ju5 {F:AF T} {t:Nat} {a:AV T.U} (h:F.get T t=some a): ∀i∈a.ids,i∈ve9 T F:=yv3 h
theorem ym8 {nb ne j:Nat} {recs:List DR} {ps:List (Rec T)} (hr:recs=ps.map (·.d)) {i:Nat} (h:qs8 B nb ne ((ys0 ops ops.size).getD j []) recs i=true):
  i<B\/(nb<=i/\i<ne)\/ ∃r'∈ps,r'.d.nb<=i/\i<r'.d.ne/\Tp ops j r'.d.j:=by
 unfold qs8 at h;simp only [Bool.or_eq_true,X3,Nat.blt_eq] at h;rcases h with h|⟨h1,h2⟩|h
 ·exact .inl h
 ·exact .inr (.inl ⟨Y1 h1,h2⟩)
 ·rw [List.any_eq_true] at h;obtain ⟨d,hd,h⟩:=h;simp only [X3,Nat.blt_eq] at h;rw [hr] at hd;obtain ⟨r',hr',rfl⟩:=List.mem_map.1 hd;exact .inr (.inr ⟨r',hr',Y1 h.1,h.2.1,zq5 ops.size _ _ (zc5.1 h.2.2)⟩)
theorem yz8 {j:Nat} {recs:List DR} {ps:List (Rec T)} (hr:recs=ps.map (·.d)) (hdl: ∀r'∈ps,r'.d.loc=r'.loc.map fun p=>(p.1,p.2.1,p.2.2.isSome)) {tch wr:List Nat} {lc:Option (Nat×Nat×Bool)} (h:kj9 ((ys0 ops ops.size).getD j []) recs tch wr lc=true):
  ∀r'∈ps,Tp ops j r'.d.j\/((∀e∈tch,r'.d.wrE e=false)/\(∀e∈wr,e∉r'.d.tch)/\(∀k c v,r'.loc=some (k,c,some v)->k∉tch)/\(∀k c s,r'.loc=some (k,c,s)->k∉wr)/\(∀k c st,lc=some (k,c,st)->r'.d.wrE k=false/\(st=true->k∉r'.d.tch)/\ ∀c' s',r'.loc=some (k,c',s')->st=true\/s'.isSome=true->c'≠c)):=by
 intro r' hr';unfold kj9 at h;rw [Y8] at h;have:=h r'.d (by rw [hr];exact List.mem_map_of_mem hr');have hdl:=hdl r' hr';generalize r'.d=d at this hdl⊢;generalize r'.loc=ll at hdl⊢;rw [Bool.or_eq_true] at this;rcases this with h|h
 ·exact .inl (zq5 ops.size _ _ (zc5.1 h))
 ·rw [X3,X3,Y8,Y8] at h;obtain ⟨⟨h1,h2⟩,h3⟩:=h;have nm: ∀ {e:Nat} {l:List Nat},(!yb5 e l)=true->e∉l:=fun {e l} h hm=>by rw [zc5.2 hm] at h;cases h
  unfold uy5 at h3;rw [X3] at h3;obtain ⟨h3,h4⟩:=h3;refine .inr ⟨fun e he=>by have:=h1 e he;simpa using this,fun e he=>nm (h2 e he),fun k c v hl=>?_,fun k c sv hl=>?_,fun k c st hl=>?_⟩
  ·subst hl;rw [hdl] at h3;simp only [Z8,Option.isSome_some,Bool.not_true,Bool.false_or,X3] at h3;exact nm h3.1
  ·subst hl;rw [hdl] at h3;simp only [Z8,X3] at h3;exact nm h3.2
  ·subst hl;simp only [X3] at h4;obtain ⟨g1,g2,g3⟩:=h4;refine ⟨by simpa using g1,fun hst=>?_,fun c' s' hl hor=>?_⟩
   ·subst hst;simp only [Bool.not_true,Bool.false_or] at g2;exact nm g2
   ·subst hl;rw [hdl] at g3;simp only [Z8,Nat.beq_refl,Bool.not_true,Bool.false_or] at g3;intro e;subst e;rw [Nat.beq_refl] at g3;rcases hor with h|h<;>rw [h] at g3<;>simp at g3
theorem AccD.take {ps:List (Rec T)} {FF:AF T} {Hc:List (Ent T.U)} {recs:List DR} (h:AccD P C ops n B F0 H0 ps FF Hc recs) {o:Oper} (ho:ops[ps.length]?=some o) (hg:match o.guard with
  |none=>True
  |some (g,b)=> ∃rg∈ps,rg.d.j=g/\(∃d,rg.o.dst=some d)/\rg.a=cB T b) {tch:List Nat} (htch: ∀e∈tch,∃f,Hc[e]?=some f/\f.live=true) {F:AF T} (hFk:F=yb2 T FF (zv1 o))
  (hdst:zj3 n o.dst=true) (hns:zd2 o=true) (hpre:zr3 F o=true) (hlt:jt6 Hc.length (ve9 T F)=true) (hlc:((zl8 T tch Hc 0).all fun e=>jt6 Hc.length e.cellIds)=true)
  {a:AV T.U} {H1:List (Ent T.U)} {Fz:AF T} (hstep:zh6 P C o ⟨F,zl8 T tch Hc 0⟩ some (fun _ _=>none)=some ⟨zb7 T Fz o.dst a,H1⟩) (hk:Keeps T (wrF C o ⟨F,zl8 T tch Hc 0⟩) (zl8 T tch Hc 0) H1)
  (hchk:kj9 ((ys0 ops ops.size).getD ps.length []) recs tch (wrF C o ⟨F,zl8 T tch Hc 0⟩) none=true) (hid:((ys2 T (zb7 T Fz o.dst a) o.dst).ids.all (qs8 B Hc.length H1.length ((ys0 ops ops.size).getD ps.length []) recs))=true)
  (hep:wj6 T tch Hc.length H0 (ys2 T (zb7 T Fz o.dst a) o.dst)=true) (hcid:(H1.all fun e=>e.cellIds.all (qs8 B Hc.length H1.length ((ys0 ops ops.size).getD ps.length []) recs))=true):
  ∃r,AccD P C ops n B F0 H0 (ps++ [r]) (zb7 T FF o.dst (ys2 T (zb7 T Fz o.dst a) o.dst)) (yd1 T tch Hc H1 0) (recs++ [⟨ps.length,Hc.length,H1.length,tch,wrF C o ⟨F,zl8 T tch Hc 0⟩,none⟩])/\r.dead=false/\r.d.j=ps.length/\r.d.wr=wrF C o ⟨F,zl8 T tch Hc 0⟩/\r.loc=none:=by
 let r:Rec T:=⟨o,⟨ps.length,Hc.length,H1.length,tch,wrF C o ⟨F,zl8 T tch Hc 0⟩,none⟩,false,F,zl8 T tch Hc 0,ys2 T (zb7 T Fz o.dst a) o.dst,H1,false,none⟩
 have hnb:Hc.length<=H1.length:=by have:=hk.len;rwa [zq8] at this
 have hda:zb7 T Fz o.dst (ys2 T (zb7 T Fz o.dst a) o.dst)=zb7 T Fz o.dst a:=by
  cases hd:o.dst with
  |none=>rfl
  |some d=>simp only [zb7,ys2,AF.get,Nat.beq_refl]
 have hmask: ∀e,e<Hc.length->(zl8 T tch Hc 0)[e]?=some (if e∈tch then hF zi9 ps (base H0) e else .gone):=by
  intro e he;rw [yn0,h.hc e he,Nat.zero_add];rfl
 have htk:TakeOk P C ops B F0 H0 ps r:=by
  refine ⟨hns,hpre,?_,hk,zq8,hmask,fun e he=>?_,rfl,fun t a ha=>?_,fun t a ha i hi=>zx3 hlt i (ju5 ha i hi),fun f hf i hi=>?_,fun r' hr'=>(yz8 h.recs h.tr.dlocs hchk r' hr').imp id fun ⟨q1,q2,q3,q4,_⟩=>⟨q1,q2,q3,q4,fun _ _ _ hl=>(by cases hl),fun _ _ _ hl=>(by cases hl),fun _ _ _ _ _ hl=>(by cases hl)⟩,fun i hi=>?_,hep,fun f hf i hi=>?_⟩
  ·refine ⟨Fz,?_⟩;show zh6 P C o ⟨F,zl8 T tch Hc 0⟩ some (fun _ _=>none)=some ⟨zb7 T Fz o.dst (ys2 T (zb7 T Fz o.dst a) o.dst),H1⟩;rw [hda];exact hstep
  ·obtain ⟨f,h1,h2⟩:=htch e he;have hlt:=(X2.1 h1).1;rw [h.hc e hlt] at h1;simp only [X0] at h1;exact ⟨hlt,by rw [h1];exact h2⟩
  ·have ha:(yb2 T FF (zv1 o)).get T t=some a:=by rw [<-hFk];exact ha
   obtain ⟨h1,h2⟩:=zw7 ha;exact ⟨h1,by rw [<-h.ff];exact h2⟩
  ·rw [Y8] at hlc;exact zx3 (hlc f hf) i hi
  ·rw [Y8] at hid;exact ym8 h.recs (hid i hi)
  ·rw [Y8] at hcid;have:=hcid f hf;rw [Y8] at this;exact ym8 h.recs (this i hi)
 refine ⟨r,?_,rfl,rfl,rfl,rfl⟩;refine ⟨h.tr.snoc ⟨rfl,ho,hdst,⟨h.le,hnb⟩,h.mono,fun h=>(by cases h),fun h=>(by cases h),fun _ _=>htk,fun _ _ _ h=>(by cases h),rfl,fun _=>?_⟩,?_,fun e he=>?_,by rw [zx2 hnb];exact Nat.le_trans h.le hnb,fun q hq=>?_,by rw [h.recs];simp [r]⟩
 ·show match o.guard with|none=>_|some (g,b)=>_
  split at hg
  ·rfl
  ·obtain ⟨rg,a1,a2,a3,a4⟩:=hg;exact ⟨rg,a1,a2,a3,fun _=>a4,fun h=>(by cases h)⟩
 ·intro t;rw [jr5];show (zb7 T FF o.dst r.a).get T t=(match o.dst with|some d=>(fun t=>if t=d then (match zi9 r.d.j with|true=>some r.a|false=>fF zi9 ps (F0.get T) t) else fF zi9 ps (F0.get T) t)|none=>fF zi9 ps (F0.get T)) t;cases hdst:o.dst with
  |none=>exact h.ff t
  |some d=>
   simp only [zb7,AF.get,zi9];cases hb:Nat.beq d t with
   |true=>have:=X1 hb;subst this;simp
   |false=>rw [if_neg (fun e=>by subst e;simp at hb)];exact h.ff t
 ·rw [zx2 hnb] at he;rw [yq7 hnb,Nat.zero_add,zz5];show _=some ((upR r e).getD (hF zi9 ps (base H0) e));have hr:upR r e=if e<Hc.length then (if e∈tch/\e∈wrF C o ⟨F,zl8 T tch Hc 0⟩ then H1[e]? else none) else H1[e]?:=rfl
  rw [hr];have hH1:H1[e]?=some H1[e]:=Y0 he;by_cases hel:e<Hc.length
  ·rw [if_pos hel,if_pos hel];by_cases ht:e∈tch
   ·rw [if_pos ht];by_cases hw:e∈wrF C o ⟨F,zl8 T tch Hc 0⟩
    ·rw [if_pos ⟨ht,hw⟩,hH1];rfl
    ·rw [if_neg (fun q=>hw q.2),hk.same e (by rw [zq8];exact hel) hw,hmask e hel,if_pos ht];rfl
   ·rw [if_neg ht,if_neg (fun q=>ht q.1),h.hc e hel];rfl
  ·rw [if_neg hel,if_neg hel,hH1];rfl
 ·rw [zx2 hnb];rcases X4.1 hq with hq|hq
  ·exact Nat.le_trans (h.mono q hq) hnb
  ·simp at hq;subst hq;exact Nat.le_refl _
theorem AccD.takeL {ps:List (Rec T)} {FF:AF T} {Hc:List (Ent T.U)} {recs:List DR} (h:AccD P C ops n B F0 H0 ps FF Hc recs) {o:Oper} (ho:ops[ps.length]?=some o) (hg:match o.guard with
  |none=>True
  |some (g,b)=> ∃rg∈ps,rg.d.j=g/\(∃d,rg.o.dst=some d)/\rg.a=cB T b) {tch:List Nat} {F:AF T} (hFk:F=yb2 T FF (zv1 o))
  (hdst:zj3 n o.dst=true) (hns:zd2 o=true) (hpre:zr3 F o=true) {k c:Nat} {sv:Option (AV T.U)} (hl:wf4 P o F (zl8 T tch Hc 0)=some (k,c,sv))
  {a:AV T.U} {H1:List (Ent T.U)} {Fz:AF T} (hstep:zh6 P C o ⟨F,zl8 T tch Hc 0⟩ some (fun _ _=>none)=some ⟨zb7 T Fz o.dst a,H1⟩)
  (hchk:kj9 ((ys0 ops ops.size).getD ps.length []) recs [] [] (some (k,c,sv.isSome))=true) (hid:((ys2 T (zb7 T Fz o.dst a) o.dst).ids.all (qs8 B Hc.length Hc.length ((ys0 ops ops.size).getD ps.length []) recs))=true)
  (hvid:((match sv with|some v=>v.ids|none=> []).all (qs8 B Hc.length Hc.length ((ys0 ops ops.size).getD ps.length []) recs))=true):
  ∃r,AccD P C ops n B F0 H0 (ps++ [r]) (zb7 T FF o.dst (ys2 T (zb7 T Fz o.dst a) o.dst)) (qq4 k c sv (Hc.getD k .gone) Hc) (recs++ [⟨ps.length,Hc.length,Hc.length,[],[],some (k,c,sv.isSome)⟩])/\r.dead=false/\r.d.wr= []/\r.loc=some (k,c,sv):=by
 let r:Rec T:=⟨o,⟨ps.length,Hc.length,Hc.length,[],[],some (k,c,sv.isSome)⟩,false,F,[],ys2 T (zb7 T Fz o.dst a) o.dst,[],false,some (k,c,sv)⟩
 obtain ⟨x,hx,hxl,_,hst⟩:=ko6 hl hstep;have hda: ∀G:AF T,zb7 T G o.dst (ys2 T (zb7 T Fz o.dst a) o.dst)=zb7 T G o.dst a:=fun G=>by
  cases hd:o.dst with
  |none=>rfl
  |some d=>simp only [zb7,ys2,AF.get,Nat.beq_refl]
 have hk:k<Hc.length:=by have:=(X2.1 hx).1;rwa [zq8] at this
 have hxe:x=hF zi9 ps (base H0) k:=by
  rw [yn0,h.hc k hk,Nat.zero_add] at hx;simp only [Z8,X0] at hx;split at hx
  ·exact hx.symm
  ·subst hx;cases hxl
 have hlok:LocOk P C ops B F0 H0 ps r k c sv:=by
  refine ⟨rfl,hns,hpre,hk,rfl,rfl,rfl,fun t a ha=>?_,fun F' H' f hF hf hsim=>?_,fun r' hr'=>?_,fun i hi=>?_,fun v hv i hi=>?_⟩
  ·have ha:(yb2 T FF (zv1 o)).get T t=some a:=by rw [<-hFk];exact ha
   obtain ⟨h1,h2⟩:=zw7 ha;exact ⟨h1,by rw [<-h.ff];exact h2⟩
  ·rw [<-hxe] at hsim;have:=hst F' H' f hF hf hsim;show zh6 P C o ⟨F',H'⟩ some (fun _ _=>none)=some ⟨zb7 T F' o.dst (ys2 T (zb7 T Fz o.dst a) o.dst),qq4 k c sv f H'⟩;rw [hda];exact this
  ·rcases yz8 h.recs h.tr.dlocs hchk r' hr' with q|⟨q1,q2,q3,q4,q5⟩
   ·exact .inl q
   obtain ⟨u1,u2,u3⟩:=q5 k c sv.isSome rfl;refine .inr ⟨fun _ hm=>(by cases hm),fun _ hm=>(by cases hm),fun _ _ _ _ hm=>(by cases hm),fun _ _ _ _ hm=>(by cases hm),fun k0 c0 s0 hl=>?_,fun k0 c0 v0 hl=>?_,fun k0 c0 s0 c' s' hl hl' hor=>?_⟩
   ·have hl:some (k,c,sv)=some (k0,c0,s0):=hl;simp only [X0,X7] at hl;obtain ⟨rfl,rfl,rfl⟩:=hl;exact u1
   ·have hl:some (k,c,sv)=some (k0,c0,some v0):=hl;simp only [X0,X7] at hl;obtain ⟨rfl,rfl,rfl⟩:=hl;exact u2 rfl
   ·have hl:some (k,c,sv)=some (k0,c0,s0):=hl;simp only [X0,X7] at hl;obtain ⟨rfl,rfl,rfl⟩:=hl;exact u3 c' s' hl' hor
  ·rw [Y8] at hid;exact ym8 h.recs (hid i hi)
  ·subst hv;rw [Y8] at hvid;exact ym8 h.recs (hvid i hi)
 have hlen:(qq4 k c sv (Hc.getD k .gone) Hc).length=Hc.length:=by cases sv<;>simp [qq4]
 refine ⟨r,?_,rfl,rfl,rfl⟩;refine ⟨h.tr.snoc ⟨rfl,ho,hdst,⟨h.le,Nat.le_refl _⟩,h.mono,fun h=>(by cases h),fun h=>(by cases h),fun _ h=>(by cases h),fun k0 c0 s0 hl=>?_,rfl,fun _=>?_⟩,?_,fun e he=>?_,by rw [hlen];exact h.le,fun q hq=>?_,by rw [h.recs];simp [r]⟩
 ·have hl:some (k,c,sv)=some (k0,c0,s0):=hl;simp only [X0,X7] at hl;obtain ⟨rfl,rfl,rfl⟩:=hl;exact hlok
 ·show match o.guard with|none=>_|some (g,b)=>_
  split at hg
  ·rfl
  ·obtain ⟨rg,a1,a2,a3,a4⟩:=hg;exact ⟨rg,a1,a2,a3,fun _=>a4,fun h=>(by cases h)⟩
 ·intro t;rw [jr5];show (zb7 T FF o.dst r.a).get T t=(match o.dst with|some d=>(fun t=>if t=d then (match zi9 r.d.j with|true=>some r.a|false=>fF zi9 ps (F0.get T) t) else fF zi9 ps (F0.get T) t)|none=>fF zi9 ps (F0.get T)) t;cases hdst:o.dst with
  |none=>exact h.ff t
  |some d=>
   simp only [zb7,AF.get,zi9];cases hb:Nat.beq d t with
   |true=>have:=X1 hb;subst this;simp
   |false=>rw [if_neg (fun e=>by subst e;simp at hb)];exact h.ff t
 ·rw [hlen] at he;rw [zz5];show _=some (upG r e (hF zi9 ps (base H0) e));have hge:=h.hc e he;cases sv with
  |none=>exact hge
  |some v=>
   show (Hc.set k (yc8 c v (Hc.getD k .gone)))[e]?=some (if e=k then yc8 c v (hF zi9 ps (base H0) e) else hF zi9 ps (base H0) e);by_cases hek:e=k
   ·subst hek;rw [Q0 hk,if_pos rfl,Y2,hge];rfl
   ·rw [Z5 (Ne.symm hek),if_neg hek];exact hge
 ·rw [hlen];rcases X4.1 hq with hq|hq
  ·exact h.mono q hq
  ·simp at hq;subst hq;exact Nat.le_refl _
theorem AccD.dies {ps:List (Rec T)} {FF:AF T} {Hc:List (Ent T.U)} {recs:List DR} (hB:H0.length=B) (h:AccD P C ops n B F0 H0 ps FF Hc recs) {o:Oper} (ho:ops[ps.length]?=some o) (hd:zj3 n o.dst=true) (m:Nat) (hm:Hc.length<=m):
  AccD P C ops n B F0 H0 (ps++ [⟨o,⟨ps.length,Hc.length,m,[],[],none⟩,true,[],[],.raw undef,[],true,none⟩]) (zb7 T FF o.dst (.raw undef)) (Hc++List.replicate (m-Hc.length) .gone) (recs++ [⟨ps.length,Hc.length,m,[],[],none⟩]):=by
 let r:Rec T:=⟨o,⟨ps.length,Hc.length,m,[],[],none⟩,true,[],[],.raw undef,[],true,none⟩
 have hup: ∀e,¬jf9 r e:=fun e h=>h.elim (fun h=>h rfl) fun ⟨_,_,h⟩=>by cases h
 have hlen:(Hc++List.replicate (m-Hc.length) Ent.gone).length=m:=by simp;omega
 refine ⟨h.tr.snoc ⟨rfl,ho,hd,⟨h.le,hm⟩,h.mono,fun _=>⟨rfl,rfl⟩,fun _=>rfl,fun h=>(by cases h),fun _ _ _ h=>(by cases h),rfl,fun h=>(by cases h)⟩,?_,fun e he=>?_,by rw [hlen];exact Nat.le_trans h.le hm,fun q hq=>?_,by rw [h.recs];simp⟩
 ·intro t;rw [jr5];show (zb7 T FF o.dst (.raw undef)).get T t=(match o.dst with|some d=>(fun t=>if t=d then (match zi9 r.d.j with|true=>some r.a|false=>fF zi9 ps (F0.get T) t) else fF zi9 ps (F0.get T) t)|none=>fF zi9 ps (F0.get T)) t;cases hdst:o.dst with
  |none=>exact h.ff t
  |some d=>
   simp only [zb7,AF.get,zi9];cases hb:Nat.beq d t with
   |true=>have:=X1 hb;subst this;simp [r]
   |false=>rw [if_neg (fun e=>by subst e;simp at hb)];exact h.ff t
 ·rw [zz5,zo9 (rs:= [_]) fun r' hr' _=>by simp only [Q4] at hr';subst hr';exact hup e];by_cases hel:e<Hc.length
  ·rw [X8 hel];exact h.hc e hel
  ·rw [Z2 (by omega)];rw [hlen] at he;rw [List.getElem?_replicate,if_pos (by omega),zo9 fun q hq _=>?_]
   ·have:=h.le;unfold base;rw [Y5 (by omega)];rfl
   ·intro hu;obtain ⟨k,hk⟩:=Y9.1 hq;have hqk:=h.tr k q hk;have hmo:=h.mono q hq;have hle:=hqk.le;rcases hu with hu|⟨c,v,hl⟩
    ·unfold upR at hu;split at hu
     ·exact hu rfl
     ·rename_i hs;split at hu
      ·exact hu rfl
      ·rename_i hl;have hne:=(hqk.take hs hl).ne;split at hu
       ·omega
       ·exact hu (Y5 (by omega))
    ·have:=(hqk.lok _ _ _ hl).lt;omega
 ·rw [hlen];rcases X4.1 hq with hq|hq
  ·exact Nat.le_trans (h.mono q hq) hm
  ·simp at hq;subst hq;exact Nat.le_refl _
theorem PanI.snoc {ps:List (Rec T)} {j0:Nat} {a:AV T.U} {core:List (Ent T.U)} (h:PanI P C ops B F0 H0 ps j0 a core) {q:Rec T} (hd:q.dead=true->q.d.j=j0\/Tp ops q.d.j j0) (hw:q.skip=false->(q.d.wr≠ []\/ ∃k c v,q.loc=some (k,c,some v))->Tp ops j0 q.d.j):PanI P C ops B F0 H0 (ps++ [q]) j0 a core:=by
 obtain ⟨⟨r0,tch,F,Hm,Hp,wr,h1,h2,h3⟩,h4,h5,h6,h7⟩:=h;have hlt:=(X2.1 h1).1;have ht:(ps++ [q]).take j0=ps.take j0:=Z7 (by omega);refine ⟨⟨r0,tch,F,Hm,Hp,wr,by rw [X8 hlt];exact h1,h2,by rw [ht];exact h3⟩,fun p hp hpd=>?_,fun p hp hs hpw=>?_,h6,h7⟩
 ·rcases X4.1 hp with hp|hp
  ·exact h4 p hp hpd
  ·simp at hp;subst hp;exact hd hpd
 ·rcases X4.1 hp with hp|hp
  ·exact h5 p hp hs hpw
  ·simp at hp;subst hp;exact hw hs hpw
theorem PzOk.snoc {R:Type} {Fp:AF T} {Kp:AV T.U->St T->Option R} {ps:List (Rec T)} {pz:Option (Nat×Option R)} (h:PzOk P C ops B F0 H0 Fp Kp ps pz) {q:Rec T} (h1:q.dead=false) (h2:pz≠none->q.skip=false->q.d.wr= []/\ ∀k c v,q.loc≠some (k,c,some v)):PzOk P C ops B F0 H0 Fp Kp (ps++ [q]) pz:=by
 cases pz with
 |none=>
  intro p hp;rcases X4.1 hp with hp|hp
  ·exact h p hp
  ·simp at hp;subst hp;exact h1
 |some x=>
  obtain ⟨j0,kf⟩:=x;obtain ⟨a,core,h3,h4⟩:=h;exact ⟨a,core,h3.snoc (fun hd=>by rw [h1] at hd;cases hd) fun hs hw=>(hw.elim (fun hw=>absurd (h2 (by simp) hs).1 hw) fun ⟨k,c,v,hl⟩=>absurd hl ((h2 (by simp) hs).2 k c v)),h4⟩
theorem AccD.again {ps:List (Rec T)} {FF:AF T} {Hc:List (Ent T.U)} {recs:List DR} (h:AccD P C ops n B F0 H0 ps FF Hc recs) {d:Nat} {a:AV T.U} (hd:FF.get T d=some a):AccD P C ops n B F0 H0 ps ((d,a)::FF) Hc recs:=
 ⟨h.tr,fun t=>by
  simp only [AF.get];cases hb:Nat.beq d t with
  |true=>have:=X1 hb;subst this;rw [<-h.ff,hd]
  |false=>exact h.ff t,h.hc,h.le,h.mono,h.recs⟩
theorem vr3 (hB:H0.length=B) (hk:OkD ops n) (hE:v7 T P C.E) {R:Type} {r:R} {Fp:AF T} {pm:Bool} {Kp:AV T.U->St T->Option R} {K:St T->Option R}: ∀(rest:List Oper) (ps:List (Rec T)) (pz:Option (Nat×Option R)) (FF:AF T) (Hc:List (Ent T.U)) (recs:List DR),ops.toList.drop ps.length=rest->AccD P C ops n B F0 H0 ps FF Hc recs->PzOk P C ops B F0 H0 Fp Kp ps pz->ya6 T P C ops n B H0 Fp pm Kp K rest ps.length pz FF Hc recs=some r->
  ∃rs pz' FF' Hc' recs',AccD P C ops n B F0 H0 rs FF' Hc' recs'/\PzOk P C ops B F0 H0 Fp Kp rs pz'/\rs.length=ops.size/\(match pz' with|none=>K ⟨FF',Hc'⟩|some (_,kf)=>kf)=some r
 | [],ps,pz,FF,Hc,recs,hr,h,hz,hp=>by
  have:ops.size<=ps.length:=by simpa using List.drop_eq_nil_iff.1 hr
  have hle:ps.length<=ops.size:=by
   rcases Nat.eq_zero_or_pos ps.length with h0|h0
   ·omega
   ·have hlt:ps.length-1<ps.length:=by omega
    have hg:=Y0 hlt;have hrk:=h.tr _ _ hg;have h1:=(Y3.1 hrk.op).1;rw [hrk.idx,Y6] at h1;omega
  exact ⟨ps,pz,FF,Hc,recs,h,hz,by omega,hp⟩
 |o::rest,ps,pz,FF,Hc,recs,hr,h,hz,hp=>by
  have hlt:ps.length<ops.size:=by
   apply Classical.byContradiction;intro hn;rw [List.drop_eq_nil_of_le (by simpa using hn)] at hr;cases hr
  have ho:ops[ps.length]?=some o:=by
   have:=List.drop_eq_getElem_cons (l:=ops.toList) (i:=ps.length) (by simpa using hlt);rw [hr] at this;rw [Z6 hlt];have h1:=(List.cons.inj this).1;simpa using h1.symm
  have hr':ops.toList.drop (ps.length+1)=rest:=by
   have:=List.drop_eq_getElem_cons (l:=ops.toList) (i:=ps.length) (by simpa using hlt);rw [hr] at this;exact (List.cons.inj this).2.symm
  have go: ∀(q:Rec T) (pz:Option (Nat×Option R)) (FF':AF T) (Hc':List (Ent T.U)) (recs':List DR),AccD P C ops n B F0 H0 (ps++ [q]) FF' Hc' recs'->PzOk P C ops B F0 H0 Fp Kp (ps++ [q]) pz->ya6 T P C ops n B H0 Fp pm Kp K rest (ps.length+1) pz FF' Hc' recs'=some r->
    ∃rs pz' FF' Hc' recs',AccD P C ops n B F0 H0 rs FF' Hc' recs'/\PzOk P C ops B F0 H0 Fp Kp rs pz'/\rs.length=ops.size/\(match pz' with|none=>K ⟨FF',Hc'⟩|some (_,kf)=>kf)=some r:=by
   intro q pz FF' Hc' recs' ha hz hq;have hl:(ps++ [q]).length=ps.length+1:=by simp
   rw [<-hl] at hq;exact vr3 hB hk hE rest (ps++ [q]) pz FF' Hc' recs' (by rw [hl];exact hr') ha hz hq
  let Gr:Option (Nat×Option R)->AF T->List (Ent T.U)->List DR->Option R:=fun pz FF Hc recs=>ya6 T P C ops n B H0 Fp pm Kp K rest (ps.length+1) pz FF Hc recs
  have htake: ∀FF,AccD P C ops n B F0 H0 ps FF Hc recs->(match o.guard with
    |none=>True
    |some (g,b)=> ∃rg∈ps,rg.d.j=g/\(∃d,rg.o.dst=some d)/\rg.a=cB T b)->
    vh7 T P C ops n B H0 Fp pm Kp o ps.length pz FF Hc recs Gr=some r-> ∃rs pz' FF' Hc' recs',AccD P C ops n B F0 H0 rs FF' Hc' recs'/\PzOk P C ops B F0 H0 Fp Kp rs pz'/\rs.length=ops.size/\(match pz' with|none=>K ⟨FF',Hc'⟩|some (_,kf)=>kf)=some r:=by
   intro FF h hg hp;unfold vh7 at hp;simp only at hp;generalize hF:yb2 T FF (zv1 o)=F at hp;generalize htch:qu1 T Hc (gd7 T o F Hc++jf8 C o F Hc)=tch at hp;have htl: ∀e∈tch,∃f,Hc[e]?=some f/\f.live=true:=fun e he=>by
    rw [<-htch] at he;have:=(Q9.1 he).2;split at this
    ·rename_i f hf;exact ⟨f,hf,this⟩
    ·cases this
   split at hp<;>try (cases hp;done)
   rename_i hb;simp only [X3] at hb;split at hp
   ·rename_i k c sv hl;rcases ju8 hE hp with ⟨Fz,a,H1,h1,h2,h3⟩|⟨a,st',h1,h2,h3⟩
    ·dsimp only at h1;split at h1<;>try (cases h1;done)
     rename_i hc;simp only [X3] at hc;obtain ⟨hlater,hc1,hc2,hc3⟩:=hc;obtain ⟨q,hq,hqd,hqw,hql⟩:=h.takeL ho hg (tch:=tch) hF.symm hb.1 hb.2.1 hb.2.2.1 hl (h3 _ _) hc1 hc2 hc3;refine go q _ _ _ _ hq (hz.snoc hqd fun hne _=>⟨hqw,fun k' c' v' hl'=>?_⟩) h1;rw [hql] at hl';simp only [X0,X7] at hl';obtain ⟨_,_,rfl⟩:=hl';cases pz with
     |none=>exact absurd rfl hne
     |some x=>simp [qg8] at hlater
    ·cases h1
   rcases ju8 hE hp with ⟨Fz,a,H1,h1,h2,h3⟩|⟨a,st',h1,h2,h3⟩
   ·dsimp only at h1;split at h1<;>try (cases h1;done)
    rename_i hc;rw [X3] at hc;obtain ⟨hlater,hc⟩:=hc;simp only [X3] at hc;obtain ⟨q,hq,hqd,hqj,hqw,hql⟩:=h.take ho hg (tch:=tch) htl hF.symm hb.1 hb.2.1 hb.2.2.1 hb.2.2.2.1 hb.2.2.2.2 (h3 _ _) h2 hc.1 hc.2.1.1 hc.2.1.2 hc.2.2;refine go q _ _ _ _ hq (hz.snoc hqd fun hne _=>⟨?_,fun k c v hl=>by rw [hql] at hl;cases hl⟩) h1;rw [hqw];cases pz with
    |none=>exact absurd rfl hne
    |some x=>simpa [qg8] using hlater
   ·split at h1<;>try (cases h1;done)
    rename_i hc;rw [X3] at hc;obtain ⟨hfst,hok⟩:=hc;have hpz:pz=none:=by cases pz with|none=>rfl|some x=>cases hfst
    subst hpz;unfold wl2 at hok;simp only [X3] at hok;obtain ⟨k1,k2,k3,k4⟩:=hok;have hnb:Hc.length<=st'.H.length:=by have:=h2.len;rwa [zq8] at this
    have hd:=h.dies hB ho hb.1 st'.H.length hnb;refine go _ (some (ps.length,Kp a ⟨Fp,yn6 T B tch Hc st'.H⟩)) _ _ _ hd ⟨a,yn6 T B tch Hc st'.H,⟨⟨⟨o,⟨ps.length,Hc.length,st'.H.length,[],[],none⟩,true,[],[],.raw undef,[],true,none⟩,tch,F,zl8 T tch Hc 0,st'.H,_,?_,rfl,?_,hb.2.1,hb.2.2.1,h3 _ _,h2,zq8,fun e he=>?_,fun e he=>?_,rfl,fun t x hx=>?_,fun t x hx i hi=>zx3 hb.2.2.2.1 i (ju5 hx i hi),fun f hf i hi=>?_,?_,fun e he=>?_,?_⟩,fun q hq hqd=>?_,fun q hq hs hw=>?_,fun f hf i hi=>?_,by simpa using k2⟩,rfl⟩ h1
    ·rw [Z2 (Nat.le_refl _)];simp
    ·show match o.guard with|none=>True|some (g,b)=>_
     split
     ·trivial
     ·rename_i g b hgd;rw [hgd] at hg;simp only at hg;rw [Z7 (Nat.le_refl _),List.take_length];exact hg
    ·rw [Z7 (Nat.le_refl _),List.take_length,yn0,h.hc e he,Nat.zero_add];rfl
    ·obtain ⟨f,g1,g2⟩:=htl e he;have hlt:=(X2.1 g1).1;rw [h.hc e hlt] at g1;simp only [X0] at g1;rw [Z7 (Nat.le_refl _),List.take_length];exact ⟨hlt,by rw [g1];exact g2⟩
    ·rw [<-hF] at hx;obtain ⟨g1,g2⟩:=zw7 hx;rw [Z7 (Nat.le_refl _),List.take_length];exact ⟨g1,by rw [<-h.ff];exact g2⟩
    ·have:=Y8.1 hb.2.2.2.2 f hf;exact zx3 this i hi
    ·rw [Z7 (Nat.le_refl _),List.take_length];intro r' hr';rcases yz8 h.recs h.tr.dlocs k1 r' hr' with g1|⟨g1,_,g3,_⟩
     ·exact .inl g1
     ·exact .inr ⟨g1,g3⟩
    ·rw [Z7 (Nat.le_refl _),List.take_length];have hle:=h.le;unfold yn6;rw [Z3,if_pos he,yq7 hnb,if_pos (by omega),Nat.zero_add];split
     ·have hlt:e<st'.H.length:=by omega
      rw [Y0 hlt];rfl
     ·rw [h.hc e (by omega)]
    ·have hle:=h.le;unfold yn6;rw [Y6,zx2 hnb];omega
    ·rcases X4.1 hq with hq|hq
     ·rw [hz q hq] at hqd;cases hqd
     ·simp at hq;subst hq;exact .inl rfl
    ·rcases X4.1 hq with hq|hq
     ·have hm:=Y8.1 k3 q.d (by rw [h.recs];exact List.mem_map.2 ⟨q,hq,rfl⟩);rw [Bool.or_eq_true] at hm;rcases hm with hm|hm
      ·exact zq5 ops.size _ _ (zc5.1 hm)
      ·rw [X3] at hm;rcases hw with hw|⟨k0,c0,v0,hl0⟩
       ·exact absurd (by simpa using hm.1) hw
       ·have h1:=h.tr.dlocs q hq;rw [hl0] at h1;have h2:q.d.isSt=true:=by unfold DR.isSt;rw [h1];rfl
        rw [h2] at hm;simp at hm
     ·simp at hq;subst hq;cases hs
    ·have:=Y8.1 k4 f hf;exact zx3 this i hi
  have hpass: ∀FF,AccD P C ops n B F0 H0 ps FF Hc recs->(match o.guard with
    |none=>False
    |some (g,b)=> ∃rg∈ps,rg.d.j=g/\(∃d,rg.o.dst=some d)/\(rg.a=cB T (!b)\/ ∃u,rg.a=.raw (.tuple u)))->
    jg9 T n o ps.length pz FF Hc recs Gr=some r-> ∃rs pz' FF' Hc' recs',AccD P C ops n B F0 H0 rs FF' Hc' recs'/\PzOk P C ops B F0 H0 Fp Kp rs pz'/\rs.length=ops.size/\(match pz' with|none=>K ⟨FF',Hc'⟩|some (_,kf)=>kf)=some r:=by
   intro FF h hg hp;unfold jg9 at hp;split at hp<;>try (cases hp;done)
   rename_i hd;obtain ⟨q,hq,hqd,hqs⟩:=h.skip ho hd hg;exact go q _ _ _ _ hq (hz.snoc hqd fun _ hs=>(by rw [hqs] at hs;cases hs)) hp
  unfold ya6 at hp;simp only at hp;split at hp
  ·rename_i hdead;have hp:jg9 T n o ps.length pz FF Hc recs Gr=some r:=hp;unfold jg9 at hp;split at hp<;>try (cases hp;done)
   rename_i hd;have hq:=h.dies hB ho hd Hc.length (Nat.le_refl _);rw [Nat.sub_self,List.replicate_zero,List.append_nil] at hq;cases pz with
   |none=>cases hdead
   |some x=>
    obtain ⟨j0,kf⟩:=x;obtain ⟨a,core,g1,g2⟩:=hz;exact go _ (some (j0,kf)) _ _ _ hq ⟨a,core,g1.snoc (fun _=>.inr (zq5 ops.size _ _ (zc5.1 hdead))) fun hs=>(by cases hs),g2⟩ hp
  split at hp
  ·rename_i hg;exact htake FF h (by rw [hg];trivial) hp
  ·rename_i g b hg;split at hp
   ·cases hp
   ·rename_i d hdg;have hgl:=hk.guard ho hg;have hgg:ps[g]?=some ps[g]:=Y0 hgl;have hrk:=h.tr g _ hgg;have hidx:ps[g].d.j=g:=by rw [hrk.idx,Y6];omega
    have hop:=hrk.op;rw [hidx] at hop;have hdst:ps[g].o.dst=some d:=by
     unfold kf8 at hdg;rw [hop] at hdg;exact hdg
    have hff:FF.get T d=some ps[g].a:=by
     rw [h.ff,yh6 (X6 hgg) hdst fun r' hr' hd'=>h.tr.uniq hk hr' (X6 hgg) hd' hdst];rfl
    have hmem:=X6 hgg;split at hp
    ·rename_i c hc;have ha:ps[g].a=cB T c:=by rw [hff] at hc;exact X5 hc
     rcases zn3 hp with ⟨hct,hp⟩|⟨hct,hp⟩
     ·have hct:c=true:=hct;subst hct;have h':=h.again (d:=d) (a:=cB T true) (by rw [hff,ha]);cases b with
      |true=>exact htake _ h' (by rw [hg];exact ⟨_,hmem,hidx,⟨d,hdst⟩,ha⟩) hp
      |false=>exact hpass _ h' (by rw [hg];exact ⟨_,hmem,hidx,⟨d,hdst⟩,.inl ha⟩) hp
     ·have hct:c=false:=hct;subst hct;have h':=h.again (d:=d) (a:=cB T false) (by rw [hff,ha]);cases b with
      |true=>exact hpass _ h' (by rw [hg];exact ⟨_,hmem,hidx,⟨d,hdst⟩,.inl ha⟩) hp
      |false=>exact htake _ h' (by rw [hg];exact ⟨_,hmem,hidx,⟨d,hdst⟩,ha⟩) hp
    ·rename_i u hc;have ha:ps[g].a=.raw (.tuple u):=by rw [hff] at hc;exact X5 hc
     exact hpass FF h (by rw [hg];exact ⟨_,hmem,hidx,⟨d,hdst⟩,.inr ⟨u,ha⟩⟩) hp
    ·cases hp
end
end Go.X
