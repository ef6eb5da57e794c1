import Derived.Test.YthhhfnfgmijggaaGreatXG
namespace Go.X
open Go.RowKit Go.V
section
variable {T:Tab}
def mkH (N:Nat) (f:Nat->Ent T.U):List (Ent T.U):=(List.range N).map f
theorem zn5 {N:Nat} {f:Nat->Ent T.U}:(mkH N f).length=N:=by simp [mkH]
theorem zf8 {N:Nat} {f:Nat->Ent T.U} {e:Nat} {x:Ent T.U}:(mkH N f)[e]?=some x↔e<N/\f e=x:=by
 unfold mkH;rw [W0];by_cases h:e<N
 ·rw [List.getElem?_range h];simp [h]
 ·rw [Y5 (by simpa using h)];simp [h]
def mkF (f:Nat->Option (AV T.U)):Nat->AF T
 |0=> []
 |n+1=>match f n with|some a=>(n,a)::mkF f n|none=>mkF f n
theorem zf6 {f:Nat->Option (AV T.U)} {t:Nat} {a:AV T.U}: ∀ {n:Nat},(mkF f n).get T t=some a↔t<n/\f t=some a
 |0=>by simp [mkF,AF.get]
 |n+1=>by
  unfold mkF;by_cases htn:t=n
  ·subst htn;split
   ·rename_i b hb;simp only [AF.get,Nat.beq_refl];constructor
    ·intro h;exact ⟨by omega,by rw [hb];exact h⟩
    ·intro h;rw [hb] at h;exact h.2
   ·rename_i hb;rw [zf6];constructor
    ·intro h;omega
    ·intro h;rw [hb] at h;cases h.2
  ·have hne:Nat.beq n t=false:=by cases hb:Nat.beq n t;rfl;exact absurd (X1 hb).symm htn
   split
   ·simp only [AF.get,hne];rw [zf6];constructor<;>intro h<;>exact ⟨by omega,h.2⟩
   ·rw [zf6];constructor<;>intro h<;>exact ⟨by omega,h.2⟩
def zt8 (a:Act):Nat->PF
 |0=> []
 |n+1=>(n,a.tmps.getD n undef)::zt8 a n
theorem zl2 {a:Act} {t:Nat} {v:Value}: ∀ {n:Nat},(zt8 a n).get t=some v↔t<n/\a.tmps.getD t undef=v
 |0=>by simp [zt8,PF.get]
 |n+1=>by
  simp only [zt8,PF.get];by_cases htn:t=n
  ·subst htn;simp [Nat.beq_refl]
  ·have hne:Nat.beq n t=false:=by cases hb:Nat.beq n t;rfl;exact absurd (X1 hb).symm htn
   rw [hne];simp only;rw [zl2];constructor<;>intro h<;>exact ⟨by omega,h.2⟩
theorem yj1 {a:Act} {n:Nat} {ds:List Deferred} (h1:a.tmps.size=n) (h2:a.defers=ds):Fr n ds (zt8 a n) a:=⟨h1,h2,fun i v hv=>by
 obtain ⟨h3,h4⟩:=zl2.1 hv;exact ⟨h4,h3⟩⟩
end
section
variable {T:Tab} {P:Program} {C:Ctx T} {ops:Array Oper} {n B:Nat} {F0:AF T} {H0:List (Ent T.U)} {rs:List (Rec T)}
theorem TrOk.idx (h:TrOk P C ops n B F0 H0 rs) {j:Nat} {r:Rec T} (hr:rs[j]?=some r):r.d.j=j:=by
 rw [(h j r hr).idx,Y6,Nat.min_eq_left (Nat.le_of_lt (X2.1 hr).1)]
theorem zr5 {i j:Nat} {r:Rec T} (hij:i<j) (hr:rs[i]?=some r):r∈rs.take j:=X6 (i:=i) (by rw [Z3,if_pos hij];exact hr)
theorem TrOk.ord (h:TrOk P C ops n B F0 H0 rs) {i j:Nat} {r q:Rec T} (hij:i<j) (hr:rs[i]?=some r) (hq:rs[j]?=some q):r.d.ne<=q.d.nb:=(h j q hq).mono r (zr5 hij hr)
theorem zk0 {r:Rec T} {e:Nat} (h:upR r e≠none):(r.skip=false/\r.loc=none)/\((e<r.d.nb/\e∈r.d.tch/\e∈r.d.wr)\/(r.d.nb<=e/\e<r.H1.length)):=by
 unfold upR at h;split at h
 ·exact absurd rfl h
 ·rename_i hs;split at h
  ·exact absurd rfl h
  ·rename_i hl;refine ⟨⟨hs,hl⟩,?_⟩;split at h
   ·rename_i hlt;split at h
    ·rename_i h2;exact .inl ⟨hlt,h2.1,h2.2⟩
    ·exact absurd rfl h
   ·rename_i hlt;refine .inr ⟨by omega,?_⟩;apply Classical.byContradiction;intro hn;exact h (Y5 (by omega))
theorem jg3 {d:DR} {e:Nat} (h:d.wrE e=false):e∉d.wr/\ ¬(d.nb<=e/\e<d.ne):=by
 unfold DR.wrE at h;simp only [Bool.or_eq_false_iff,Bool.and_eq_false_imp] at h;refine ⟨fun hm=>(by rw [zc5.2 hm] at h;cases h.1),fun ⟨h1,h2⟩=>?_⟩;have:=h.2 (W2 h1);rw [show Nat.blt e d.ne=true by rw [Nat.blt_eq];exact h2] at this;cases this
theorem TrOk.later (h:TrOk P C ops n B F0 H0 rs) {D:Nat->Bool} (hcl: ∀i k,D i=true->Tp ops i k->D k=true) {j:Nat} {r:Rec T} (hr:rs[j]?=some r) (hD:D j=false) {e:Nat} (he:e∈r.d.tch/\e<r.d.nb\/r.d.nb<=e/\e<r.d.ne) {i:Nat} {q:Rec T} (hq:rs[i]?=some q) (hji:j<i) (hu:jf9 q e):D i=false:=by
 cases hDi:D i with
 |false=>rfl
 |true=>
  exfalso;have hqk:=(h i q hq);have hord:=h.ord hji hr hq;have hle:=(h j r hr).le.2;have hnot: ¬Tp ops q.d.j r.d.j:=fun t=>by
   rw [h.idx hq,h.idx hr] at t;have:=hcl i j hDi t;rw [hD] at this;cases this
  rcases hu with hu|⟨c,v,hl⟩
  ·obtain ⟨⟨hs,hln⟩,hc⟩:=zk0 hu;rcases (hqk.take hs hln).chk r (zr5 hji hr) with hchk|hchk
   ·exact hnot hchk
   ·rcases hc with ⟨g1,g2,g3⟩|⟨g1,g2⟩
    ·rcases he with ⟨k1,k2⟩|⟨k1,k2⟩
     ·exact hchk.wr e g3 k1
     ·exact (jg3 (hchk.tch e g2)).2 ⟨k1,k2⟩
    ·rcases he with ⟨k1,k2⟩|⟨k1,k2⟩<;>omega
  ·rcases (hqk.lok _ _ _ hl).chk r (zr5 hji hr) with hchk|hchk
   ·exact hnot hchk
   ·rcases he with ⟨k1,k2⟩|⟨k1,k2⟩
    ·exact hchk.l4 e c v hl k1
    ·exact (jg3 (hchk.l3 e c _ hl)).2 ⟨k1,k2⟩
theorem yj8 {j:Nat} {r:Rec T} (hr:rs[j]?=some r):rs=rs.take j++r::rs.drop (j+1):=by
 obtain ⟨hlt,hg⟩:=X2.1 hr;rw [<-hg,<-List.drop_eq_getElem_cons hlt,Q7]
theorem ye4 {j:Nat} {q:Rec T} (h:q∈rs.drop (j+1)): ∃i,j<i/\rs[i]?=some q:=by
 obtain ⟨k,hk⟩:=Y9.1 h;rw [Q5] at hk;exact ⟨j+1+k,by omega,hk⟩
theorem zj9 {j:Nat} {q:Rec T} (h:q∈rs.take j): ∃i,i<j/\rs[i]?=some q:=by
 obtain ⟨k,hk⟩:=Y9.1 h;rw [Z3] at hk;split at hk
 ·rename_i hlt;exact ⟨k,hlt,hk⟩
 ·cases hk
theorem TrOk.touch (h:TrOk P C ops n B F0 H0 rs) {D:Nat->Bool} (hcl: ∀i k,D i=true->Tp ops i k->D k=true) {j:Nat} {r:Rec T} (hr:rs[j]?=some r) (hs:r.skip=false) (hln:r.loc=none) (hD:D j=false) (hpre: ∀k,Tp ops j k->D k=true) {e:Nat} (he:e∈r.d.tch):
  hF D rs (base H0) e=hF zi9 (rs.take j) (base H0) e:=by
 have hrk:=h j r hr;have htk:=hrk.take hs hln;have henb:=(htk.live e he).1
 conv=>lhs;rw [yj8 hr]
 rw [zz5];show hF D (rs.drop (j+1)) (match D r.d.j with|true=>_|false=>hF D (rs.take j) (base H0)) e=_;rw [h.idx hr,hD];simp only;rw [zo9 fun q hq hDq hu=>?_]
 ·refine zx8 rfl fun q hq hu=>?_;obtain ⟨i,hi,hqi⟩:=zj9 hq;show D q.d.j=true;rw [h.idx hqi];rcases htk.chk q hq with hc|hc
  ·rw [h.idx hr,h.idx hqi] at hc;exact hpre i hc
  ·exfalso;have hw:=jg3 (hc.tch e he);rcases hu with hu|⟨c,v,hl⟩
   ·obtain ⟨⟨hqs,hql⟩,hcc⟩:=zk0 hu;rcases hcc with ⟨_,_,g3⟩|⟨g1,g2⟩
    ·exact hw.1 g3
    ·rw [((h i q hqi).take hqs hql).ne] at g2;exact hw.2 ⟨g1,g2⟩
   ·exact hc.l1 e c v hl he
 ·obtain ⟨i,hi,hqi⟩:=ye4 hq;have:=h.later hcl hr hD (.inl ⟨he,henb⟩) hqi hi hu;rw [h.idx hqi,this] at hDq;cases hDq
theorem TrOk.laterL (h:TrOk P C ops n B F0 H0 rs) {D:Nat->Bool} (hcl: ∀i k,D i=true->Tp ops i k->D k=true) {j:Nat} {r:Rec T} (hr:rs[j]?=some r) (hD:D j=false) {k c:Nat} {sv:Option (AV T.U)} (hl:r.loc=some (k,c,sv)) {i:Nat} {q:Rec T} (hq:rs[i]?=some q) (hji:j<i) (hDi:D i=true) (hu:jf9 q k): ∃c' v',q.loc=some (k,c',some v')/\c≠c':=by
 have hqk:=h i q hq;have hrl:=(h j r hr).lok _ _ _ hl;have hord:=h.ord hji hr hq;have hnot: ¬Tp ops q.d.j r.d.j:=fun t=>by
  rw [h.idx hq,h.idx hr] at t;have:=hcl i j hDi t;rw [hD] at this;cases this
 rcases hu with hu|⟨c',v',hl'⟩
 ·exfalso;obtain ⟨⟨hs,hln⟩,hc⟩:=zk0 hu;rcases (hqk.take hs hln).chk r (zr5 hji hr) with hchk|hchk
  ·exact hnot hchk
  ·rcases hc with ⟨g1,g2,g3⟩|⟨g1,g2⟩
   ·exact hchk.l2 k c sv hl g3
   ·have:=hrl.lt;have:=hrl.ne;omega
 ·rcases (hqk.lok _ _ _ hl').chk r (zr5 hji hr) with hchk|hchk
  ·exact absurd hchk hnot
  ·exact ⟨c',v',hl',hchk.l5 k c' _ c sv hl' hl (.inl rfl)⟩
theorem TrOk.touchL (h:TrOk P C ops n B F0 H0 rs) {D:Nat->Bool} (hcl: ∀i k,D i=true->Tp ops i k->D k=true) {j:Nat} {r:Rec T} (hr:rs[j]?=some r) {k c:Nat} {sv:Option (AV T.U)} (hl:r.loc=some (k,c,sv)) (hD:D j=false) (hpre: ∀k,Tp ops j k->D k=true):
  simE c (hF D rs (base H0) k) (hF zi9 (rs.take j) (base H0) k):=by
 have hrl:=(h j r hr).lok _ _ _ hl;have e1:hF D rs (base H0) k=hF D (rs.drop (j+1)) (hF D (rs.take j) (base H0)) k:=by
  conv=>lhs;rw [yj8 hr]
  rw [zz5];show hF D (rs.drop (j+1)) (match D r.d.j with|true=>_|false=>_) k=_;rw [h.idx hr,hD]
 have e2:hF zi9 (rs.take j) (base H0) k=hF (fun _=>false) (rs.drop (j+1)) (hF zi9 (rs.take j) (base H0)) k:=(zo9 fun _ _ hq=>by cases hq).symm;rw [e1,e2];refine vl2 (vl2 (.inl rfl) fun q hq hu=>?_) fun q hq hu=>?_
 ·obtain ⟨i,hi,hqi⟩:=zj9 hq;rcases hrl.chk q hq with hc|hc
  ·rw [h.idx hr,h.idx hqi] at hc;left;rw [h.idx hqi,hpre i hc];rfl
  ·rcases hu with hu|⟨c',v',hl'⟩
   ·exfalso;have hw:=jg3 (hc.l3 k c sv hl);obtain ⟨⟨hqs,hql⟩,hcc⟩:=zk0 hu;rcases hcc with ⟨_,_,g3⟩|⟨g1,g2⟩
    ·exact hw.1 g3
    ·rw [((h i q hqi).take hqs hql).ne] at g2;exact hw.2 ⟨g1,g2⟩
   ·exact .inr ⟨c',v',hl',hc.l5 k c sv c' _ hl hl' (.inr rfl)⟩
 ·obtain ⟨i,hi,hqi⟩:=ye4 hq;cases hDi:D q.d.j with
  |false=>exact .inl rfl
  |true=>
   rw [h.idx hqi] at hDi;obtain ⟨c',v',h1,h2⟩:=h.laterL hcl hr hD hl hqi hi hDi hu;exact .inr ⟨c',v',h1,Ne.symm h2⟩
def zi5 (D:Nat->Bool) (j:Nat):Nat->Bool:=fun i=>if i=j then true else D i
theorem TrOk.put (h:TrOk P C ops n B F0 H0 rs) {D:Nat->Bool} (hcl: ∀i k,D i=true->Tp ops i k->D k=true) {j:Nat} {r:Rec T} (hr:rs[j]?=some r) (hD:D j=false) (e:Nat):
  hF (zi5 D j) rs (base H0) e=upG r e (hF D rs (base H0) e):=by
 have hne: ∀(i:Nat) (q:Rec T),rs[i]?=some q->i≠j->zi5 D j q.d.j=D q.d.j:=fun i q hq hi=>by
  unfold zi5;rw [h.idx hq,if_neg hi]
 have hj:zi5 D j r.d.j=true:=by unfold zi5;rw [h.idx hr,if_pos rfl]
 have e1:hF (zi5 D j) (rs.take j) (base H0) e=hF D (rs.take j) (base H0) e:=zx8 rfl fun q hq _=>by
  obtain ⟨i,hi,hqi⟩:=zj9 hq;exact hne i q hqi (by omega)
 have lhs:hF (zi5 D j) rs (base H0) e=hF (zi5 D j) (rs.drop (j+1)) (fun e=>upG r e (hF (zi5 D j) (rs.take j) (base H0) e)) e:=by
  conv=>lhs;rw [yj8 hr]
  rw [zz5];show hF (zi5 D j) (rs.drop (j+1)) (match zi5 D j r.d.j with|true=>_|false=>_) e=_;rw [hj]
 have rhs:hF D rs (base H0) e=hF D (rs.drop (j+1)) (hF D (rs.take j) (base H0)) e:=by
  conv=>lhs;rw [yj8 hr]
  rw [zz5];show hF D (rs.drop (j+1)) (match D r.d.j with|true=>_|false=>_) e=_;rw [h.idx hr,hD]
 have hdr: ∀q∈rs.drop (j+1),zi5 D j q.d.j=D q.d.j:=fun q hq=>by
  obtain ⟨i,hi,hqi⟩:=ye4 hq;exact hne i q hqi (by omega)
 have lhs2:hF (zi5 D j) rs (base H0) e=hF D (rs.drop (j+1)) (fun e=>upG r e (hF (zi5 D j) (rs.take j) (base H0) e)) e:=by
  rw [lhs];exact zx8 rfl fun q hq _=>hdr q hq
 rw [lhs2,rhs];by_cases hu:jf9 r e
 ·rcases hu with hu|⟨c,v,hl⟩
  ·obtain ⟨⟨hs,hln⟩,hc⟩:=zk0 hu;have no: ∀q∈rs.drop (j+1),D q.d.j=true-> ¬jf9 q e:=fun q hq hDq hq2=>by
    obtain ⟨i,hi,hqi⟩:=ye4 hq;have hh:e∈r.d.tch/\e<r.d.nb\/r.d.nb<=e/\e<r.d.ne:=by
     rcases hc with ⟨g1,g2,_⟩|⟨g1,g2⟩
     ·exact .inl ⟨g2,g1⟩
     ·exact .inr ⟨g1,by rw [<-((h j r hr).take hs hln).ne];exact g2⟩
    have:=h.later hcl hr hD hh hqi hi hq2;rw [h.idx hqi,this] at hDq;cases hDq
   rw [zo9 no,zo9 no,e1]
  ·have up: ∀x,upG r e x=yc8 c v x:=fun x=>by unfold upG;rw [hl];simp only [if_true]
   rw [up];refine vt7 (by rw [up,e1]) fun q hq hDq hq2=>?_;obtain ⟨i,hi,hqi⟩:=ye4 hq;rw [h.idx hqi] at hDq;exact h.laterL hcl hr hD hl hqi hi hDq hq2
 ·rw [yt2 hu];exact zx8 (by rw [yt2 hu];exact e1) fun q hq _=>rfl
def ju3 {U:Nat->Type}:Ent U->Bool| .row _ _ _=>true|_=>false
theorem vi8 {c:Nat} {v:AV T.U} {x:Ent T.U}:ju3 (yc8 c v x)=ju3 x:=by
 cases x with
 |drow e d fe xs op=>cases op with
  |none=>rfl
  |some p=>obtain ⟨a,cs⟩:=p;rfl
 |_=>rfl
theorem TrOk.rowFrom (h:TrOk P C ops n B F0 H0 rs) {y:Nat} (hy:y<B): ∀(m:Nat) (D:Nat->Bool),ju3 (hF D (rs.take m) (base H0) y)=true->ju3 (base H0 y)=true
 |0,D,hr=>hr
 |m+1,D,hr=>by
  by_cases hm:m<rs.length
  ·rw [List.take_succ_eq_append_getElem hm,zz5] at hr;have hg:rs[m]?=some rs[m]:=Y0 hm;generalize rs[m]=r at hg hr;have hr:ju3 ((match D r.d.j with|true=>fun e=>upG r e (hF D (rs.take m) (base H0) e)|false=>hF D (rs.take m) (base H0)) y)=true:=hr;cases hD:D r.d.j with
   |false=>rw [hD] at hr;exact h.rowFrom hy m D hr
   |true=>
    rw [hD] at hr;have hr:ju3 (upG r y (hF D (rs.take m) (base H0) y))=true:=hr;unfold upG at hr;split at hr
    ·split at hr
     ·rw [vi8] at hr;exact h.rowFrom hy m D hr
     ·exact h.rowFrom hy m D hr
    ·cases hu:upR r y with
     |none=>rw [hu] at hr;exact h.rowFrom hy m D hr
     |some x=>
      rw [hu] at hr;have hrk:=h m r hg;obtain ⟨⟨hs,hln⟩,hc⟩:=zk0 (by rw [hu];simp:upR r y≠none);have htk:=hrk.take hs hln;have hle:=hrk.le.1;rcases hc with ⟨g1,g2,g3⟩|⟨g1,_⟩
      ·have hx:r.H1[y]?=some x:=by
        unfold upR at hu;rw [hs,hln] at hu;simp only at hu;rwa [if_pos g1,if_pos ⟨g2,g3⟩] at hu
       have hr:ju3 x=true:=hr;cases x with
       |row e t xs=>
        obtain ⟨ys,h1⟩:=htk.keeps.row y e t xs (by rw [htk.hlen];exact g1) hx;rw [htk.hm y g1,if_pos g2] at h1;refine h.rowFrom hy m zi9 ?_;rw [X5 h1];rfl
       |_=>cases hr
      ·omega
  ·rw [Q3 (by omega)] at hr;refine h.rowFrom hy m D ?_;rw [Q3 (by omega)];exact hr
theorem TrOk.free (h:TrOk P C ops n B F0 H0 rs) (hB:H0.length=B) {D:Nat->Bool} (hcl: ∀i k,D i=true->Tp ops i k->D k=true) {j:Nat} {r:Rec T} (hr:rs[j]?=some r) (hD:D j=false) {e:Nat} (h1:r.d.nb<=e) (h2:e<r.d.ne):hF D rs (base H0) e=.gone:=by
 have hle:=(h j r hr).le;rw [zo9 fun q hq hDq hu=>?_]
 ·unfold base;rw [Y5 (by omega)];rfl
 ·obtain ⟨i,hqi⟩:=Y9.1 hq;rw [h.idx hqi] at hDq;rcases Nat.lt_trichotomy i j with hij|rfl|hij
  ·have ho:=h.ord hij hqi hr;have:=(h i q hqi).le.2;rcases hu with hu|⟨c,v,hl⟩
   ·obtain ⟨⟨hs,hln⟩,hc⟩:=zk0 hu;rcases hc with ⟨g1,_⟩|⟨_,g2⟩
    ·omega
    ·rw [((h i q hqi).take hs hln).ne] at g2;omega
   ·have:=((h i q hqi).lok _ _ _ hl).lt;omega
  ·rw [hD] at hDq;cases hDq
  ·have:=h.later hcl hr hD (.inr ⟨h1,h2⟩) hqi hij hu;rw [this] at hDq;cases hDq
theorem TrOk.okId (h:TrOk P C ops n B F0 H0 rs) {D:Nat->Bool} (hcl: ∀i k,D i=true->Tp ops i k->D k=true) {j:Nat} {r:Rec T} (hr:rs[j]?=some r) (hD:D j=false) {i:Nat} {q:Rec T} (hq:rs[i]?=some q) (hDi:D i=true) {x:Nat} (hx:gr6 B (rs.take i) ops q x):x<r.d.nb\/r.d.ne<=x:=by
 have hle:=(h j r hr).le;have key: ∀(i:Nat) (q:Rec T),rs[i]?=some q->D i=true->q.d.nb<=x->x<q.d.ne->x<r.d.nb\/r.d.ne<=x:=by
  intro i q hq hDi h1 h2;rcases Nat.lt_trichotomy i j with hij|rfl|hij
  ·have:=h.ord hij hq hr;exact .inl (by omega)
  ·rw [hD] at hDi;cases hDi
  ·have:=h.ord hij hr hq;exact .inr (by omega)
 rcases hx with hx|⟨h1,h2⟩|⟨q',hq',h1,h2,t⟩
 ·exact .inl (by omega)
 ·exact key i q hq hDi h1 h2
 ·obtain ⟨k,hk,hqk⟩:=zj9 hq';rw [h.idx hq,h.idx hqk] at t;exact key k q' hqk (hcl i k hDi t) h1 h2
theorem TrOk.fid (hk:OkD ops n) (h:TrOk P C ops n B F0 H0 rs) (hF0: ∀t a,F0.get T t=some a-> ∀i∈a.ids,i<B) {D:Nat->Bool} (hcl: ∀i k,D i=true->Tp ops i k->D k=true) {j:Nat} {r:Rec T} (hr:rs[j]?=some r) (hD:D j=false) {t:Nat} {a:AV T.U} (ha:fF D rs (F0.get T) t=some a): ∀x∈a.ids,x<r.d.nb\/r.d.ne<=x:=by
 intro x hx;by_cases hw: ∃q∈rs,q.o.dst=some t
 ·obtain ⟨q,hq,hd⟩:=hw;rw [yh6 hq hd fun q' hq' hd'=>h.uniq hk hq' hq hd' hd] at ha;obtain ⟨i,hqi⟩:=Y9.1 hq;rw [h.idx hqi] at ha;cases hDi:D i with
  |false=>
   rw [hDi] at ha;have:=hF0 t a ha x hx;have hle:=(h j r hr).le;exact .inl (by omega)
  |true=>
   rw [hDi] at ha;simp only [X0] at ha;subst ha;cases hs:q.skip with
   |true=>rw [((h i q hqi).skip hs).1] at hx;cases hx
   |false=>
    cases hl:q.loc with
    |none=>exact h.okId hcl hr hD hqi hDi (((h i q hqi).take hs hl).ids x hx)
    |some p=>obtain ⟨k,c,sv⟩:=p;exact h.okId hcl hr hD hqi hDi (((h i q hqi).lok _ _ _ hl).ids x hx)
 ·rw [zj7 fun q hq hd=>hw ⟨q,hq,hd⟩] at ha;have:=hF0 t a ha x hx;have hle:=(h j r hr).le;exact .inl (by omega)
theorem gd6 {D:Nat->Bool} {e x:Nat}: ∀ {rs:List (Rec T)} {f:Nat->Ent T.U},x∈(hF D rs f e).cellIds->x∈(f e).cellIds\/ ∃r∈rs,D r.d.j=true/\((∃y,upR r e=some y/\x∈y.cellIds)\/ ∃c v,r.loc=some (e,c,some v)/\x∈v.ids)
 | [],f,h=>.inl h
 |r::rs,f,h=>by
  rcases gd6 (rs:=rs) (f:=match D r.d.j with|true=>fun e=>upG r e (f e)|false=>f) h with h1|⟨q,h1,h2,h3⟩
  ·cases hD:D r.d.j with
   |false=>rw [hD] at h1;exact .inl h1
   |true=>
    rw [hD] at h1;have h1:x∈(upG r e (f e)).cellIds:=h1;unfold upG at h1;split at h1
    ·rename_i k c v hl;split at h1
     ·rename_i he;subst he;rcases kn9 h1 with h1|h1
      ·exact .inl h1
      ·exact .inr ⟨r,List.mem_cons_self ..,hD,.inr ⟨c,v,hl,h1⟩⟩
     ·exact .inl h1
    ·cases hu:upR r e with
     |none=>rw [hu] at h1;exact .inl h1
     |some y=>rw [hu] at h1;exact .inr ⟨r,List.mem_cons_self ..,hD,.inl ⟨y,hu,h1⟩⟩
  ·exact .inr ⟨q,Z4 _ h1,h2,h3⟩
theorem gn0 {r:Rec T} {e:Nat} {x:Ent T.U} (h:upR r e=some x):(r.skip=false/\r.loc=none)/\x∈r.H1:=by
 obtain ⟨hs,_⟩:=zk0 (by rw [h];simp:upR r e≠none);refine ⟨hs,?_⟩;unfold upR at h;rw [hs.1,hs.2] at h;simp only at h;split at h
 ·split at h
  ·exact X6 h
  ·cases h
 ·exact X6 h
theorem TrOk.hid (h:TrOk P C ops n B F0 H0 rs) (hH0: ∀f∈H0,∀i∈f.cellIds,i<B) {D:Nat->Bool} (hcl: ∀i k,D i=true->Tp ops i k->D k=true) {j:Nat} {r:Rec T} (hr:rs[j]?=some r) (hD:D j=false) {e:Nat}: ∀x∈(hF D rs (base H0) e).cellIds,x<r.d.nb\/r.d.ne<=x:=by
 intro x hx;rcases gd6 hx with hx|⟨q,hq,hDq,h1⟩
 ·unfold base at hx;have hle:=(h j r hr).le;cases hg:H0[e]? with
  |none=>rw [hg] at hx;cases hx
  |some f=>
   rw [hg] at hx;have:=hH0 f (X6 hg) x hx;exact .inl (by omega)
 ·obtain ⟨i,hqi⟩:=Y9.1 hq;rw [h.idx hqi] at hDq;rcases h1 with ⟨y,h1,hx⟩|⟨c,v,hl,hx⟩
  ·obtain ⟨hs,hm⟩:=gn0 h1;exact h.okId hcl hr hD hqi hDq (((h i q hqi).take hs.1 hs.2).cids _ hm x hx)
  ·exact h.okId hcl hr hD hqi hDq (((h i q hqi).lok _ _ _ hl).vids v rfl x hx)
end
end Go.X
