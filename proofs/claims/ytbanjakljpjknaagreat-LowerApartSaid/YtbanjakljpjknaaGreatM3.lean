import Derived.Test.YtbanjakljpjknaaGreatId
import Derived.Test.YtbanjakljpjknaaGreatM2
import Derived.Test.YtbanjakljpjknaaGreatM1
set_option linter.defProp false
namespace Go.Y
open Go.RowKit Go.V Go.X Go.Proofs
def pP (o:Option (v9×v9)):Unit×((Span×Span×Unit)⊕(Unit×Unit)):=((),match o with|some p=>.inl (p.1,p.2,())|none=>.inr ((),()))
def wb4 (u v:v9):qcf g9 u v=some (if max u.Lo v.Lo<=min u.Hi v.Hi then ((⟨max u.Lo v.Lo,min u.Hi v.Hi⟩:Span),true) else ((⟨0,0⟩:Span),false)):=by
 rw [ur7,zc7,j4,yk5,jd2,zc3];unfold za0
 grind
def jr1 {nw:Bool} (s t:v9) (hs:SpOk nw s):X.qv g9 s t=some (woE s t):=by
 obtain ⟨n,e⟩: ∃n:Nat,(g9:Nat)=n+1+1:=⟨999999998,rfl⟩;have h1:=hs.lo;have h2:=hs.le;have h3:=hs.hi;have h4:=jp7 nw;have j1: ∀l h:Int,X.kn6 (n+1) l h t.Lo t.Hi 0 0=some (if h=t.Lo then ⟨l,IntKind.u64.wrap (h-1)⟩ else ⟨l,h⟩):=fun l h=>by
  rw [X.gd2,zc3];simp only [beq_iff_eq]
 have jt:X.vj8 (n+1+1) true s.Lo s.Hi t.Lo t.Hi 0 0=some s:=by rw [X.vb1,j7]
 have jf: ¬s.Lo=s.Hi->t.Lo=t.Hi->X.vj8 (n+1+1) false s.Lo s.Hi t.Lo t.Hi 0 0=some (woE s t):=fun hh ht=>by
  rw [X.vb1,j5,j1,j1];unfold woE;rw [if_neg (c:=s.Lo=s.Hi\/t.Lo≠t.Hi) (fun h=>h.elim hh (fun h=>h ht))];by_cases hl:s.Lo=t.Lo
  ·rw [show (s.Lo==t.Lo)=true by simp [hl],j7,zc8 (x:=s.Lo+1) (by omega),if_neg (show ¬s.Hi=t.Lo by omega),if_pos hl,if_neg (show ¬s.Hi=t.Lo by omega)]
  ·rw [show (s.Lo==t.Lo)=false by simp [hl],j5,if_neg hl];by_cases hr:s.Hi=t.Lo
   ·rw [if_pos hr,if_pos hr,zc8 (x:=s.Hi-1) (by omega)]
   ·rw [if_neg hr,if_neg hr]
 rw [X.zbg0,qd1,j4,qd1,j4,e,jt,jq0,jq0];by_cases hh:s.Lo=s.Hi
 ·rw [W4 hh,j7];unfold woE;rw [if_pos (.inl hh)]
 ·rw [W5 hh,j5];by_cases ht:t.Lo=t.Hi
  ·grind
  ·rw [W5 ht,U1,jt];unfold woE;rw [if_pos (.inr ht)]
def qy8 (op) {nw} (u v) (a:op=19\/op=20) (b:SpOk nw u) (c:SpOk nw v):X.qaw g9 (wW nw u v) op=some (pP (if op=19 then gtE u v else geE u v)):=by
 have d:=b.lo;have e:=b.le;have f:=b.hi;have g:=jp7 nw;have i:=c.lo;have j:=c.le;have k:=c.hi;rcases a with rfl|rfl
 ·rw [X.gl6,show ((19:Int)==17)=false from rfl,show ((19:Int)==18)=false from rfl,show ((19:Int)==19)=true from rfl,j5,j5,j7,zi6,j4,if_pos (show (19:Int)=19 from rfl),yk5,jd2];unfold gtE;by_cases h:u.Hi>v.Lo
  ·rw [if_pos h,show decide ((wW nw u v).a_Hi>(wW nw u v).b_Lo)=true from W4 h,show IntKind.u64.wrap ((wW nw u v).b_Lo+1)=v.Lo+1 from zc8 (x:=v.Lo+1) (by omega),show IntKind.u64.wrap ((wW nw u v).a_Hi-1)=u.Hi-1 from zc8 (x:=u.Hi-1) (by omega)];rfl
  ·rw [if_neg h,show decide ((wW nw u v).a_Hi>(wW nw u v).b_Lo)=false from W5 h];rfl
 ·rw [X.gl6,show ((20:Int)==17)=false from rfl,show ((20:Int)==18)=false from rfl,show ((20:Int)==19)=false from rfl,show ((20:Int)==20)=true from rfl,j5,j5,j5,j7,zi6,j4,if_neg (show ¬((20:Int)=19) by decide),yk5,jd2];unfold geE;by_cases h:u.Hi>=v.Lo
  ·rw [if_pos h,show decide ((wW nw u v).a_Hi>=(wW nw u v).b_Lo)=true from W4 h];rfl
  ·rw [if_neg h,show decide ((wW nw u v).a_Hi>=(wW nw u v).b_Lo)=false from W5 h];rfl
def wm5 (o):(match (pP o).2 with| .inl z=>some ((),.inl (z.2.1,z.1,()))| .inr _=>some ((),.inr ((),())))=some (pP (qt2 o)):=by cases o<;>rfl
def km4 (o):(match (pP o).2 with| .inl z=>some ((),.inl (z.1,z.2.1,()))| .inr _=>some ((),.inr ((),())))=some (pP o):=by cases o<;>rfl
def gp7 (nw u v):X.qcd g9 (wW nw u v)=some (wW nw v u):=by rw [X.ur5];rfl
end Go.Y
namespace Go.Y
open Go.RowKit Go.V Go.X Go.Proofs
def gh9 (nw:Bool) (u v:v9):qab (tW (wW nw u v))=decide (u.Lo=u.Hi/\v.Lo=v.Hi):=by
 rw [yb4,kr4];show (decide (u.Lo=u.Hi)&&decide (v.Lo=v.Hi))=_
 grind
def qy9 (op:Int) {nw:Bool} (u v:v9) (hop:17<=op/\op<=22) (hu:SpOk nw u) (hv:SpOk nw v):X.qap g9 (wW nw u v) op=some (pP (yc3 op u v)):=by
 obtain ⟨n,e⟩: ∃n:Nat,(g9:Nat)=n+1:=⟨999999999,rfl⟩;have h1:=hu.lo;have h2:=hu.le;have h3:=hu.hi;have h4:=jp7 nw;have g1:=hv.lo;have g2:=hv.le;have g3:=hv.hi;rw [X.ul6];unfold yc3;by_cases k1:op=17
 ·subst k1;have em:qcf g9 (⟨(wW nw u v).a_Lo,(wW nw u v).a_Hi⟩:Span) (⟨(wW nw u v).b_Lo,(wW nw u v).b_Hi⟩:Span)=_:=wb4 u v;rw [show ((17:Int)==17)=true from rfl,j7,em,j4,zi6,j4,if_pos (show (17:Int)=17 from rfl)];by_cases h:max u.Lo v.Lo<=min u.Hi v.Hi
  ·rw [if_pos h,if_pos h];rfl
  ·rw [if_neg h,if_neg h];rfl
 rw [show (op==17)=false by simpa using k1,j5,if_neg k1];by_cases k2:op=18
 ·subst k2;have wu:X.qv g9 (⟨u.Lo,u.Hi⟩:Span) (⟨v.Lo,v.Hi⟩:Span)=some (woE u v):=jr1 u v hu;have wv:X.qv g9 (⟨v.Lo,v.Hi⟩:Span) (⟨u.Lo,u.Hi⟩:Span)=some (woE v u):=jr1 v u hv;have j0:X.qa8 (n+1) (wW nw u v).a_Lo (wW nw u v).a_Hi (wW nw u v).b_Lo (wW nw u v).b_Hi (wW nw u v).narrow (wW nw u v).most (wW nw u v).size 0 0 0 0=some (pP (some (woE u v,woE v u))):=by
   show X.qa8 (n+1) u.Lo u.Hi v.Lo v.Hi nw (zh9 nw) (if nw then 32 else 64) 0 0 0 0=_;rw [X.kf8,wu,j4,wv,j4];rfl
  rw [show ((18:Int)==18)=true from rfl,j7,jy4,j4,zi6,j4,zi6,j4,e,j0,gh9,if_pos (show (18:Int)=18 from rfl)];by_cases a:u.Lo=u.Hi/\v.Lo=v.Hi
  ·rw [W4 a,W7,j5];by_cases a3:u.Lo=v.Lo
   ·rw [if_pos (c:=u.Lo=u.Hi/\v.Lo=v.Hi/\u.Lo=v.Lo) ⟨a.1,a.2,a3⟩,
     show (!(((wW nw u v).a_Lo==(wW nw u v).b_Lo)&&((wW nw u v).a_Hi==(wW nw u v).b_Hi)))=false by
      show (!((u.Lo==v.Lo)&&(u.Hi==v.Hi)))=false;rw [show (u.Lo==v.Lo)=true by simp [a3],show (u.Hi==v.Hi)=true by simp;omega];rfl]
    rfl
   ·rw [if_neg (c:=u.Lo=u.Hi/\v.Lo=v.Hi/\u.Lo=v.Lo) (fun h=>a3 h.2.2),
     show (!(((wW nw u v).a_Lo==(wW nw u v).b_Lo)&&((wW nw u v).a_Hi==(wW nw u v).b_Hi)))=true by
      show (!((u.Lo==v.Lo)&&(u.Hi==v.Hi)))=true;rw [show (u.Lo==v.Lo)=false by simp [a3]];rfl]
    rfl
  ·rw [W5 a,U1,j7,if_neg (c:=u.Lo=u.Hi/\v.Lo=v.Hi/\u.Lo=v.Lo) (fun h=>a ⟨h.1,h.2.1⟩)];rfl
 rw [show (op==18)=false by simpa using k2,j5,if_neg k2];by_cases k3:op=19
 ·subst k3;rw [show ((19:Int)==19)=true from rfl,j7,zi6,j4,if_pos (show (19:Int)=19 from rfl),yk5,jd2];unfold gtE;by_cases h:u.Hi>v.Lo
  ·rw [if_pos h,show decide ((wW nw u v).a_Hi>(wW nw u v).b_Lo)=true from W4 h,show IntKind.u64.wrap ((wW nw u v).b_Lo+1)=v.Lo+1 from zc8 (x:=v.Lo+1) (by omega),show IntKind.u64.wrap ((wW nw u v).a_Hi-1)=u.Hi-1 from zc8 (x:=u.Hi-1) (by omega)];rfl
  ·rw [if_neg h,show decide ((wW nw u v).a_Hi>(wW nw u v).b_Lo)=false from W5 h];rfl
 rw [show (op==19)=false by simpa using k3,j5,if_neg k3];by_cases k4:op=20
 ·subst k4;rw [show ((20:Int)==20)=true from rfl,j7,zi6,j4,if_pos (show (20:Int)=20 from rfl),yk5,jd2];unfold geE;by_cases h:u.Hi>=v.Lo
  ·rw [if_pos h,show decide ((wW nw u v).a_Hi>=(wW nw u v).b_Lo)=true from W4 h];rfl
  ·rw [if_neg h,show decide ((wW nw u v).a_Hi>=(wW nw u v).b_Lo)=false from W5 h];rfl
 rw [show (op==20)=false by simpa using k4,j5,if_neg k4];by_cases k5:op=21
 ·subst k5;rw [show ((21:Int)==21)=true from rfl,j7,gp7,j4,qy8 19 v u (.inl rfl) hv hu,j4,if_pos (show (21:Int)=21 from rfl)];exact wm5 _
 ·rw [show (op==21)=false by simpa using k5,j5,show (op==22)=true by simp;omega,j7,gp7,j4,qy8 20 v u (.inr rfl) hv hu,j4,if_neg k5];exact wm5 _
def uj2 (yes:Bool) {nw:Bool} (u v:v9) (hu:SpOk nw u) (hv:SpOk nw v):X.qaf g9 (wW nw u v) yes=some (pP (yd3 yes u v)):=by
 obtain ⟨n,e⟩: ∃n:Nat,(g9:Nat)=n+1:=⟨999999999,rfl⟩;have h1:=hu.lo;have h2:=hu.le;have g1:=hv.lo;have g2:=hv.le;have e0:(zb4 .u64 (wW nw u v).a_Lo (wW nw u v).b_Lo != (0:Int))= !(decide (u.Lo.toNat&&&v.Lo.toNat=0)):=by
  rw [show zb4 .u64 (wW nw u v).a_Lo (wW nw u v).b_Lo=((u.Lo.toNat&&&v.Lo.toNat:Nat):Int) from qn8 hu.u.1 hv.u.1]
  grind
 have j0:X.qr0 (n+1) (wW nw u v).a_Lo (wW nw u v).a_Hi (wW nw u v).b_Lo (wW nw u v).b_Hi (wW nw u v).narrow (wW nw u v).most (wW nw u v).size 0 0 0 0=some (pP (some (u,v))):=by rw [X.kf1];rfl
 have j1:X.jl5 (n+1) (wW nw u v).a_Lo (wW nw u v).a_Hi (wW nw u v).b_Lo (wW nw u v).b_Hi (wW nw u v).narrow (wW nw u v).most (wW nw u v).size 0 0 0 0=some (pP (some (⟨max u.Lo 1,u.Hi⟩,⟨max v.Lo 1,v.Hi⟩))):=by rw [X.kf2,yk5,yk5];rfl
 rw [X.uk1,jy4,j4,zi6,j4,zi6,j4,zi6,j4,zi6,j4,e,j0,j1,e0,gh9];unfold yd3;cases yes with
 |false=>
  rw [U1,j7,if_pos (show false=false from rfl)];by_cases a:u.Lo=u.Hi/\v.Lo=v.Hi
  ·rw [W4 a,W7,j5];by_cases k:u.Lo.toNat&&&v.Lo.toNat=0
   ·grind
   ·rw [if_pos (c:=u.Lo=u.Hi/\v.Lo=v.Hi/\u.Lo.toNat&&&v.Lo.toNat≠0) ⟨a.1,a.2,k⟩,W5 k];rfl
  ·rw [W5 a,U1,j7,if_neg (c:=u.Lo=u.Hi/\v.Lo=v.Hi/\u.Lo.toNat&&&v.Lo.toNat≠0) (fun h=>a ⟨h.1,h.2.1⟩)];rfl
 |true=>
  rw [W7,j5,if_neg (show ¬(true=false) by decide)];by_cases k1:u.Hi>0
  ·rw [show decide ((wW nw u v).a_Hi>0)=true from W4 k1,j7];by_cases k2:v.Hi>0
   ·rw [show decide ((wW nw u v).b_Hi>0)=true from W4 k2,j7];by_cases a:u.Lo=u.Hi/\v.Lo=v.Hi
    ·rw [W4 a,W7,j5];by_cases k:u.Lo.toNat&&&v.Lo.toNat=0
     ·rw [if_neg (c:=u.Hi>0/\v.Hi>0/\ ¬(u.Lo=u.Hi/\v.Lo=v.Hi/\u.Lo.toNat&&&v.Lo.toNat=0)) (fun h=>h.2.2 ⟨a.1,a.2,k⟩),W4 k];rfl
     ·rw [if_pos (c:=u.Hi>0/\v.Hi>0/\ ¬(u.Lo=u.Hi/\v.Lo=v.Hi/\u.Lo.toNat&&&v.Lo.toNat=0)) ⟨k1,k2,fun h=>k h.2.2⟩,W5 k];rfl
    ·rw [W5 a,U1,j7,if_pos (c:=u.Hi>0/\v.Hi>0/\ ¬(u.Lo=u.Hi/\v.Lo=v.Hi/\u.Lo.toNat&&&v.Lo.toNat=0)) ⟨k1,k2,fun h=>a ⟨h.1,h.2.1⟩⟩];rfl
   ·rw [show decide ((wW nw u v).b_Hi>0)=false from W5 k2,j5,if_neg (c:=u.Hi>0/\v.Hi>0/\ ¬(u.Lo=u.Hi/\v.Lo=v.Hi/\u.Lo.toNat&&&v.Lo.toNat=0)) (fun h=>k2 h.2.1)];rfl
  ·rw [show decide ((wW nw u v).a_Hi>0)=false from W5 k1,j5,if_neg (c:=u.Hi>0/\v.Hi>0/\ ¬(u.Lo=u.Hi/\v.Lo=v.Hi/\u.Lo.toNat&&&v.Lo.toNat=0)) (fun h=>k1 h.1)];rfl
def pneg (nw u v x) (h:0<=x/\x<=zh9 nw):X.qae g9 (wW nw u v) x=some (zh1 nw x):=by rw [qk6,yb4,jt6 h];rfl
def pmix (nw u v s) (a:SpOk nw s):X.qav g9 (wW nw u v) s=some (zh1 nw s.Lo != zh1 nw s.Hi):=by rw [vt9,yb4,ku9 a];rfl
def ke7 (op:Int) {nw:Bool} (u v:v9) (hop:23<=op/\op<=26) (hu:SpOk nw u) (hv:SpOk nw v):X.qaq g9 (wW nw u v) op=some (pP (yt9 nw op u v)):=by
 obtain ⟨n,e⟩: ∃n:Nat,(g9:Nat)=n+1:=⟨999999999,rfl⟩;have h1:=hu.lo;have h2:=hu.le;have h3:=hu.hi;have h4:=jp7 nw;have g1:=hv.lo;have g2:=hv.le;have g3:=hv.hi;have mu:X.qav g9 (wW nw u v) (⟨(wW nw u v).a_Lo,(wW nw u v).a_Hi⟩:Span)=some (zh1 nw u.Lo != zh1 nw u.Hi):=pmix nw u v u hu;have mv:X.qav g9 (wW nw u v) (⟨(wW nw u v).b_Lo,(wW nw u v).b_Hi⟩:Span)=some (zh1 nw v.Lo != zh1 nw v.Hi):=pmix nw u v v hv;have bu:X.qae g9 (wW nw u v) u.Lo=some (zh1 nw u.Lo):=pneg nw u v u.Lo (by omega);have bv:X.qae g9 (wW nw u v) v.Lo=some (zh1 nw v.Lo):=pneg nw u v v.Lo (by omega);have jt:X.yy5 (n+1) op true u.Lo u.Hi v.Lo v.Hi nw (zh9 nw) (wW nw u v).size 0 0 0 0=some (pP (some (u,v))):=by rw [X.qh6,j7];rfl
 have ew:IntKind.u8.wrap (IntKind.u8.wrap (op-23)+19)=op-4:=by rw [jg8,jg8];omega
 have jf:X.yy5 (n+1) op false u.Lo u.Hi v.Lo v.Hi nw (zh9 nw) (wW nw u v).size 0 0 0 0=some (pP (if zh1 nw u.Lo=zh1 nw v.Lo then yc3 (op-4) u v else if (op=23\/op=24)↔zh1 nw v.Lo=true then some (u,v) else none)):=by
  have ep:X.qap g9 (wW nw u v) (op-4)=some (pP (yc3 (op-4) u v)):=qy9 (op-4) u v (by omega) hu hv;rw [X.qh6,j5,ew];show j6 (X.qae g9 (wW nw u v) u.Lo) (fun y1=>j6 (X.qae g9 (wW nw u v) v.Lo) (fun y2=>j9 (y1==y2) (j6 (X.qap g9 (wW nw u v) (op-4)) _) (j9 (op==23) (j6 (X.qae g9 (wW nw u v) v.Lo) _) (j6 (X.qae g9 (wW nw u v) v.Lo) _))))=_;rw [bu,j4,bv,j4,ep,j4,j4,j4];by_cases a3:zh1 nw u.Lo=zh1 nw v.Lo
  ·rw [show (zh1 nw u.Lo==zh1 nw v.Lo)=true by simp [a3],j7,if_pos a3];exact km4 _
  ·rw [show (zh1 nw u.Lo==zh1 nw v.Lo)=false by simp [a3],j5,if_neg a3,zi6,j4,zi6,j4];by_cases k:op=23
   ·subst k;cases hx:zh1 nw v.Lo<;>rfl
   ·rw [show (op==23)=false by simpa using k,j5];by_cases k2:op=24
    ·subst k2;cases hx:zh1 nw v.Lo<;>rfl
    ·rw [show (op==24)=false by simpa using k2];cases hx:zh1 nw v.Lo with
     |true=>rw [if_neg (c:=(op=23\/op=24)↔true=true) (fun h=>by have:=h.2 rfl;omega)];rfl
     |false=>rw [if_pos (c:=(op=23\/op=24)↔false=true) ⟨fun h=>by omega,fun h=>by cases h⟩];rfl
 rw [X.ul7,mu,j4,mv,j4,e];show j9 _ (X.yy5 (n+1) op true u.Lo u.Hi v.Lo v.Hi nw (zh9 nw) (wW nw u v).size 0 0 0 0) (X.yy5 (n+1) op _ u.Lo u.Hi v.Lo v.Hi nw (zh9 nw) (wW nw u v).size 0 0 0 0)=_;rw [jt];unfold yt9;by_cases a1:zh1 nw u.Lo=zh1 nw u.Hi
 ·by_cases a2:zh1 nw v.Lo=zh1 nw v.Hi
  ·rw [show (zh1 nw u.Lo != zh1 nw u.Hi)=false by simp [a1],show (zh1 nw v.Lo != zh1 nw v.Hi)=false by simp [a2],j5,jf,if_neg (c:=zh1 nw u.Lo≠zh1 nw u.Hi\/zh1 nw v.Lo≠zh1 nw v.Hi) (fun h=>h.elim (fun h=>h a1) (fun h=>h a2))]
  ·rw [show (zh1 nw u.Lo != zh1 nw u.Hi)=false by simp [a1],show (zh1 nw v.Lo != zh1 nw v.Hi)=true by simp [a2],j5,jt,if_pos (.inr a2)]
 ·rw [show (zh1 nw u.Lo != zh1 nw u.Hi)=true by simp [a1],j7,if_pos (.inl a1)]
end Go.Y
namespace Go.Y
open Go.RowKit Go.V Go.X Go.Proofs
def uj0 (op:Int) (yes:Bool) {nw:Bool} (u v:v9) (hop:17<=op/\op<=27) (hu:SpOk nw u) (hv:SpOk nw v):X.qbf g9 (wW nw u v) op yes=some (pP (qd7 nw op yes u v)):=by
 obtain ⟨n,e⟩: ∃n:Nat,(g9:Nat)=n+1:=⟨999999999,rfl⟩;have j0: ∀p:Int,17<=p/\p<=26->X.qr8 (n+1) p (wW nw u v).a_Lo (wW nw u v).a_Hi (wW nw u v).b_Lo (wW nw u v).b_Hi (wW nw u v).narrow (wW nw u v).most (wW nw u v).size 0 0 0 0=some (pP (if p>=23 then yt9 nw p u v else yc3 p u v)):=fun p hp=>by
  rw [X.kg3];show j9 (decide (p>=23)) (j6 (X.qaq g9 (wW nw u v) p) _) (j6 (X.qap g9 (wW nw u v) p) _)=_;by_cases k:p>=23
  ·rw [W4 k,j7,ke7 p u v (by omega) hu hv,j4,if_pos k];exact km4 _
  ·rw [W5 k,j5,qy9 p u v (by omega) hu hv,j4,if_neg k];exact km4 _
 rw [X.un8,e];unfold qd7;by_cases k:op=27
 ·rw [show (op==27)=true by simp [k],j7,<-e,uj2 yes u v hu hv,j4,if_pos k];exact km4 _
 ·rw [show (op==27)=false by simp [k],j5,if_neg k];cases yes with
  |true=>rw [W7,j5,j0 op (by omega)];rfl
  |false=>
   have ho:=kv8 (op:=op) (by omega);rw [U1,j7,X.zah2,j4,if_pos (by omega)];have hg:([0,0,0,0,0,0,0,0,0,0,0,0,0,0,0,0,0,18,17,22,21,20,19,26,25,24,23,27]:List Int).getD op.toNat 0=ym2 op:=by
    have hh:op=17\/op=18\/op=19\/op=20\/op=21\/op=22\/op=23\/op=24\/op=25\/op=26:=by omega
    rcases hh with rfl|rfl|rfl|rfl|rfl|rfl|rfl|rfl|rfl|rfl<;>rfl
   grind
def wm3 (op:Int) (nw yes:Bool) (a b:v9) (ha:za5 a.Lo/\za5 a.Hi) (hb:za5 b.Lo/\za5 b.Hi):X.qan g9 op nw yes a b=some ((),((ifE op nw yes a b).1,(ifE op nw yes a b).2.1,(ifE op nw yes a b).2.2,())):=by
 obtain ⟨n,e⟩: ∃n:Nat,(g9:Nat)=n+1:=⟨999999999,rfl⟩;rw [X.ul3,zc7,j4,zc7,j4,zr6,j4,e];unfold ifE;by_cases h1:op<17
 ·rw [W4 h1,j7,if_neg (fun h=>by have:=h.1.1;omega)]
 rw [W5 h1,j5];by_cases h2:op>27
 ·rw [W4 h2,j7,if_neg (fun h=>by have:=h.1.2;omega)]
 rw [W5 h2,j5];by_cases h3:a.Lo<=a.Hi
 ·rw [show za0 a=true from W4 h3,W7,j5];by_cases h4:b.Lo<=b.Hi
  ·rw [show za0 b=true from W4 h4,W7,j5,if_pos ⟨by omega,h3,h4⟩,<-e,uj0 op yes _ _ (by omega) (zr3 ha h3) (zr3 hb h4),j4,e];cases qd7 nw op yes (qg a nw) (qg b nw) with
   |none=>show j6 (X.qgb 0 0 0 0 false) _=_;rw [X.zah9,j4];rfl
   |some p=>
    have j0: ∀x:v9,X.jl8 (n+1) x.Lo x.Hi p.2.Lo p.2.Hi false b.Lo b.Hi (qg a nw).Lo (qg a nw).Hi (qg b nw).Lo (qg b nw).Hi nw (zh9 nw) (if nw then 32 else 64)=some ((),(x,if b.Hi>zh9 nw then b else p.2,true,())):=fun x=>by
     rw [X.kf7,X.go2,j4,X.go2,j4];by_cases k:b.Hi>zh9 nw
     ·rw [W4 k,if_pos k];rfl
     ·rw [W5 k,if_neg k];rfl
    show j9 (decide (a.Hi>zh9 nw)) (X.jl8 (n+1) a.Lo a.Hi p.2.Lo p.2.Hi false b.Lo b.Hi (qg a nw).Lo (qg a nw).Hi (qg b nw).Lo (qg b nw).Hi nw (zh9 nw) (if nw then 32 else 64)) (X.jl8 (n+1) p.1.Lo p.1.Hi p.2.Lo p.2.Hi false b.Lo b.Hi (qg a nw).Lo (qg a nw).Hi (qg b nw).Lo (qg b nw).Hi nw (zh9 nw) (if nw then 32 else 64))=_;rw [j0,j0];unfold wj9;by_cases k:a.Hi>zh9 nw
    ·rw [W4 k];simp only [if_pos k];rfl
    ·rw [W5 k];simp only [if_neg k];rfl
  ·rw [show za0 b=false from W5 h4,U1,j7,if_neg (fun h=>h4 h.2.2)]
 ·rw [show za0 a=false from W5 h3,U1,j7,if_neg (fun h=>h3 h.2.1)]
end Go.Y
namespace Go.Y
open Go.RowKit Go.V Go.X Go.Proofs
structure TKnown where
 Kind:Int
 In:v9
def zh7 (a0:TKnown):Bool:=(if (a0.Kind==(4:Int)) then ((a0.In.Lo==(0:Int))&&(a0.In.Hi==(0:Int))) else (if (a0.Kind==(0:Int)) then ((a0.In.Lo==(0:Int))&&(a0.In.Hi==(0:Int))) else (if (a0.Kind==(1:Int)) then (zd5 (za0 a0.In) fun x37=>x37) else (if (a0.Kind==(2:Int)) then (zd5 (za0 a0.In) fun x50=>x50) else ((a0.Kind==(3:Int))&&((a0.In.Lo==(yd5 a0.In.Lo).Lo)&&(a0.In.Hi==(yd5 a0.In.Lo).Hi)))))))
def qaj (a0:TKnown):(v9×Bool):=(if (a0.Kind==(4:Int)) then ((⟨(0:Int),(65535:Int)⟩:v9),true) else (a0.In,(a0.Kind==(1:Int))))
def zs9 (a0:TKnown) (a1:TKnown):TKnown:=(zd5 (qaj a0) fun x34=>(zd5 (qaj a1) fun x59=>(zd5 (zh7 a0) fun x85=>(if ((!x85)||(!(zh7 a1))) then (⟨(0:Int),(⟨(0:Int),(0:Int)⟩:v9)⟩:TKnown) else (if ((a0.Kind==a1.Kind)&&((a0.In.Lo==a1.In.Lo)&&(a0.In.Hi==a1.In.Hi))) then a0 else (if (x34.2&&x59.2) then (zd5 (zy6 x34.1 x59.1) fun x134=>(⟨(1:Int),x134⟩:TKnown)) else (if ((a0.Kind==(2:Int))&&(a1.Kind==(2:Int))) then (zd5 (zy6 a0.In a1.In) fun x163=>(⟨(2:Int),x163⟩:TKnown)) else (⟨(0:Int),(⟨(0:Int),(0:Int)⟩:v9)⟩:TKnown))))))))
def qbt (a0:v9) (a1:Bool):Bool:=(zd5 (jx8 a0 (0:Int)) fun x13=>(x13||(a1&&(!(ji4 a0 (zj6 true))))))
def yi6 (a0:Int) (_a1:Bool) (_a2:TKnown) (_a3:TKnown) (v100:Int) (v101:Int) (v102:Int) (_v103:Int) (_v104:Int) (_v105:Int) (_x160:(v9×Bool)) (x185:(v9×Bool)) (v200:Bool):(TKnown×Int):=(if v200 then ((⟨v100,(span_Do a0 false (⟨v101,v102⟩:v9) x185.1)⟩:TKnown),(0:Int)) else ((⟨(0:Int),(⟨(0:Int),(0:Int)⟩:v9)⟩:TKnown),(114:Int)))
def zl9 (a0:Int) (a1:Bool) (a2:TKnown) (a3:TKnown) (v100:Int) (v101:Int) (v102:Int) (v103:Int) (v104:Int) (v105:Int):(TKnown×Int):=(zd5 (qaj (⟨v100,(⟨v101,v102⟩:v9)⟩:TKnown)) fun x160=>(zd5 (qaj (⟨v103,(⟨v104,v105⟩:v9)⟩:TKnown)) fun x185=>(if (((x160.2&&x185.2)&&((a0==(4:Int))||(a0==(5:Int))))&&(qbt x185.1 a1)) then ((⟨(0:Int),(⟨(0:Int),(0:Int)⟩:v9)⟩:TKnown),(113:Int)) else (if (x160.2&&x185.2) then (zd5 (span_Do a0 a1 x160.1 x185.1) fun x248=>((⟨(1:Int),x248⟩:TKnown),(0:Int))) else (if (((((a0==(1:Int))||(a0==(2:Int)))&&(!a1))&&x185.2)&&(v100==(2:Int))) then (yi6 a0 a1 a2 a3 v100 v101 v102 v103 v104 v105 x160 x185 true) else (yi6 a0 a1 a2 a3 v100 v101 v102 v103 v104 v105 x160 x185 ((((((a0==(1:Int))||(a0==(2:Int)))&&(!a1))&&x185.2)&&(v100==(3:Int)))&&(x185.1.Lo==x185.1.Hi))))))))
def yk7 (a0:Int) (a1:Bool) (a2:TKnown) (a3:TKnown):(TKnown×Int):=(if ((((decide (a0<(1:Int)))||(decide (a0>(13:Int))))||(!(zh7 a2)))||(!(zh7 a3))) then ((⟨(0:Int),(⟨(0:Int),(0:Int)⟩:v9)⟩:TKnown),(2:Int)) else (if (((a0 != (12:Int))&&(a2.Kind==(0:Int)))||((a0 != (13:Int))&&(a3.Kind==(0:Int)))) then ((⟨(0:Int),(⟨(0:Int),(0:Int)⟩:v9)⟩:TKnown),(110:Int)) else (if ((a0==(12:Int))&&(!a1)) then (a3,(0:Int)) else (if (a0==(12:Int)) then (zl9 a0 a1 a2 a3 a3.Kind a3.In.Lo a3.In.Hi a3.Kind a3.In.Lo a3.In.Hi) else (if (a0==(13:Int)) then (zl9 a0 a1 a2 a3 a2.Kind a2.In.Lo a2.In.Hi a2.Kind a2.In.Lo a2.In.Hi) else (zl9 a0 a1 a2 a3 a2.Kind a2.In.Lo a2.In.Hi a3.Kind a3.In.Lo a3.In.Hi))))))
def tk (k:Known):TKnown:=⟨k.Kind,⟨k.In_Lo,k.In_Hi⟩⟩
def ofT (t:TKnown):Known:=⟨t.Kind,t.In.Lo,t.In.Hi⟩
def zal8 (s:v9) (x:Int):qed g9 s x=some (jx8 s x):=by rw [uz9,zx9];rfl
def gg2 (s t:v9):qee g9 s t=some (ji4 s t):=by rw [zaa1,zx9];rfl
def wh3 (s t:v9):qdg g9 s t=some (zy6 s t):=by rw [uv3];rfl
def ja6 (k:Known):qy g9 k=some (zh7 (tk k)):=by
 obtain ⟨n,e⟩: ∃n:Nat,(g9:Nat)=n+1:=⟨999999999,rfl⟩;have h:qy (n+1) k=some (zh7 (tk k)):=by
  rw [zbg4,gd5,gd4,zc7,gk3,j4,j4];simp only [zc3];congr 1;simp only [zh7,zd5,tk,za0,yd5]
  grind
 rw [e];exact h
def yp4 (k:Known):X.qaj g9 k=some (qaj (tk k)):=by
 rw [X.uk7,zc3];congr 1
def vt4 (a b:Known):qs g9 a b=some (ofT (zs9 (tk a) (tk b))):=by
 obtain ⟨n,e⟩: ∃n:Nat,(g9:Nat)=n+1+1+1:=⟨999999997,rfl⟩;have h:qs (n+1+1+1) a b=some (ofT (zs9 (tk a) (tk b))):=by
  rw [zbf8,yp4,j4,yp4,j4,ja6,j4,ja6,j4];unfold zs9;simp only [zd5];generalize zh7 (tk a)=ra;generalize zh7 (tk b)=rb;simp only [gc9,gd0,gd1,wh3,j4,zc3];congr 1;cases ra with
  |false=>rfl
  |true=>
   cases rb with
   |false=>rfl
   |true=>
    simp only [W7,Bool.or_self,M5,if_false];by_cases he:((a.Kind==b.Kind)&&((a.In_Lo==b.In_Lo)&&(a.In_Hi==b.In_Hi)))=true
    ·rw [if_pos he,if_pos (show ((tk a).Kind==(tk b).Kind&&((tk a).In.Lo==(tk b).In.Lo&&(tk a).In.Hi==(tk b).In.Hi))=true from he)];rfl
    ·rw [if_neg he,if_neg (show ¬((tk a).Kind==(tk b).Kind&&((tk a).In.Lo==(tk b).In.Lo&&(tk a).In.Hi==(tk b).In.Hi))=true from he)];show _=ofT (if ((qaj (tk a)).2&&(qaj (tk b)).2)=true then _ else if ((a.Kind==2)&&(b.Kind==2))=true then _ else _);generalize qaj (tk a)=na;generalize qaj (tk b)=nb;obtain ⟨sa,ca⟩:=na;obtain ⟨sb,cb⟩:=nb;cases ca<;>cases cb<;>cases (a.Kind==2)<;>cases (b.Kind==2)<;>rfl
 rw [e];exact h
def kc2 (s:v9) (nw:Bool):X.qbt g9 s nw=some (qbt s nw):=by
 rw [X.up7,zal8,j4,zy7,j4,gg2,j4];simp only [zc3];congr 1;unfold qbt;simp only [zd5];cases jx8 s 0<;>cases nw<;>rfl
def qq5 {a:TKnown} (h:za5 a.In.Lo/\za5 a.In.Hi):za5 (qaj a).1.Lo/\za5 (qaj a).1.Hi:=by
 unfold qaj
 grind
def pk (x:TKnown×Int):Known×Int:=(ofT x.1,x.2)
def vn2 (n:Nat) (op:Int) (nw:Bool) (p q:TKnown) (x y:Known) (hx:za5 x.In_Lo/\za5 x.In_Hi) (hy:za5 y.In_Lo/\za5 y.In_Hi) (z0 z1 z2:Int) (hz:z0=0/\z1=0/\z2=0):
  vj1 (n+1+1+1+1+1+1) op nw x.Kind x.In_Lo x.In_Hi y.Kind y.In_Lo y.In_Hi z0 z1 z2=some (pk (zl9 op nw p q x.Kind x.In_Lo x.In_Hi y.Kind y.In_Lo y.In_Hi)):=by
 obtain ⟨rfl,rfl,rfl⟩:=hz;have nx:=qq5 (a:=tk x) hx;have ny:=qq5 (a:=tk y) hy;rw [kw6,show (⟨x.Kind,x.In_Lo,x.In_Hi⟩:Known)=x from rfl,show (⟨y.Kind,y.In_Lo,y.In_Hi⟩:Known)=y from rfl,yp4,j4,yp4,j4];unfold zl9;simp only [zd5];rw [show (⟨x.Kind,⟨x.In_Lo,x.In_Hi⟩⟩:TKnown)=tk x from rfl,show (⟨y.Kind,⟨y.In_Lo,y.In_Hi⟩⟩:TKnown)=tk y from rfl];generalize qaj (tk x)=na at nx⊢;generalize qaj (tk y)=nb at ny⊢;obtain ⟨⟨sl,sh⟩,c1⟩:=na;obtain ⟨⟨tl,th⟩,c2⟩:=nb;have hd1:=do_v op nw ⟨sl,sh⟩ ⟨tl,th⟩ nx ny;have hd2:=do_v op false ⟨x.In_Lo,x.In_Hi⟩ ⟨tl,th⟩ hx ny;simp only [kx0,kx1,kx2,kx4,kx3,kc2,j4,hd1,hd2,zc3];refine congrArg some ?_;unfold yi6;generalize qbt ⟨tl,th⟩ nw=nt;generalize (tl==th)=et;generalize (x.Kind==2)=k2;generalize (x.Kind==3)=k3;generalize (op==1)=o1;generalize (op==2)=o2;generalize (op==4)=o4;generalize (op==5)=o5;clear hd1 hd2;cases c1 with
 |true=>cases c2 with
  |true=>cases o4<;>cases o5<;>cases nt<;>cases o1<;>cases o2<;>cases nw<;>rfl
  |false=>cases o1<;>cases o2<;>cases nw<;>rfl
 |false=>cases c2 with
  |true=>cases o1<;>cases o2<;>cases nw<;>cases k2<;>cases k3<;>cases et<;>rfl
  |false=>cases o1<;>cases o2<;>cases nw<;>rfl
def zam6 (op:Int) (nw:Bool) (a b:Known) (ha:za5 a.In_Lo/\za5 a.In_Hi) (hb:za5 b.In_Lo/\za5 b.In_Hi):qb g9 op nw a b=some (pk (yk7 op nw (tk a) (tk b))):=by
 obtain ⟨n,e⟩: ∃n:Nat,(g9:Nat)=n+1+1+1+1+1+1+1+1+1:=⟨999999991,rfl⟩;have h:qb (n+1+1+1+1+1+1+1+1+1) op nw a b=some (pk (yk7 op nw (tk a) (tk b))):=by
  have e1:=vn2 n op nw (tk a) (tk b) b b hb hb 0 0 0 ⟨rfl,rfl,rfl⟩;have e2:=vn2 n op nw (tk a) (tk b) a a ha ha 0 0 0 ⟨rfl,rfl,rfl⟩;have e3:=vn2 n op nw (tk a) (tk b) a b ha hb 0 0 0 ⟨rfl,rfl,rfl⟩;rw [zap9,ja6,j4,ja6,j4];unfold yk7;generalize zh7 (tk a)=ra;generalize zh7 (tk b)=rb;simp only [kw7,kw8,kw9,e1,e2,e3,zc3];refine congrArg some ?_;simp only [tk];by_cases h1:op<1
  ·simp [h1,pk,ofT]
  by_cases h2:op>13
  ·simp [h1,h2,pk,ofT]
  simp only [W5 h1,W5 h2,M5,if_false,Bool.false_or];cases ra with
  |false=>rfl
  |true=>
   cases rb with
   |false=>rfl
   |true=>
    by_cases h12:op=12
    ·subst h12;by_cases hb0:b.Kind=0<;>cases nw<;>simp [hb0,pk,ofT]
    ·by_cases h13:op=13
     ·subst h13;by_cases ha0:a.Kind=0<;>simp [ha0,pk,ofT]
     ·simp only [show (op==12)=false from beq_eq_false_iff_ne.2 h12,show (op==13)=false from beq_eq_false_iff_ne.2 h13,show (op != 12)=true from bne_iff_ne.2 h12,show (op != 13)=true from bne_iff_ne.2 h13];by_cases ha0:a.Kind=0<;>by_cases hb0:b.Kind=0<;>simp [ha0,hb0,pk,ofT]
 rw [e];exact h
def ko3 {x:Int} (h:za5 x) (y:Int):za5 (ze0 .u64 x y):=by
 have hp:(0:Int)<2^(min y.toNat IntKind.u64.bits):=Int.pow_pos (by decide);unfold ze0;rw [Int.fdiv_eq_ediv_of_nonneg _ (Int.le_of_lt hp)];exact ⟨Int.ediv_nonneg h.1 (Int.le_of_lt hp),Int.le_trans (Int.ediv_le_self _ h.1) h.2⟩
def vr6 (nw:Bool) (x y:Int):za5 (jy3 11 nw x y).1:=by
 cases nw with
 |true=>
  have:=ko6 (ze0 .i32 (IntKind.i32.wrap (IntKind.u32.wrap x)) ((IntKind.u32.wrap y).tmod 32));show za5 (IntKind.u32.wrap (ze0 .i32 (IntKind.i32.wrap (IntKind.u32.wrap x)) ((IntKind.u32.wrap y).tmod 32)));exact this
 |false=>exact V.zc8 _
def wg8 {op:Int} {nw:Bool} {u v r:v9} (hu:za5 u.Lo/\za5 u.Hi) (hv:za5 v.Lo/\za5 v.Hi) (h:zc4 op (wk nw u v)=some r):za5 r.Lo/\za5 r.Hi:=by
 have z:za5 (0:Int):=by decide
 have mn: ∀ {a b:Int},za5 a->za5 b->za5 (yi5 a b):=fun ha hb=>kt2 ha hb;have mx: ∀ {a b:Int},za5 a->za5 b->za5 (zq9 a b):=fun ha hb=>kt1 ha hb;have ws: ∀(c:Bool) (s:v9),(za5 s.Lo/\za5 s.Hi)->(ym3 (zh4 c) none fun _=>some s)=some r->za5 r.Lo/\za5 r.Hi:=by
  intro c s hs q;cases c with
  |false=>cases q
  |true=>cases q;exact hs
 unfold zc4 at h;by_cases e:op=1
 ·rw [if_pos e] at h;exact ws _ _ ⟨V.zc8 _,V.zc8 _⟩ h
 rw [if_neg e] at h;clear e;by_cases e:op=2
 ·rw [if_pos e] at h;exact ws _ _ ⟨V.zc8 _,V.zc8 _⟩ h
 rw [if_neg e] at h;clear e;by_cases e:op=3
 ·rw [if_pos e] at h;exact ws _ _ ⟨V.zc8 _,V.zc8 _⟩ h
 rw [if_neg e] at h;clear e;by_cases e:op=4
 ·rw [if_pos e] at h;cases h;exact ⟨V.zc8 _,V.zc8 _⟩
 rw [if_neg e] at h;clear e;by_cases e:op=5
 ·rw [if_pos e] at h;cases h;unfold qbw;split
  ·exact hu
  ·exact ⟨z,mn hu.2 (V.zc8 _)⟩
 rw [if_neg e] at h;clear e;by_cases e:op=6
 ·rw [if_pos e] at h;cases h;unfold qbv zd5;dsimp only;split
  ·exact ⟨V.zc8 _,V.zc8 _⟩
  ·exact ⟨z,mn hu.2 hv.2⟩
 rw [if_neg e] at h;clear e;by_cases e:op=7
 ·rw [if_pos e] at h;cases h;unfold qbx zd5;dsimp only;split
  ·exact ⟨V.zc8 _,V.zc8 _⟩
  ·exact ⟨mx hu.1 hv.1,V.zc8 _⟩
 rw [if_neg e] at h;clear e;by_cases e:op=8
 ·rw [if_pos e] at h;cases h;unfold qby zd5;dsimp only;split
  ·exact ⟨V.zc8 _,V.zc8 _⟩
  ·exact ⟨z,V.zc8 _⟩
 rw [if_neg e] at h;clear e;by_cases e:op=9
 ·rw [if_pos e] at h;exact ws _ _ ⟨V.zc8 _,V.zc8 _⟩ h
 rw [if_neg e] at h;clear e;by_cases e:op=10
 ·rw [if_pos e] at h;cases h;unfold qal zd5;dsimp only;split
  ·exact ⟨ko3 hu.1 _,ko3 hu.2 _⟩
  ·split
   ·exact ⟨z,hu.2⟩
   ·exact ⟨ko3 hu.1 _,ko3 hu.2 _⟩
 rw [if_neg e] at h;clear e;by_cases e:op=11
 ·rw [if_pos e] at h;exact ws _ _ ⟨vr6 _ _ _,vr6 _ _ _⟩ h
 rw [if_neg e] at h;clear e;by_cases e:op=12
 ·rw [if_pos e] at h;cases h;exact hv
 rw [if_neg e] at h;clear e;unfold zn3 at h;split at h
 ·cases h;exact hu
 ·exact ws _ _ ⟨V.zc8 _,V.zc8 _⟩ h
def zam5 {op:Int} {nw:Bool} {a b:TKnown} (ha:za5 a.In.Lo/\za5 a.In.Hi) (hb:za5 b.In.Lo/\za5 b.In.Hi):za5 (yk7 op nw a b).1.In.Lo/\za5 (yk7 op nw a b).1.In.Hi:=by
 have z:za5 (0:Int)/\za5 (0:Int):=⟨by decide,by decide⟩;have sp: ∀(nw:Bool) (s t:v9),za5 s.Lo/\za5 s.Hi->za5 t.Lo/\za5 t.Hi->za5 (span_Do op nw s t).Lo/\za5 (span_Do op nw s t).Hi:=by
  intro nw s t hs ht;rw [yv8];split
  ·rename_i h;have hu:=(zr3 (nw:=nw) hs h.2.1).u;have hv:=(zr3 (nw:=nw) ht h.2.2).u;cases hr:zc4 op (wk nw (qg s nw) (qg t nw)) with
   |none=>exact ⟨by show za5 (0:Int);decide,vu3 nw⟩
   |some r=>exact wg8 hu hv hr
  ·cases nw<;>exact ⟨by decide,by decide⟩
 have j0: ∀(x y:TKnown),za5 x.In.Lo/\za5 x.In.Hi->za5 y.In.Lo/\za5 y.In.Hi->za5 (zl9 op nw a b x.Kind x.In.Lo x.In.Hi y.Kind y.In.Lo y.In.Hi).1.In.Lo/\za5 (zl9 op nw a b x.Kind x.In.Lo x.In.Hi y.Kind y.In.Lo y.In.Hi).1.In.Hi:=by
  intro x y hx hy;have nx:=qq5 hx;have ny:=qq5 hy;unfold zl9;simp only [zd5];rw [show (⟨x.Kind,⟨x.In.Lo,x.In.Hi⟩⟩:TKnown)=x from rfl,show (⟨y.Kind,⟨y.In.Lo,y.In.Hi⟩⟩:TKnown)=y from rfl];unfold yi6;split
  ·exact z
  ·split
   ·exact sp _ _ _ nx ny
   ·split
    ·exact sp _ _ _ hx ny
    ·split
     ·exact sp _ _ _ hx ny
     ·exact z
 unfold yk7;split
 ·exact z
 ·split
  ·exact z
  ·split
   ·exact hb
   ·split
    ·exact j0 _ _ hb hb
    ·split
     ·exact j0 _ _ ha ha
     ·exact j0 _ _ ha hb
def gz0 {a b:TKnown} (ha:za5 a.In.Lo/\za5 a.In.Hi) (hb:za5 b.In.Lo/\za5 b.In.Hi):za5 (zs9 a b).In.Lo/\za5 (zs9 a b).In.Hi:=by
 have z:za5 (0:Int)/\za5 (0:Int):=⟨by decide,by decide⟩;have sj: ∀(s t:v9),za5 s.Lo/\za5 s.Hi->za5 t.Lo/\za5 t.Hi->za5 (zy6 s t).Lo/\za5 (zy6 s t).Hi:=by
  intro s t hs ht;unfold zy6 yi5 zq9
  grind
 have nx:=qq5 ha;have ny:=qq5 hb;unfold zs9;simp only [zd5];split
 ·exact z
 ·split
  ·exact ha
  ·split
   ·exact sj _ _ nx ny
   ·split
    ·exact sj _ _ ha hb
    ·exact z
end Go.Y
namespace Go.Y
open Go.RowKit Go.V Go.X Go.Proofs
abbrev Pl:=Go.X.Place
abbrev PW:=(List Ins×Unit×Int×Bool×Unit×List Bool×Int×Unit)×List Pl×List Known×Unit
def W (l:List Ins) (b:List Pl) (a:Int) (w:Pl):PW:=((l,(),a,w.Live,(),w.Bytes,w.Least,()),b,w.Regs,())
def toS {α:Type} (x:α⊕Int):(α×Unit)⊕(Int×Unit):=match x with| .inl a=>.inl (a,())| .inr e=>.inr (e,())
def yb7 (c e):qag g9 c e=some ((),if c=true then .inr (e,()) else .inl ()):=by rw [uk3];cases c<;>rfl
def qk8 (e:Int):qbr g9 e=some ((),if e=0 then .inl () else .inr (e,())):=by
 rw [up5,yb7,j4]
 grind
def yt1 (a:Int) (k:Known):v9⊕Int:=if k.Kind=0 then .inr 110 else if k.Kind=1 then .inl ⟨k.In_Lo,k.In_Hi⟩ else if k.Kind=4 then .inl ⟨IntKind.u64.wrap a,65535⟩ else .inr 111
def yn3 (l:List Ins) (b:List Pl) (a:Int) (w:Pl) (k:Known):qw g9 l b a w.Live w.Regs w.Bytes w.Least k=some (W l b a w,toS (yt1 w.Least k)):=by
 rw [ue0];simp only [yb7,j4,zu5];unfold yt1;by_cases c:k.Kind=0
 ·simp [c];exact ⟨rfl,rfl⟩
 by_cases d:k.Kind=1
 ·simp [d];exact ⟨rfl,rfl⟩
 by_cases e:k.Kind=4
 ·simp [e];exact ⟨rfl,rfl⟩
 ·simp [c,d,e];exact ⟨rfl,rfl⟩
def qi9 (a:List Known) (i:Ins):Known:=if i.UseImm=true then ⟨1,IntKind.u64.wrap i.Imm,IntKind.u64.wrap i.Imm⟩ else a.getD i.Src.toNat v5
def jx7 (l:List Ins) (b:List Pl) (a:Int) (w:Pl) (i:Ins) (d:w.Regs.length=11) (c:i.UseImm=true\/0<=i.Src/\i.Src<=10):qah g9 l b a w.Live w.Regs w.Bytes w.Least i=some (W l b a w,(qi9 w.Regs i,())):=by
 rw [gk9,gk3,j4];unfold qi9;by_cases h:i.UseImm=true
 ·rw [h,j7];rfl
 ·rw [Bool.not_eq_true] at h;have c:=c.resolve_left (by rw [h];decide);rw [h,j5,if_pos (by omega)];rfl
def yf6 (c:Bool) (a:List Known) (b:List Bool) (n:Int) (d:a.length=11) (g:b.length<=512):qbb g9 c a b n=some ((a,()),((c,a,b,n,()),())):=by
 have e:qea g9 a=some a:=by
  rw [uz3,if_pos (by rw [d];decide),M2];cases a with
  |nil=>exact qg4 _ _
  |cons x r=>rfl
 have f:qeb g9 b=some b:=by
  rw [uz5,if_pos (by omega),M2];cases b with
  |nil=>exact qg4 _ _
  |cons x r=>rfl
 rw [un2,e,j4,f,j4]
def gq8 (a b:Known):Known:=ofT (zs9 (tk a) (tk b))
def jr (q p:List Known):Nat->List Known
 |0=>q
 |k+1=>(jr q p k).set k (gq8 (q.getD k v5) (p.getD k v5))
def jk9 (q p): ∀k,(jr q p k).length=q.length
 |0=>rfl
 |k+1=>by rw [jr,Q1,jk9 q p k]
def wl0 (q p:List Known) (j:Nat): ∀k,(jr q p k)[j]?=if j<k/\j<q.length then some (gq8 (q.getD j v5) (p.getD j v5)) else q[j]?
 |0=>by rw [jr,if_neg (by omega)]
 |k+1=>by
  rw [jr,List.getElem?_set,jk9,wl0 q p j k]
  grind
def gi4 (q p k):(jr q p k).getD k v5=q.getD k v5:=by
 rw [Y2,wl0,if_neg (by omega),<-List.getD_eq_getElem?_getD]
def zo4 (a:List Pl) (k:Nat) (p:Pl):List Pl:=if (a.getD k v6).Live=true then a.set k ⟨true,jr (a.getD k v6).Regs p.Regs 11,vh4 (a.getD k v6).Bytes p.Bytes,yi5 (a.getD k v6).Least p.Least⟩ else a.set k p
def vz1 (l:List Ins) (b:List Pl) (a:Int) (w:Pl) (t:Int) (e:0<=t/\t<(b.length:Int)) (d:w.Regs.length=11) (f:w.Bytes.length<=512) (c:(b.getD t.toNat v6).Live=true->(b.getD t.toNat v6).Regs.length=11):
  qad g9 l b a w.Live w.Regs w.Bytes w.Least t w.Live w.Bytes w.Least=some (W l (zo4 b t.toNat w) a w,()):=by
 rw [uj9,if_pos e,if_pos (by omega)];unfold zo4;cases hl:(b.getD t.toNat v6).Live with
 |false=>rw [U1,j7,yf6 _ _ _ _ d f,j4,if_pos (by omega),if_neg (by decide)];rfl
 |true=>
  rw [W7,j5,if_pos (by omega),if_pos rfl];have c:=c hl;refine jj6 (fun n k=>yy3 n t.toNat (((b.getD t.toNat v6).Regs.length:Nat):Int) (k:Int) l a w.Live w.Bytes w.Least b t.toNat true (b.getD t.toNat v6).Bytes (b.getD t.toNat v6).Least w.Regs w.Live w.Bytes w.Least (jr (b.getD t.toNat v6).Regs w.Regs k)) 1 11 _ (fun n k g=>?_) (fun n=>?_) g9 (by unfold g9;omega)
  ·show yy3 (n+1) _ _ (k:Int) _ _ _ _ _ _ _ _ _ _ _ _ _ _ _=yy3 n _ _ ((k+1:Nat):Int) _ _ _ _ _ _ _ _ _ _ _ _ _ _ (jr _ _ (k+1));rw [qh3,W4 (by omega),j7,if_pos rfl,if_pos rfl,jk9,c,d,if_pos (by omega),if_pos (by omega),Z1,gi4,vt4,j4,if_pos (by omega),nx g (by omega)];rfl
  ·show yy3 (n+1) _ _ ((11:Nat):Int) _ _ _ _ _ _ _ _ _ _ _ _ _ _ _=_;rw [qh3,c,W5 (by omega),j5,if_pos rfl,wr4,j4,if_pos rfl,if_pos rfl,if_pos rfl];rfl
def vz2 (l:List Ins) (b:List Pl) (a:Int) (w p:Pl) (t:Int) (e:0<=t/\t<(b.length:Int)) (d:p.Regs.length=11) (f:p.Bytes.length<=512) (c:(b.getD t.toNat v6).Live=true->(b.getD t.toNat v6).Regs.length=11):
  qam g9 l b a w.Live w.Regs w.Bytes w.Least t p.Live p.Regs p.Bytes p.Least=some (((l,(),a,w.Live,(),w.Bytes,w.Least,()),zo4 b t.toNat p,w.Regs,p.Regs,()),()):=by
 rw [ul2,if_pos e,if_pos (by omega)];unfold zo4;cases hl:(b.getD t.toNat v6).Live with
 |false=>rw [U1,j7,yf6 _ _ _ _ d f,j4,if_pos (by omega),if_neg (by decide)]
 |true=>
  rw [W7,j5,if_pos (by omega),if_pos rfl];have c:=c hl;refine jj6 (fun n k=>yy4 n t.toNat (((b.getD t.toNat v6).Regs.length:Nat):Int) (k:Int) l a w.Live w.Bytes w.Least b t.toNat true (b.getD t.toNat v6).Bytes (b.getD t.toNat v6).Least w.Regs p.Regs p.Live p.Bytes p.Least (jr (b.getD t.toNat v6).Regs p.Regs k)) 1 11 _ (fun n k g=>?_) (fun n=>?_) g9 (by unfold g9;omega)
  ·show yy4 (n+1) _ _ (k:Int) _ _ _ _ _ _ _ _ _ _ _ _ _ _ _ _=yy4 n _ _ ((k+1:Nat):Int) _ _ _ _ _ _ _ _ _ _ _ _ _ _ _ (jr _ _ (k+1));rw [qh5,W4 (by omega),j7,if_pos rfl,if_pos rfl,jk9,c,d,if_pos (by omega),if_pos (by omega),Z1,gi4,vt4,j4,if_pos (by omega),nx g (by omega)];rfl
  ·show yy4 (n+1) _ _ ((11:Nat):Int) _ _ _ _ _ _ _ _ _ _ _ _ _ _ _ _=_;rw [qh5,c,W5 (by omega),j5,if_pos rfl,wr4,j4,if_pos rfl,if_pos rfl,if_pos rfl]
end Go.Y
namespace Go.Y
open Go.RowKit Go.V Go.X Go.Proofs
abbrev Out:=List (Int×Pl)⊕Int
def ze1 (a:List Pl):List (Int×Pl)->List Pl
 | []=>a
 |x::r=>ze1 (zo4 a x.1.toNat x.2) r
def zo2 (a:List Pl) (o:Out):List Pl:=match o with| .inl b=>ze1 a b| .inr _=>a
def jc0 (o:Out):Unit⊕(Int×Unit):=match o with| .inl _=>.inl ()| .inr e=>.inr (e,())
def QOk (a:List Pl):Prop:= ∀k,(a.getD k v6).Live=true->(a.getD k v6).Regs.length=11
def zs8 (ps:List Pl) (k j:Nat) (p:Pl):(ps.set k p).getD j v6=if k=j/\j<ps.length then p else ps.getD j v6:=by
 grind
def jg7 (a:List Pl) (k:Nat) (p:Pl):(zo4 a k p).length=a.length:=by unfold zo4;split<;>rw [Q1]
def wi2 {d} (h:QOk d) (k) {p} (e:p.Regs.length=11):QOk (zo4 d k p):=by
 intro j a;unfold zo4 at a⊢;split at a
 ·rename_i b;rw [if_pos b];rw [zs8] at a⊢;split
  ·rw [jk9];exact h k b
  ·rename_i c;rw [if_neg c] at a;exact h j a
 ·rename_i b;rw [if_neg b];rw [zs8] at a⊢;split
  ·exact e
  ·rename_i c;rw [if_neg c] at a;exact h j a
def qk4 (l:List Ins) (b:List Pl) (a:Int) (d:Bool) (e:List Known) (c:List Bool) (n:Int) (j:0<=a/\a+1<(b.length:Int)) (k:b.length<=4096) (f:e.length=11) (g:c.length<=512) (i:QOk b):
  qbi g9 l b a d e c n d c n=some (W l (zo4 b (a+1).toNat ⟨d,e,c,n⟩) a ⟨d,e,c,n⟩,()):=by
 rw [uo1,zg7 (by omega)];have h:=vz1 l b a ⟨d,e,c,n⟩ (a+1) (by omega) f g (i _);dsimp only at h;rw [h,j4]
 try rfl
def ug3 (l:List Ins) (b:List Pl) (a:Int) (d:Bool) (e:List Known) (c:List Bool) (n:Int) (f:0<=a/\a<(l.length:Int)) (k:0<=a+1+(l.getD a.toNat zb5).Off/\a+1+(l.getD a.toNat zb5).Off<(b.length:Int)) (m:l.length<=4096) (o:b.length<=4096) (g:e.length=11) (i:c.length<=512) (j:QOk b):
  qco g9 l b a d e c n d c n=some (W l (zo4 b (a+1+(l.getD a.toNat zb5).Off).toNat ⟨d,e,c,n⟩) a ⟨d,e,c,n⟩,()):=by
 rw [us8,if_pos f,zg7 (x:=a+1) (by omega),zg7 (by omega)];have h:=vz1 l b a ⟨d,e,c,n⟩ (a+1+(l.getD a.toNat zb5).Off) (by omega) g i (j _);dsimp only at h;rw [h,j4]
 try rfl
def gv0 (l:List Ins) (b:List Pl) (a:Int) (w p:Pl) (f:0<=a/\a+1<(b.length:Int)) (g:b.length<=4096) (c:p.Regs.length=11) (d:p.Bytes.length<=512) (e:QOk b):
  qdk g9 l b a w.Live w.Regs w.Bytes w.Least p.Live p.Regs p.Bytes p.Least=some (((l,(),a,w.Live,(),w.Bytes,w.Least,()),zo4 b (a+1).toNat p,w.Regs,p.Regs,()),()):=by
 rw [uw1,zg7 (by omega),vz2 l b a w p (a+1) (by omega) c d (e _),j4]
def ug2 (l:List Ins) (b:List Pl) (a:Int) (w p:Pl) (c:0<=a/\a<(l.length:Int)) (g:0<=a+1+(l.getD a.toNat zb5).Off/\a+1+(l.getD a.toNat zb5).Off<(b.length:Int)) (h:l.length<=4096) (i:b.length<=4096) (d:p.Regs.length=11) (e:p.Bytes.length<=512) (f:QOk b):
  qdj g9 l b a w.Live w.Regs w.Bytes w.Least p.Live p.Regs p.Bytes p.Least=some (((l,(),a,w.Live,(),w.Bytes,w.Least,()),zo4 b (a+1+(l.getD a.toNat zb5).Off).toNat p,w.Regs,p.Regs,()),()):=by
 rw [uv9,if_pos c,zg7 (x:=a+1) (by omega),zg7 (by omega),vz2 l b a w p (a+1+(l.getD a.toNat zb5).Off) (by omega) d e (f _),j4]
def ys1 (k:Known) (i:Ins):Int:=IntKind.i64.wrap (IntKind.u64.wrap (k.In_Lo+IntKind.u64.wrap i.Off))
def vs8 (k i):X.qch g9 k i=some (ys1 k i):=by rw [X.ur9];rfl
def jn9 (w:Pl):Out:=match yt1 w.Least (w.Regs.getD 0 v5) with| .inl _=>.inl []| .inr e=>.inr e
def gh4 (l:List Ins) (b:List Pl) (a:Int) (w:Pl) (i:Ins) (c:w.Regs.length=11):qdd g9 l b a w.Live w.Regs w.Bytes w.Least i=some (W l (zo2 b (jn9 w)) a w,jc0 (jn9 w)):=by
 rw [uu6,if_pos (by omega),yn3,j4];unfold jn9;cases yt1 w.Least (w.Regs.getD 0 v5)<;>rfl
def kl6 (w:Pl) (i:Ins) (a:Int):Out:=.inl [(a+1+i.Off,w)]
def gi5 (l:List Ins) (b:List Pl) (a:Int) (w:Pl) (i:Ins) (c:l.getD a.toNat zb5=i) (d:0<=a/\a<(l.length:Int)) (e:0<=a+1+i.Off/\a+1+i.Off<(b.length:Int)) (f:l.length<=4096) (g:b.length<=4096) (h:w.Regs.length=11) (j:w.Bytes.length<=512) (k:QOk b):
  qde g9 l b a w.Live w.Regs w.Bytes w.Least i=some (W l (zo2 b (kl6 w i a)) a w,()):=by
 subst c;rw [uu8,ug3 l b a w.Live w.Regs w.Bytes w.Least d e f g h j k,j4];rfl
def doK (op:Int) (nw:Bool) (a b:Known):Known×Int:=pk (yk7 op nw (tk a) (tk b))
def zam4 (op nw a b) (c:za5 a.In_Lo/\za5 a.In_Hi) (d:za5 b.In_Lo/\za5 b.In_Hi):qb g9 op nw a b=some (doK op nw a b):=zam6 op nw a b c d
def zz7 (w:Pl) (i:Ins) (a:Int):Out:=
 let r:=doK i.Op i.Narrow (w.Regs.getD i.Dst.toNat v5) (if i.Op=13 then ⟨0,0,0⟩ else qi9 w.Regs i)
 if r.2=0 then .inl [(a+1,⟨w.Live,w.Regs.set i.Dst.toNat r.1,w.Bytes,w.Least⟩)] else .inr r.2
def UOk (k:Known):Prop:=za5 k.In_Lo/\za5 k.In_Hi
def qs9 {a} (h: ∀k,UOk (a.getD k v5)) (i):UOk (qi9 a i):=by
 unfold qi9;split
 ·refine ⟨?_,?_⟩<;>(show za5 (IntKind.u64.wrap i.Imm);rw [zz9];omega)
 ·exact h _
def vc3 (l:List Ins) (ps:List Pl) (a:Int) (w:Pl) (i:Ins) (ha:0<=a/\a+1<(ps.length:Int)) (hn:ps.length<=4096) (hr:w.Regs.length=11) (hb:w.Bytes.length<=512) (hq:QOk ps) (hu: ∀k,UOk (w.Regs.getD k v5)) (hd:0<=i.Dst/\i.Dst<=10) (hs:i.UseImm=true\/0<=i.Src/\i.Src<=10):
  ∃w',qay g9 l ps a w.Live w.Regs w.Bytes w.Least i=some (W l (zo2 ps (zz7 w i a)) a w',jc0 (zz7 w i a)):=by
 obtain ⟨n,e⟩: ∃n:Nat,(g9:Nat)=n+1:=⟨999999999,rfl⟩;have j0: ∀b:Known,UOk b-> ∃w',qr2 (n+1) l a w.Live w.Bytes w.Least ps w.Regs i.Op i.Narrow i.Dst i.Src i.UseImm i.Off i.Imm i.Size b.Kind b.In_Lo b.In_Hi=some (W l (zo2 ps (if (doK i.Op i.Narrow (w.Regs.getD i.Dst.toNat v5) b).2=0 then .inl [(a+1,⟨w.Live,w.Regs.set i.Dst.toNat (doK i.Op i.Narrow (w.Regs.getD i.Dst.toNat v5) b).1,w.Bytes,w.Least⟩)] else .inr (doK i.Op i.Narrow (w.Regs.getD i.Dst.toNat v5) b).2)) a w',jc0 (if (doK i.Op i.Narrow (w.Regs.getD i.Dst.toNat v5) b).2=0 then .inl [(a+1,⟨w.Live,w.Regs.set i.Dst.toNat (doK i.Op i.Narrow (w.Regs.getD i.Dst.toNat v5) b).1,w.Bytes,w.Least⟩)] else .inr (doK i.Op i.Narrow (w.Regs.getD i.Dst.toNat v5) b).2)):=by
  intro b hbu;rw [kg1,if_pos (by omega),show (⟨b.Kind,b.In_Lo,b.In_Hi⟩:Known)=b from rfl,zam4 _ _ _ _ (hu _) hbu,j4,qk8,j4];generalize doK i.Op i.Narrow (w.Regs.getD i.Dst.toNat v5) b=r;by_cases h:r.2=0
  ·refine ⟨⟨w.Live,w.Regs.set i.Dst.toNat r.1,w.Bytes,w.Least⟩,?_⟩;simp only [if_pos h];rw [if_pos (by omega)];show j6 (qbi g9 l ps a w.Live (w.Regs.set i.Dst.toNat r.1) w.Bytes w.Least w.Live w.Bytes w.Least) _=_;rw [qk4 l ps a w.Live (w.Regs.set i.Dst.toNat r.1) w.Bytes w.Least ha hn (by rw [Q1];exact hr) hb hq,j4];rfl
  ·refine ⟨w,?_⟩;simp only [if_neg h];rfl
 rw [um9,jx7 l ps a w i hr hs,j4,e];unfold zz7;dsimp only;by_cases h13:i.Op=13
 ·rw [if_pos h13,show (i.Op==13)=true from beq_iff_eq.2 h13,j7];exact j0 ⟨0,0,0⟩ ⟨by decide,by decide⟩
 ·rw [if_neg h13,show (i.Op==13)=false from beq_eq_false_iff_ne.2 h13,j5];exact j0 _ (qs9 hu i)
end Go.Y
namespace Go.Y
open Go.RowKit Go.V Go.X Go.Proofs
def gr0 (w:Pl) (i:Ins):Int:=
 let p:=w.Regs.getD i.Src.toNat v5
 if p.Kind=3 then kn9 w.Bytes (ys1 p i) i.Size
 else if p.Kind=2 then (if p.In_Hi>65535 then 112 else if IntKind.i64.wrap (IntKind.i64.wrap p.In_Lo+i.Off)<0 then 112 else if IntKind.i64.wrap (IntKind.i64.wrap (IntKind.i64.wrap p.In_Hi+i.Off)+i.Size)>w.Least then 112 else 0)
 else match yt1 w.Least p with| .inl _=>111| .inr e=>e
def qq2 (a:Int):Known:=⟨1,0,ze0 .u64 18446744073709551615 (IntKind.i64.wrap (64-IntKind.i64.wrap (8*a)))⟩
def jj4 (w:Pl) (i:Ins) (a:Int):Out:=if gr0 w i=0 then .inl [(a+1,⟨w.Live,w.Regs.set i.Dst.toNat (qq2 i.Size),w.Bytes,w.Least⟩)] else .inr (gr0 w i)
def gf1 {s} (h:zm2 s=true): ¬IntKind.i64.wrap (64-IntKind.i64.wrap (8*s))<0:=by
 unfold zm2 at h;simp only [J2,beq_iff_eq] at h;rcases h with rfl|rfl|rfl|rfl<;>decide
def qa4 {n:Int} {k:Known} {e:Int} (h:yt1 n k=.inr e):e≠0:=by
 unfold yt1 at h
 grind
def gj3 (l:List Ins) (ps:List Pl) (a:Int) (w:Pl) (i:Ins) (ha:0<=a/\a+1<(ps.length:Int)) (hn:ps.length<=4096) (hr:w.Regs.length=11) (hb:w.Bytes.length<=512) (hq:QOk ps) (hd:0<=i.Dst/\i.Dst<=10) (hs:0<=i.Src/\i.Src<=10) (hz:zm2 i.Size=true):
  ∃w',qau g9 l ps a w.Live w.Regs w.Bytes w.Least i=some (W l (zo2 ps (jj4 w i a)) a w',jc0 (jj4 w i a)):=by
 obtain ⟨n,e⟩: ∃n:Nat,(g9:Nat)=n+1:=⟨999999999,rfl⟩;have j0:qa9 (n+1) l a w.Live w.Bytes w.Least ps w.Regs i.Op i.Narrow i.Dst i.Src i.UseImm i.Off i.Imm i.Size=some (W l (zo4 ps (a+1).toNat ⟨w.Live,w.Regs.set i.Dst.toNat (qq2 i.Size),w.Bytes,w.Least⟩) a ⟨w.Live,w.Regs.set i.Dst.toNat (qq2 i.Size),w.Bytes,w.Least⟩,.inl ()):=by
  rw [kf9,if_neg (gf1 hz),if_pos (by omega)];show j6 (qbi g9 l ps a w.Live (w.Regs.set i.Dst.toNat (qq2 i.Size)) w.Bytes w.Least w.Live w.Bytes w.Least) _=_;rw [qk4 l ps a w.Live (w.Regs.set i.Dst.toNat (qq2 i.Size)) w.Bytes w.Least ha hn (by rw [Q1];exact hr) hb hq,j4]
  try rfl
 rw [<-e] at j0;rw [um4,if_pos (by omega)];unfold jj4 gr0;dsimp only;generalize w.Regs.getD i.Src.toNat v5=p;by_cases h3:p.Kind=3
 ·rw [show (p.Kind==3)=true from beq_iff_eq.2 h3,j7,vs8,j4,zau1,j4,qk8,j4];simp only [if_pos h3];generalize kn9 w.Bytes (ys1 p i) i.Size=r;by_cases hr0:r=0
  ·simp only [if_pos hr0,j0];exact ⟨_,rfl⟩
  ·simp only [if_neg hr0];exact ⟨w,rfl⟩
 ·rw [show (p.Kind==3)=false from beq_eq_false_iff_ne.2 h3,j5];simp only [if_neg h3];by_cases h2:p.Kind=2
  ·rw [show (p.Kind==2)=true from beq_iff_eq.2 h2,j7,yb7,j4];simp only [if_pos h2,decide_eq_true_eq];by_cases c1:p.In_Hi>65535
   ·simp only [if_pos c1];exact ⟨w,rfl⟩
   ·simp only [if_neg c1];by_cases c2:IntKind.i64.wrap (IntKind.i64.wrap p.In_Lo+i.Off)<0
    ·simp only [if_pos c2,W4 c2,j7,yb7,j4];exact ⟨w,rfl⟩
    ·simp only [if_neg c2,W5 c2,j5,yb7,j4,decide_eq_true_eq];by_cases c3:IntKind.i64.wrap (IntKind.i64.wrap (IntKind.i64.wrap p.In_Hi+i.Off)+i.Size)>w.Least
     ·simp only [if_pos c3];exact ⟨w,rfl⟩
     ·simp only [if_neg c3,j0];exact ⟨_,rfl⟩
  ·rw [show (p.Kind==2)=false from beq_eq_false_iff_ne.2 h2,j5,yn3,j4];simp only [if_neg h2];cases hx:yt1 w.Least p with
   |inl s=>exact ⟨w,rfl⟩
   |inr x=>
    have:=qa4 hx;simp only [if_neg this];exact ⟨w,rfl⟩
def vi7 (w:Pl) (i:Ins) (a:Int):Out:=
 let p:=w.Regs.getD i.Dst.toNat v5
 let b:=qi9 w.Regs i
 if p.Kind=0\/b.Kind=0 then .inr 110 else if p.Kind=2 then .inr 114 else if p.Kind≠3 then .inr 111
 else match yt1 w.Least b with
  | .inr e=>.inr e
  | .inl _=>if (qn3 w.Bytes (ys1 p i) i.Size).2=0 then .inl [(a+1,⟨w.Live,w.Regs,(qn3 w.Bytes (ys1 p i) i.Size).1,w.Least⟩)] else .inr (qn3 w.Bytes (ys1 p i) i.Size).2
def wh2 (b x z):(qn3 b x z).1.length<=b.length:=by
 unfold qn3;split
 ·rw [je9];exact W6 _
 ·exact U8 _
def wm7 (l:List Ins) (ps:List Pl) (a:Int) (w:Pl) (i:Ins) (ha:0<=a/\a+1<(ps.length:Int)) (hn:ps.length<=4096) (hr:w.Regs.length=11) (hb:w.Bytes.length<=512) (hq:QOk ps) (hd:0<=i.Dst/\i.Dst<=10) (hs:i.UseImm=true\/0<=i.Src/\i.Src<=10):
  ∃w',qbc g9 l ps a w.Live w.Regs w.Bytes w.Least i=some (W l (zo2 ps (vi7 w i a)) a w',jc0 (vi7 w i a)):=by
 obtain ⟨n,e⟩: ∃n:Nat,(g9:Nat)=n+1:=⟨999999999,rfl⟩;rw [un3,if_pos (by omega),jx7 l ps a w i hr hs,j4];unfold vi7;dsimp only;generalize w.Regs.getD i.Dst.toNat v5=p;generalize qi9 w.Regs i=b;by_cases h0:p.Kind=0
 ·rw [show (p.Kind==0)=true from beq_iff_eq.2 h0,j7,yb7,j4,if_pos rfl,if_pos (c:=p.Kind=0\/b.Kind=0) (.inl h0)];exact ⟨w,rfl⟩
 rw [show (p.Kind==0)=false from beq_eq_false_iff_ne.2 h0,j5,yb7,j4];by_cases h1:b.Kind=0
 ·rw [if_pos (c:=p.Kind=0\/b.Kind=0) (.inr h1),show (b.Kind==0)=true from beq_iff_eq.2 h1];exact ⟨w,rfl⟩
 rw [if_neg (c:=p.Kind=0\/b.Kind=0) (fun h=>h.elim h0 h1),show (b.Kind==0)=false from beq_eq_false_iff_ne.2 h1];simp only [M5,if_false];rw [e,kg2,yb7,j4];by_cases h2:p.Kind=2
 ·rw [if_pos h2,show (p.Kind==2)=true from beq_iff_eq.2 h2];exact ⟨w,rfl⟩
 rw [if_neg h2,show (p.Kind==2)=false from beq_eq_false_iff_ne.2 h2];simp only [M5,if_false,yb7,j4];by_cases h3:p.Kind=3
 ·rw [if_neg (c:=p.Kind≠3) (fun h=>h h3),show (p.Kind != 3)=false by rw [h3];rfl];simp only [M5,if_false,yn3,j4];rw [show (⟨b.Kind,b.In_Lo,b.In_Hi⟩:Known)=b from rfl];cases hx:yt1 w.Least b with
  |inr x=>exact ⟨w,rfl⟩
  |inl s=>
   simp only [toS];rw [show (⟨p.Kind,p.In_Lo,p.In_Hi⟩:Known)=p from rfl,show (⟨i.Op,i.Narrow,i.Dst,i.Src,i.UseImm,i.Off,i.Imm,i.Size⟩:Ins)=i from rfl,vs8,j4,zau3,j4,qk8,j4];have hle:=wh2 w.Bytes (ys1 p i) i.Size;generalize qn3 w.Bytes (ys1 p i) i.Size=r at hle⊢;by_cases hr0:r.2=0
   ·simp only [if_pos hr0];rw [qk4 l ps a w.Live w.Regs r.1 w.Least ha hn hr (by omega) hq,j4];exact ⟨⟨w.Live,w.Regs,r.1,w.Least⟩,rfl⟩
   ·simp only [if_neg hr0];exact ⟨w,rfl⟩
 ·rw [if_pos (c:=p.Kind≠3) h3,show (p.Kind != 3)=true from bne_iff_ne.2 h3];exact ⟨w,rfl⟩
end Go.Y
namespace Go.Y
open Go.RowKit Go.V Go.X Go.Proofs
def zl3 {R c} (h:c=true) (x y:Option R):j9 c x y=x:=by rw [h];rfl
def zn1 {R c} (h:c=false) (x y:Option R):j9 c x y=y:=by rw [h];rfl
def zo5 (p:Pl) (r:Int) (s:v9):Pl:=if (p.Regs.getD r.toNat v5).Kind=1 then ⟨p.Live,p.Regs.set r.toNat ⟨(p.Regs.getD r.toNat v5).Kind,s.Lo,s.Hi⟩,p.Bytes,p.Least⟩ else ⟨p.Live,p.Regs,p.Bytes,zq9 p.Least (IntKind.i64.wrap s.Lo)⟩
def ko9 (w:Pl) (i:Ins) (x y:v9):Pl:=if i.UseImm=true then zo5 w i.Dst x else if i.Src=i.Dst then w else zo5 (zo5 w i.Dst x) i.Src y
def jh6 (w:Pl) (i:Ins) (m n:v9) (b:Bool) (t:Int):List (Int×Pl):=if (ifE i.Op i.Narrow b m n).2.2=true then [(t,ko9 w i (ifE i.Op i.Narrow b m n).1 (ifE i.Op i.Narrow b m n).2.1)] else []
def zu4 (w:Pl) (i:Ins) (a:Int):Out:=
 let p:=w.Regs.getD i.Dst.toNat v5
 let b:=qi9 w.Regs i
 if p.Kind=0\/b.Kind=0 then .inr 110 else match yt1 w.Least p with
  | .inr e=>.inr e
  | .inl m=>match yt1 w.Least b with
   | .inr e=>.inr e
   | .inl n=>.inl (jh6 w i m n false (a+1)++jh6 w i m n true (a+1+i.Off))
def jj0 (y): ∀(x ps),ze1 ps (x++y)=ze1 (ze1 ps x) y
 | [],ps=>rfl
 |z::r,ps=>by rw [M6,ze1,jj0 y r,ze1]
def zg1 (p r s):(zo5 p r s).Regs.length=p.Regs.length/\(zo5 p r s).Bytes=p.Bytes:=by
 unfold zo5;split
 ·exact ⟨Q1 ..,rfl⟩
 ·exact ⟨rfl,rfl⟩
def jm7 (p r s) (hr:0<=r/\r<(p.Regs.length:Int)):qca g9 p.Live p.Regs p.Bytes p.Least r s=some ((((zo5 p r s).Live,(),(zo5 p r s).Bytes,(zo5 p r s).Least,()),(zo5 p r s).Regs,()),()):=by
 rw [uq9,if_pos hr];unfold zo5;by_cases h:(p.Regs.getD r.toNat v5).Kind=1
 ·rw [if_pos h,show ((p.Regs.getD r.toNat v5).Kind==1)=true from beq_iff_eq.2 h,j7]
 ·rw [if_neg h,show ((p.Regs.getD r.toNat v5).Kind==1)=false from beq_eq_false_iff_ne.2 h,j5]
section
variable (l:List Ins) (ps:List Pl) (a:Int) (w:Pl) (i:Ins) (m k:v9)
theorem wk9 (n c d):qs2 (n+2) 2 l a w.Live w.Bytes w.Least ps w.Regs i.Op i.Narrow i.Dst i.Src i.UseImm i.Off i.Imm i.Size m.Lo m.Hi k.Lo k.Hi c d=some (W l ps a w,.inl ()):=by
 rw [kh7,W5 (by omega),j5];rfl
variable (hi:l.getD a.toNat zb5=i) (ha:0<=a/\a<(l.length:Int)) (hl:l.length<=4096) (hn:ps.length=l.length) (hr:w.Regs.length=11) (hb:w.Bytes.length<=512) (hq:QOk ps)
variable (ht:0<=a+1+i.Off/\a+1+i.Off<(l.length:Int)) (ha1:a+1<(l.length:Int)) (hd:0<=i.Dst/\i.Dst<=10) (hs:i.UseImm=true\/0<=i.Src/\i.Src<=10)
variable (hm:za5 m.Lo/\za5 m.Hi) (hk:za5 k.Lo/\za5 k.Hi)
include hi ha hl hn hq ht
theorem zam2 (n p c d e) (f:p.Regs.length=11) (b:p.Bytes.length<=512):jm1 (n+3) 2 l a w.Live w.Bytes w.Least ps w.Regs i.Op i.Narrow i.Dst i.Src i.UseImm i.Off i.Imm i.Size m.Lo m.Hi k.Lo k.Hi c p.Live p.Bytes p.Least d e p.Regs=some (W l (zo4 ps (a+1+i.Off).toNat p) a w,.inl ()):=by
 subst hi;rw [kh8,ug2 l ps a w p ha (by omega) hl (by omega) f b hq,j4];exact wk9 l _ a w _ m k n d e
include hr hb hd hs hm hk
theorem j2_v (n c):km9 (n+5) 2 l a w.Live w.Bytes w.Least ps w.Regs i.Op i.Narrow i.Dst i.Src i.UseImm i.Off i.Imm i.Size m.Lo m.Hi k.Lo k.Hi c true=some (W l (ze1 ps (jh6 w i m k true (a+1+i.Off))) a w,.inl ()):=by
 rw [gb4,W4 (by omega),j7,show (⟨m.Lo,m.Hi⟩:Span)=m from rfl,show (⟨k.Lo,k.Hi⟩:Span)=k from rfl,wm3 _ _ _ _ _ hm hk,j4];unfold jh6;generalize ifE i.Op i.Narrow true m k=r;dsimp only;cases hc:r.2.2 with
 |false=>rw [U1,j7,if_neg (by decide)];exact wk9 l ps a w i m k _ _ _
 |true=>
  rw [W7,j5,if_pos rfl,yf6 _ _ _ _ hr hb,j4];have fin: ∀p:Pl,p.Regs.length=11->p.Bytes.length<=512->jm1 (n+3) 2 l a w.Live w.Bytes w.Least ps w.Regs i.Op i.Narrow i.Dst i.Src i.UseImm i.Off i.Imm i.Size m.Lo m.Hi k.Lo k.Hi true p.Live p.Bytes p.Least c true p.Regs=some (W l (ze1 ps [(a+1+i.Off,p)]) a w,.inl ()):=fun p e f=>zam2 l ps a w i m k hi ha hl hn hq ht n p true c true e f;unfold ko9;by_cases b:i.UseImm=true
  ·rw [if_pos b,zl3 b,jm7 w i.Dst r.1 (by omega),j4];exact fin (zo5 w i.Dst r.1) ((zg1 ..).1.trans hr) (by rw [(zg1 ..).2];exact hb)
  ·rw [if_neg b];have hs:=hs.resolve_left b;by_cases d:i.Src=i.Dst
   ·rw [if_pos d,show (i.Src != i.Dst)=false by rw [d];exact bne_self_eq_false _];rw [Bool.not_eq_true] at b;rw [j5,zn1 b];exact fin w hr hb
   ·rw [if_neg d,show (i.Src != i.Dst)=true from bne_iff_ne.2 d];rw [Bool.not_eq_true] at b;rw [j7,zn1 b,jm7 w i.Dst r.1 (by omega),j4];have g:=(zg1 w i.Dst r.1).1;dsimp only;rw [jm7 (zo5 w i.Dst r.1) i.Src r.2.1 (by omega),j4];exact fin (zo5 (zo5 w i.Dst r.1) i.Src r.2.1) ((zg1 ..).1.trans (g.trans hr)) (by rw [(zg1 ..).2,(zg1 ..).2];exact hb)
include ha1
theorem j3_v (n p c) (d:p.Regs.length=11) (b:p.Bytes.length<=512):qs3 (n+6) 2 l a w.Live w.Bytes w.Least ps w.Regs i.Op i.Narrow i.Dst i.Src i.UseImm i.Off i.Imm i.Size m.Lo m.Hi k.Lo k.Hi c p.Live p.Bytes p.Least false true p.Regs=some (W l (ze1 (zo4 ps (a+1).toNat p) (jh6 w i m k true (a+1+i.Off))) a w,.inl ()):=by
 rw [gb5,gv0 l ps a w p (by omega) (by omega) d b hq,j4];exact j2_v l _ a w i m k hi ha hl (by rw [jg7];exact hn) hr hb (wi2 hq _ d) ht hd hs hm hk n false
omit hm hk in
theorem j0_v (n x y) (d:UOk x) (g:UOk y): ∃w',km8 (n+8) l a w.Live w.Bytes w.Least ps w.Regs i.Op i.Narrow i.Dst i.Src i.UseImm i.Off i.Imm i.Size x.Kind x.In_Lo x.In_Hi y.Kind y.In_Lo y.In_Hi=
  (let o:Out:=match yt1 w.Least x with
   | .inr e=>.inr e
   | .inl m=>match yt1 w.Least y with
    | .inr e=>.inr e
    | .inl n=>.inl (jh6 w i m n false (a+1)++jh6 w i m n true (a+1+i.Off))
  some (W l (zo2 ps o) a w',jc0 o)):=by
 have f: ∀(x:Known) (s:v9),UOk x->yt1 w.Least x=.inl s->za5 s.Lo/\za5 s.Hi:=by
  intro x s d h;unfold yt1 at h;split at h
  ·cases h
  ·split at h
   ·cases h;exact d
   ·split at h
    ·cases h;refine ⟨?_,by show za5 (65535:Int);decide⟩;show za5 (IntKind.u64.wrap w.Least);rw [zz9];omega
    ·cases h
 refine ⟨w,?_⟩;rw [gb3,show (⟨x.Kind,x.In_Lo,x.In_Hi⟩:Known)=x from rfl,show (⟨y.Kind,y.In_Lo,y.In_Hi⟩:Known)=y from rfl,yn3,j4];simp only [yn3,j4];cases h1:yt1 w.Least x with
 |inr e=>rfl
 |inl m=>
  have hm:=f x m d h1;simp only [toS];cases h2:yt1 w.Least y with
  |inr e=>rfl
  |inl k=>
   have hk:=f y k g h2;simp only [zo2,jc0];rw [wm3 _ _ _ _ _ hm hk,j4,jj0]
   conv=>rhs;unfold jh6
   have j:=j2_v l ps a w i m k hi ha hl hn hr hb hq ht hd hs hm hk (n+1) false;generalize ifE i.Op i.Narrow false m k=r;dsimp only;cases hc:r.2.2 with
   |false=>rw [U1,j7,if_neg (by decide)];exact j
   |true=>
    rw [W7,j5,if_pos rfl,yf6 _ _ _ _ hr hb,j4];have fin: ∀p:Pl,p.Regs.length=11->p.Bytes.length<=512->qs3 (n+6) 2 l a w.Live w.Bytes w.Least ps w.Regs i.Op i.Narrow i.Dst i.Src i.UseImm i.Off i.Imm i.Size m.Lo m.Hi k.Lo k.Hi false p.Live p.Bytes p.Least false true p.Regs=some (W l (ze1 (ze1 ps [(a+1,p)]) (jh6 w i m k true (a+1+i.Off))) a w,.inl ()):=fun p q t=>j3_v l ps a w i m k hi ha hl hn hr hb hq ht ha1 hd hs hm hk n p false q t;unfold ko9;by_cases b:i.UseImm=true
    ·rw [if_pos b,zl3 b,jm7 w i.Dst r.1 (by omega),j4];exact fin (zo5 w i.Dst r.1) ((zg1 ..).1.trans hr) (by rw [(zg1 ..).2];exact hb)
    ·rw [if_neg b];have hs:=hs.resolve_left b;by_cases c:i.Src=i.Dst
     ·rw [if_pos c,show (i.Src != i.Dst)=false by rw [c];exact bne_self_eq_false _];rw [Bool.not_eq_true] at b;rw [j5,zn1 b];exact fin w hr hb
     ·rw [if_neg c,show (i.Src != i.Dst)=true from bne_iff_ne.2 c];rw [Bool.not_eq_true] at b;rw [j7,zn1 b,jm7 w i.Dst r.1 (by omega),j4];have u:=(zg1 w i.Dst r.1).1;dsimp only;rw [jm7 (zo5 w i.Dst r.1) i.Src r.2.1 (by omega),j4];exact fin (zo5 (zo5 w i.Dst r.1) i.Src r.2.1) ((zg1 ..).1.trans (u.trans hr)) (by rw [(zg1 ..).2,(zg1 ..).2];exact hb)
omit hm hk in
theorem qw1 (hu: ∀j,UOk (w.Regs.getD j v5)): ∃w',qh g9 l ps a w.Live w.Regs w.Bytes w.Least i=some (W l (zo2 ps (zu4 w i a)) a w',jc0 (zu4 w i a)):=by
 obtain ⟨n,e⟩: ∃n:Nat,(g9:Nat)=n+8:=⟨999999992,rfl⟩;rw [zbe3,if_pos (by omega),jx7 l ps a w i hr hs,j4];have hp:=hu i.Dst.toNat;have hb':=qs9 hu i;unfold zu4;dsimp only;generalize w.Regs.getD i.Dst.toNat v5=p at hp⊢;generalize qi9 w.Regs i=b at hb'⊢;by_cases h0:p.Kind=0
 ·rw [show (p.Kind==0)=true from beq_iff_eq.2 h0,j7,yb7,j4,if_pos rfl,if_pos (c:=p.Kind=0\/b.Kind=0) (.inl h0)];exact ⟨w,rfl⟩
 rw [show (p.Kind==0)=false from beq_eq_false_iff_ne.2 h0,j5,yb7,j4];by_cases h1:b.Kind=0
 ·rw [if_pos (c:=p.Kind=0\/b.Kind=0) (.inr h1),show (b.Kind==0)=true from beq_iff_eq.2 h1];exact ⟨w,rfl⟩
 rw [if_neg (c:=p.Kind=0\/b.Kind=0) (fun h=>h.elim h0 h1),show (b.Kind==0)=false from beq_eq_false_iff_ne.2 h1];simp only [M5,if_false];rw [e];exact j0_v l ps a w i hi ha hl hn hr hb hq ht ha1 hd hs n p b hp hb'
end
end Go.Y
namespace Go.Y
open Go.RowKit Go.V Go.X Go.Proofs
def In (M:Int) (x:v9):Prop:=0<=x.Lo/\x.Lo<=x.Hi/\x.Hi<=M
def uf7 {M:Int} {s n:v9} (h:In M s):In M (woE s n):=by
 obtain ⟨h1,h2,h3⟩:=h;unfold woE;split
 ·exact ⟨h1,h2,h3⟩
 ·unfold In
  grind
def qy7 {M K:Int} {op:Int} (hop:17<=op/\op<=22) {u v x y:v9} (hu:In M u) (hv:In K v) (h:yc3 op u v=some (x,y)):In M x/\In K y:=by
 have gt: ∀(M K:Int) (u v x y:v9),In M u->In K v->gtE u v=some (x,y)->In M x/\In K y:=by
  intro M K u v x y hu hv h;unfold In at hu hv;unfold gtE at h;split at h
  ·simp only [X0,X7] at h;obtain ⟨rfl,rfl⟩:=h;unfold In;dsimp only;omega
  ·cases h
 have ge: ∀(M K:Int) (u v x y:v9),In M u->In K v->geE u v=some (x,y)->In M x/\In K y:=by
  intro M K u v x y hu hv h;unfold In at hu hv;unfold geE at h;split at h
  ·simp only [X0,X7] at h;obtain ⟨rfl,rfl⟩:=h;unfold In;dsimp only;omega
  ·cases h
 have sw: ∀(o:Option (v9×v9)),(∀x y,o=some (x,y)->In K x/\In M y)-> ∀x y,qt2 o=some (x,y)->In M x/\In K y:=by
  intro o ho x y h;cases o with
  |none=>cases h
  |some p=>
   simp only [qt2,Z8,X0,X7] at h
   grind
 have hh:op=17\/op=18\/op=19\/op=20\/op=21\/op=22:=by omega
 rcases hh with rfl|rfl|rfl|rfl|rfl|rfl
 ·have h:(if max u.Lo v.Lo<=min u.Hi v.Hi then some ((⟨max u.Lo v.Lo,min u.Hi v.Hi⟩:v9),(⟨max u.Lo v.Lo,min u.Hi v.Hi⟩:v9)) else none)=some (x,y):=h;unfold In at hu hv;split at h
  ·simp only [X0,X7] at h;obtain ⟨rfl,rfl⟩:=h;unfold In;dsimp only;omega
  ·cases h
 ·have h:(if u.Lo=u.Hi/\v.Lo=v.Hi/\u.Lo=v.Lo then none else some (woE u v,woE v u))=some (x,y):=h;split at h
  ·cases h
  ·simp only [X0,X7] at h;obtain ⟨rfl,rfl⟩:=h;exact ⟨uf7 hu,uf7 hv⟩
 ·exact gt M K u v x y hu hv h
 ·exact ge M K u v x y hu hv h
 ·exact sw (gtE v u) (fun x y e=>gt K M v u x y hv hu e) x y h
 ·exact sw (geE v u) (fun x y e=>ge K M v u x y hv hu e) x y h
def ug7 {M K:Int} {op:Int} (hop:17<=op/\op<=27) {nw yes:Bool} {u v x y:v9} (hu:In M u) (hv:In K v) (h:qd7 nw op yes u v=some (x,y)):In M x/\In K y:=by
 have same:some (u,v)=some (x,y)->In M x/\In K y:=by
  grind
 unfold qd7 at h;by_cases h27:op=27
 ·rw [if_pos h27] at h;unfold yd3 at h;split at h
  ·grind
  ·split at h
   ·simp only [X0,X7] at h;obtain ⟨rfl,rfl⟩:=h;unfold In at hu hv⊢;dsimp only;omega
   ·cases h
 ·rw [if_neg h27] at h;have ho:=ke4 (op:=op) (by omega);have hq:17<=(if yes=true then op else ym2 op)/\(if yes=true then op else ym2 op)<=26:=by split<;>omega
  generalize (if yes=true then op else ym2 op)=o at *;split at h
  ·unfold yt9 at h;split at h
   ·exact same h
   ·split at h
    ·exact qy7 (by omega) hu hv h
    ·grind
  ·exact qy7 (by omega) hu hv h
def zal9 (op:Int) (nw yes:Bool) {a b:v9} (ha:za5 a.Lo/\za5 a.Hi) (hb:za5 b.Lo/\za5 b.Hi):(za5 (ifE op nw yes a b).1.Lo/\za5 (ifE op nw yes a b).1.Hi)/\za5 (ifE op nw yes a b).2.1.Lo/\za5 (ifE op nw yes a b).2.1.Hi:=by
 unfold ifE;split
 ·rename_i h;have hu:=zr3 (nw:=nw) ha h.2.1;have hv:=zr3 (nw:=nw) hb h.2.2;have hM:=vu3 nw;unfold wj9;cases hx:qd7 nw op yes (qg a nw) (qg b nw) with
  |none=>exact ⟨⟨by show za5 (0:Int);decide,by show za5 (0:Int);decide⟩,by show za5 (0:Int);decide,by show za5 (0:Int);decide⟩
  |some x=>
   obtain ⟨x,y⟩:=x;obtain ⟨i1,i2⟩:=ug7 (M:=zh9 nw) (K:=zh9 nw) h.1 ⟨hu.lo,hu.le,hu.hi⟩ ⟨hv.lo,hv.le,hv.hi⟩ hx;unfold In at i1 i2
   grind
 ·exact ⟨ha,hb⟩
structure PlOk (p:Pl):Prop where
 regs:p.Regs.length=11
 bytes:p.Bytes.length=512
 u: ∀k,UOk (p.Regs.getD k v5)
def AllOk (a:List Pl):Prop:= ∀k,(a.getD k v6).Live=true->PlOk (a.getD k v6)
def AllOk.q {a} (h:AllOk a):QOk a:=fun k b=>(h k b).regs
def kb6 (rs:List Known) (k j:Nat) (x:Known):(rs.set k x).getD j v5=if k=j/\j<rs.length then x else rs.getD j v5:=by
 grind
def ko2 {rs:List Known} (h: ∀k,UOk (rs.getD k v5)) {x:Known} (hx:UOk x) (k:Nat): ∀j,UOk ((rs.set k x).getD j v5):=by
 intro j;rw [kb6]
 grind
def jr_u {q p} (c: ∀k,UOk (q.getD k v5)) (d: ∀k,UOk (p.getD k v5)): ∀n k,UOk ((jr q p n).getD k v5)
 |0,k=>c k
 |n+1,k=>by
  rw [jr];exact ko2 (jr_u c d n) (show UOk (gq8 (q.getD n v5) (p.getD n v5)) from gz0 (a:=tk _) (b:=tk _) (c n) (d n)) n k
def kc1 {a b} (c:a.length=512) (d:b.length=512):(vh4 a b).length=512:=by
 unfold vh4;rw [if_pos ⟨c,d⟩,jf4,Z9]
def gf7 {e} (h:AllOk e) (k) {p} (c:PlOk p):AllOk (zo4 e k p):=by
 intro j a;unfold zo4 at a⊢;split at a
 ·rename_i b;rw [if_pos b];rw [zs8] at a⊢;have q:=h k b;split
  ·exact ⟨(jk9 ..).trans q.regs,kc1 q.bytes c.bytes,jr_u q.u c.u 11⟩
  ·rename_i d;rw [if_neg d] at a;exact h j a
 ·rename_i b;rw [if_neg b];rw [zs8] at a⊢;split
  ·exact c
  ·rename_i d;rw [if_neg d] at a;exact h j a
def qk3 (a:List (Int×Pl)):Prop:= ∀x∈a,PlOk x.2
def yj6: ∀(a) {b},AllOk b->qk3 a->AllOk (ze1 b a)
 | [],_,h,_=>h
 |x::r,_,h,c=>yj6 r (gf7 h _ (c x (by simp))) fun y d=>c y (by simp [d])
def yb5: ∀(b a),(ze1 a b).length=a.length
 | [],_=>rfl
 |x::r,a=>(yb5 r _).trans (jg7 ..)
def jy0 {p} (h:PlOk p) (r) {s} (a:za5 s.Lo/\za5 s.Hi):PlOk (zo5 p r s):=by
 refine ⟨(zg1 ..).1.trans h.regs,by rw [(zg1 ..).2];exact h.bytes,?_⟩;unfold zo5;split
 ·exact ko2 h.u (show UOk ⟨_,s.Lo,s.Hi⟩ from a) _
 ·exact h.u
def gw5 {w} (h:PlOk w) (i) {x y} (a:za5 x.Lo/\za5 x.Hi) (b:za5 y.Lo/\za5 y.Hi):PlOk (ko9 w i x y):=by
 unfold ko9;split
 ·exact jy0 h _ a
 ·split
  ·exact h
  ·exact jy0 (jy0 h _ a) _ b
def jl3 {a x s} (b:UOk x) (h:yt1 a x=.inl s):za5 s.Lo/\za5 s.Hi:=by
 unfold yt1 at h;split at h
 ·cases h
 ·split at h
  ·cases h;exact b
  ·split at h
   ·cases h;refine ⟨?_,by show za5 (65535:Int);decide⟩;show za5 (IntKind.u64.wrap a);rw [zz9];omega
   ·cases h
def vt7 {w} (h:PlOk w) (i) {m n} (d:za5 m.Lo/\za5 m.Hi) (e:za5 n.Lo/\za5 n.Hi) (a t):qk3 (jh6 w i m n a t):=by
 have c:=zal9 i.Op i.Narrow a d e;unfold jh6;split
 ·intro x b;rw [Q5] at b;subst b;exact gw5 h i c.1 c.2
 ·intro x b;cases b
def ka3 {w} (h:PlOk w) (i a) {c} (e:zu4 w i a=.inl c):qk3 c:=by
 unfold zu4 at e;dsimp only at e;split at e
 ·cases e
 ·split at e
  ·cases e
  ·rename_i m d;split at e
   ·cases e
   ·rename_i n f;cases e;intro x b;rw [X4] at b;rcases b with b|b
    ·exact vt7 h i (jl3 (h.u _) d) (jl3 (qs9 h.u i) f) _ _ x b
    ·exact vt7 h i (jl3 (h.u _) d) (jl3 (qs9 h.u i) f) _ _ x b
def gz6 {s} (h:zm2 s=true):UOk (qq2 s):=by
 unfold zm2 at h;simp only [J2,beq_iff_eq] at h;rcases h with rfl|rfl|rfl|rfl<;>exact ⟨by decide,by decide⟩
def gz8 {w} (h:PlOk w) (i a) (d:zm2 i.Size=true) {b} (e:jj4 w i a=.inl b):qk3 b:=by
 unfold jj4 at e;split at e
 ·cases e;intro x c;rw [Q5] at c;subst c;exact ⟨(Q1 ..).trans h.regs,h.bytes,ko2 h.u (gz6 d) _⟩
 ·cases e
def gf0 {b:List Bool} {x z:Int} (h:(qn3 b x z).2=0):(qn3 b x z).1.length=b.length:=by
 unfold qn3 at h⊢;split
 ·exact je9 ..
 ·grind
def uj3 {w} (h:PlOk w) (i a) {b} (e:vi7 w i a=.inl b):qk3 b:=by
 unfold vi7 at e;dsimp only at e;split at e
 ·cases e
 ·split at e
  ·cases e
  ·split at e
   ·cases e
   ·split at e
    ·cases e
    ·split at e
     ·rename_i d;cases e;intro x c;rw [Q5] at c;subst c;exact ⟨h.regs,(gf0 d).trans h.bytes,h.u⟩
     ·cases e
def zal6 {op nw x y} (c:UOk x) (d:UOk y):UOk (doK op nw x y).1:=zam5 (op:=op) (nw:=nw) (a:=tk x) (b:=tk y) c d
def ki3 {w} (h:PlOk w) (i a) {b} (e:zz7 w i a=.inl b):qk3 b:=by
 have g:UOk (if i.Op=13 then ⟨0,0,0⟩ else qi9 w.Regs i):=by
  split
  ·exact ⟨by show za5 (0:Int);decide,by show za5 (0:Int);decide⟩
  ·exact qs9 h.u i
 have c:=zal6 (op:=i.Op) (nw:=i.Narrow) (h.u i.Dst.toNat) g;unfold zz7 at e;dsimp only at e;generalize doK i.Op i.Narrow (w.Regs.getD i.Dst.toNat v5) (if i.Op=13 then ⟨0,0,0⟩ else qi9 w.Regs i)=r at e c;by_cases d:r.2=0
 ·rw [if_pos d] at e;cases e;intro x f;rw [Q5] at f;subst f;exact ⟨(Q1 ..).trans h.regs,h.bytes,ko2 h.u c _⟩
 ·rw [if_neg d] at e;cases e
def jq2 (w:Pl) (i:Ins) (a:Int):Out:=if i.Op=14 then jj4 w i a else if i.Op=15 then vi7 w i a else if i.Op=16 then kl6 w i a else if i.Op=28 then jn9 w else if i.Op<=13 then zz7 w i a else zu4 w i a
def vo5 {w:Pl} (h:PlOk w) {i:Ins} (hr:zi8 i=true) (a:Int) {ts:List (Int×Pl)} (e:jq2 w i a=.inl ts):qk3 ts:=by
 unfold jq2 at e;split at e
 ·rename_i h14;refine gz8 h i a ?_ e;unfold zi8 at hr
  grind
 ·split at e
  ·exact uj3 h i a e
  ·split at e
   ·cases e;intro x hx
    grind
   ·split at e
    ·unfold jn9 at e;split at e
     ·cases e;intro x hx;cases hx
     ·cases e
    ·split at e
     ·exact ki3 h i a e
     ·exact ka3 h i a e
end Go.Y
namespace Go.Y
open Go.RowKit Go.V Go.X Go.Proofs
def zs5 (l:List Ins):Nat->Nat->List Pl->List Pl×Fault
 |0,_,a=>(a,⟨0,0⟩)
 |m+1,k,a=>if (a.getD k v6).Live=true then (match jq2 (a.getD k v6) (l.getD k zb5) (k:Int) with
   | .inl b=>zs5 l m (k+1) (ze1 a b)
   | .inr e=>([],⟨e,(k:Int)⟩))
  else zs5 l m (k+1) a
def vd0 (ps:List Pl) (k:Nat):ps.set k (ps.getD k v6)=ps:=by
 apply M1
 grind
def vq8 {i} (h:zm0 i=true):i.UseImm=true\/0<=i.Src/\i.Src<=10:=by
 unfold zm0 at h;split at h
 ·rename_i a;exact .inl a
 ·simp only [X3,yd2,decide_eq_true_eq] at h;exact .inr h.1
def jm2 {x m} (h:yd2 x m=true):0<=x/\x<=m:=by
 simp only [yd2,X3,decide_eq_true_eq] at h;exact h
structure InsOk (l:List Ins) (k:Nat) (i:Ins):Prop where
 op:1<=i.Op/\i.Op<=28
 dst:0<=i.Dst/\i.Dst<=10
 sec:i.Op≠14->i.UseImm=true\/0<=i.Src/\i.Src<=10
 src:i.Op=14->(0<=i.Src/\i.Src<=10)/\zm2 i.Size=true
 next:i.Op≠28->i.Op≠16->k+1<l.length
 far:i.Op=16\/(17<=i.Op/\i.Op<=27)->0<=i.Off/\(k:Int)+1+i.Off<l.length
def qp1 {l:List Ins} (h:Okay l) {k:Nat} (hk:k<l.length):InsOk l k (l.getD k zb5)/\zi8 (l.getD k zb5)=true:=by
 have hr:=jt7 (h.z1 k hk);have ho:=jg3 _ hr;have h2:=h.z2 k hk;have h3:=h.z3 k hk;unfold c2 kl5 at h2;unfold c3 at h3;generalize l.getD k zb5=i at hr ho h2 h3;refine ⟨⟨ho.2.2,?_,?_,?_,?_,?_⟩,hr⟩
 ·unfold zi8 at hr;split at hr
  ·simp only [X3] at hr;have:=jm2 hr.1;omega
  ·split at hr
   ·simp only [X3] at hr;have:=jm2 hr.1;omega
   ·split at hr
    ·simp only [X3] at hr;have:=jm2 hr.1;omega
    ·split at hr
     ·simp only [X3] at hr;exact jm2 hr.1
     ·split at hr
      ·simp only [X3,beq_iff_eq] at hr;omega
      ·split at hr
       ·simp only [X3] at hr;exact jm2 hr.1
       ·simp only [X3,beq_iff_eq] at hr;omega
 ·intro h14;unfold zi8 at hr;split at hr
  ·simp only [X3] at hr;exact vq8 hr.2.1
  ·split at hr
   ·simp only [X3,beq_iff_eq] at hr;omega
   ·split at hr
    ·simp only [X3] at hr;exact vq8 hr.2.2.2.1
    ·split at hr
     ·simp only [X3,beq_iff_eq] at hr;omega
     ·split at hr
      ·simp only [X3] at hr;exact vq8 hr.2.2.1
      ·simp only [X3,beq_iff_eq] at hr;omega
 ·intro h14;unfold zi8 at hr;rw [if_neg (by omega),if_neg (by omega),if_pos h14] at hr;simp only [X3] at hr;exact ⟨jm2 hr.2.1,hr.2.2.2.1⟩
 ·grind
 ·grind
def vg1 (x:List Pl×Fault):Option (Unit×(List Pl×Fault×Unit)):=some ((),(x.1,x.2,()))
def kt9 (n m l) (A:Okay l) (k) (L:k<l.length) (b) (D:b.length=l.length) (y:AllOk b) (E F G H)
  (I: ∀(x:List Pl) (w:Pl),x.length=l.length->AllOk x->zx0 n l 0 0 l (k:Int) w.Live w.Bytes w.Least [] x w.Regs=vg1 (zs5 l m (k+1) x)):
  qs1 (n+1) l 0 0 l (k:Int) E F G [] b H=vg1 (zs5 l (m+1) k b):=by
 have J:=A.len;obtain ⟨j,p⟩:=qp1 A L;rw [qi0,W4 (by omega),j7,if_pos (by omega),if_pos (by omega),Z1]
 conv=>rhs;rw [zs5]
 by_cases r:(b.getD k v6).Live=true
 case neg=>
  rw [if_neg r,zn1 (by simpa using r)];exact I b ⟨E,H,F,G⟩ D y
 rw [if_pos r,zl3 r];have s:=y k r;have z:=vd0 b k;rw [if_pos (by omega),if_pos (by omega)];generalize N:b.getD k v6=w at s z r⊢;rw [yf6 _ _ _ _ s.regs (by rw [s.bytes];exact W6 _),j4,if_pos (by omega)];dsimp only;rw [show b.set k (⟨w.Live,w.Regs,w.Bytes,w.Least⟩:Pl)=b from z];generalize B:l.getD k zb5=i at j p⊢;have fin: ∀(o:Out) (d:Pl),(∀v,o=.inl v->qk3 v)->(match (((W l (zo2 b o) (k:Int) d:PW),jc0 o):PW×(Unit⊕(Int×Unit))).2 with
   | .inl _=>(zx0 n l 0 0 (W l (zo2 b o) (k:Int) d).1.1 (W l (zo2 b o) (k:Int) d).1.2.2.1 (W l (zo2 b o) (k:Int) d).1.2.2.2.1 (W l (zo2 b o) (k:Int) d).1.2.2.2.2.2.1 (W l (zo2 b o) (k:Int) d).1.2.2.2.2.2.2.1 [] (W l (zo2 b o) (k:Int) d).2.1 (W l (zo2 b o) (k:Int) d).2.2.1)
   | .inr O=>(j6 (qbh (W l (zo2 b o) (k:Int) d).1.1 (W l (zo2 b o) (k:Int) d).2.1 (W l (zo2 b o) (k:Int) d).1.2.2.1 (W l (zo2 b o) (k:Int) d).1.2.2.2.1 (W l (zo2 b o) (k:Int) d).2.2.1 (W l (zo2 b o) (k:Int) d).1.2.2.2.2.2.1 (W l (zo2 b o) (k:Int) d).1.2.2.2.2.2.2.1 [] 0 0 O.1) fun K=>
   some ((),(([]:List Pl),(⟨K.2.2.2.2.2.2.1.1,K.2.2.2.2.2.2.1.2.1⟩:Fault),()))))=vg1 (match o with| .inl v=>zs5 l m (k+1) (ze1 b v)| .inr e=>([],⟨e,(k:Int)⟩)):=by
  intro o d P;cases o with
  |inl v=>exact I (ze1 b v) d ((yb5 ..).trans D) (yj6 v y (P v rfl))
  |inr e=>
   show j6 (qbh _ _ _ _ _ _ _ _ _ _ _) _=_;rw [gl8,j4];rfl
 have C:w.Bytes.length<=512:=by rw [s.bytes];exact W6 _
 have a: ∀v,jq2 w i (k:Int)=.inl v->qk3 v:=fun v=>vo5 s p (k:Int);unfold jq2 at a⊢;by_cases c:i.Op=14
 ·rw [if_pos c] at a⊢;rw [W4 c,j7,gn4,if_pos c,j4,if_pos (by omega)];obtain ⟨d,e⟩:=gj3 l b (k:Int) w i (by have:=j.next (by omega) (by omega);omega) (by omega) s.regs C y.q j.dst (j.src c).1 (j.src c).2;rw [e,j4];exact fin _ d a
 rw [if_neg c] at a⊢;rw [W5 c,j5];by_cases g:i.Op=15
 ·rw [if_pos g] at a⊢;rw [zl3 (by simp [g]),gn5,if_neg c,if_pos g,j4,if_pos (by omega)];obtain ⟨d,e⟩:=wm7 l b (k:Int) w i (by have:=j.next (by omega) (by omega);omega) (by omega) s.regs C y.q j.dst (j.sec c);rw [e,j4];exact fin _ d a
 rw [if_neg g] at a⊢;rw [zn1 (by simp [g])];by_cases f:i.Op=16
 ·rw [if_pos f] at a⊢;rw [zl3 (by simp [f]),gn6,if_neg c,if_neg g,if_pos f,j4,if_pos (by omega)];have Q:=j.far (.inl f);rw [gi5 l b (k:Int) w i (by rw [Z1];exact B) (by omega) (by omega) J (by omega) s.regs C y.q,j4];exact fin (kl6 w i (k:Int)) w a
 rw [if_neg f] at a⊢;rw [zn1 (by simp [f])];by_cases h:i.Op=28
 ·rw [if_pos h] at a⊢;rw [zl3 (by simp [h]),gn7,if_neg c,if_neg g,if_neg f,if_pos h,j4,if_pos (by omega),gh4 l b (k:Int) w i s.regs,j4];exact fin _ w a
 rw [if_neg h] at a⊢;rw [zn1 (by simp [h])];have R:=j.next h f;by_cases t:i.Op<=13
 ·rw [if_pos t] at a⊢;rw [zl3 (by simp [c,g,f,h,t]),gn8,if_neg c,if_neg g,if_neg f,if_neg h,W4 t,j7,j4,if_pos (by omega)];obtain ⟨d,e⟩:=vc3 l b (k:Int) w i (by omega) (by omega) s.regs C y.q s.u j.dst (j.sec c);rw [e,j4];exact fin _ d a
 rw [if_neg t] at a⊢;rw [zn1 (by simp [t]),gn9,if_neg c,if_neg g,if_neg f,if_neg h,W5 t,j5,j4,if_pos (by omega)];have Q:=j.far (.inr (by have:=j.op;omega));obtain ⟨d,e⟩:=qw1 l b (k:Int) w i (by rw [Z1];exact B) (by omega) J D s.regs C y.q (by omega) (by omega) j.dst (j.sec c) s.u;rw [e,j4];exact fin _ d a
def gz2 (n m l) (A:Okay l) (k) (G:k<l.length) (c) (D:c.length=l.length) (z:AllOk c) (H I J K) (v:(c.getD k v6).Live=true)
  (L: ∀(x:List Pl) (w:Pl),x.length=l.length->AllOk x->zx0 n l 0 0 l (k:Int) w.Live w.Bytes w.Least [] x w.Regs=vg1 (zs5 l m (k+1) x)):
  km7 (n+1) l 0 0 l (k:Int) H I c [] J K=vg1 (zs5 l (m+1) k c):=by
 have E:=A.len;obtain ⟨j,p⟩:=qp1 A G;rw [kz5,W4 (by omega),j7,if_pos (by omega),if_pos (by omega),Z1]
 conv=>rhs;rw [zs5]
 rw [if_pos v,zl3 v];have r:=z k v;have y:=vd0 c k;rw [if_pos (by omega),if_pos (by omega)];generalize N:c.getD k v6=w at r y v⊢;rw [yf6 _ _ _ _ r.regs (by rw [r.bytes];exact W6 _),j4,if_pos (by omega)];dsimp only;rw [show c.set k (⟨w.Live,w.Regs,w.Bytes,w.Least⟩:Pl)=c from y];generalize B:l.getD k zb5=i at j p⊢;have fin: ∀(o:Out) (d:Pl),(∀t,o=.inl t->qk3 t)->(match (((W l (zo2 c o) (k:Int) d:PW),jc0 o):PW×(Unit⊕(Int×Unit))).2 with
   | .inl _=>(zx0 n l 0 0 (W l (zo2 c o) (k:Int) d).1.1 (W l (zo2 c o) (k:Int) d).1.2.2.1 (W l (zo2 c o) (k:Int) d).1.2.2.2.1 (W l (zo2 c o) (k:Int) d).1.2.2.2.2.2.1 (W l (zo2 c o) (k:Int) d).1.2.2.2.2.2.2.1 [] (W l (zo2 c o) (k:Int) d).2.1 (W l (zo2 c o) (k:Int) d).2.2.1)
   | .inr O=>(j6 (qbh (W l (zo2 c o) (k:Int) d).1.1 (W l (zo2 c o) (k:Int) d).2.1 (W l (zo2 c o) (k:Int) d).1.2.2.1 (W l (zo2 c o) (k:Int) d).1.2.2.2.1 (W l (zo2 c o) (k:Int) d).2.2.1 (W l (zo2 c o) (k:Int) d).1.2.2.2.2.2.1 (W l (zo2 c o) (k:Int) d).1.2.2.2.2.2.2.1 [] 0 0 O.1) fun F=>
   some ((),(([]:List Pl),(⟨F.2.2.2.2.2.2.1.1,F.2.2.2.2.2.2.1.2.1⟩:Fault),()))))=vg1 (match o with| .inl t=>zs5 l m (k+1) (ze1 c t)| .inr e=>([],⟨e,(k:Int)⟩)):=by
  intro o d P;cases o with
  |inl t=>exact L (ze1 c t) d ((yb5 ..).trans D) (yj6 t z (P t rfl))
  |inr e=>
   show j6 (qbh _ _ _ _ _ _ _ _ _ _ _) _=_;rw [gl8,j4];rfl
 have C:w.Bytes.length<=512:=by rw [r.bytes];exact W6 _
 have a: ∀t,jq2 w i (k:Int)=.inl t->qk3 t:=fun t=>vo5 r p (k:Int);unfold jq2 at a⊢;by_cases b:i.Op=14
 ·rw [if_pos b] at a⊢;rw [W4 b,j7,gn4,if_pos b,j4,if_pos (by omega)];obtain ⟨d,e⟩:=gj3 l c (k:Int) w i (by have:=j.next (by omega) (by omega);omega) (by omega) r.regs C z.q j.dst (j.src b).1 (j.src b).2;rw [e,j4];exact fin _ d a
 rw [if_neg b] at a⊢;rw [W5 b,j5];by_cases g:i.Op=15
 ·rw [if_pos g] at a⊢;rw [zl3 (by simp [g]),gn5,if_neg b,if_pos g,j4,if_pos (by omega)];obtain ⟨d,e⟩:=wm7 l c (k:Int) w i (by have:=j.next (by omega) (by omega);omega) (by omega) r.regs C z.q j.dst (j.sec b);rw [e,j4];exact fin _ d a
 rw [if_neg g] at a⊢;rw [zn1 (by simp [g])];by_cases f:i.Op=16
 ·rw [if_pos f] at a⊢;rw [zl3 (by simp [f]),gn6,if_neg b,if_neg g,if_pos f,j4,if_pos (by omega)];have Q:=j.far (.inl f);rw [gi5 l c (k:Int) w i (by rw [Z1];exact B) (by omega) (by omega) E (by omega) r.regs C z.q,j4];exact fin (kl6 w i (k:Int)) w a
 rw [if_neg f] at a⊢;rw [zn1 (by simp [f])];by_cases h:i.Op=28
 ·rw [if_pos h] at a⊢;rw [zl3 (by simp [h]),gn7,if_neg b,if_neg g,if_neg f,if_pos h,j4,if_pos (by omega),gh4 l c (k:Int) w i r.regs,j4];exact fin _ w a
 rw [if_neg h] at a⊢;rw [zn1 (by simp [h])];have R:=j.next h f;by_cases s:i.Op<=13
 ·rw [if_pos s] at a⊢;rw [zl3 (by simp [b,g,f,h,s]),gn8,if_neg b,if_neg g,if_neg f,if_neg h,W4 s,j7,j4,if_pos (by omega)];obtain ⟨d,e⟩:=vc3 l c (k:Int) w i (by omega) (by omega) r.regs C z.q r.u j.dst (j.sec b);rw [e,j4];exact fin _ d a
 rw [if_neg s] at a⊢;rw [zn1 (by simp [s]),gn9,if_neg b,if_neg g,if_neg f,if_neg h,W5 s,j5,j4,if_pos (by omega)];have Q:=j.far (.inr (by have:=j.op;omega));obtain ⟨d,e⟩:=qw1 l c (k:Int) w i (by rw [Z1];exact B) (by omega) E D r.regs C z.q (by omega) (by omega) j.dst (j.sec b) r.u;rw [e,j4];exact fin _ d a
def gj8 (l) (a:Okay l): ∀(m k n b c d e f),k+m=l.length->2*m+1<=n->b.length=l.length->AllOk b->qs1 n l 0 0 l (k:Int) c d e [] b f=vg1 (zs5 l m k b)
 |0,k,n,b,c,d,e,f,o,p,h,i=>by
  obtain ⟨n,rfl⟩: ∃j,n=j+1:=⟨n-1,by omega⟩;rw [qi0,W5 (by omega),j5,zai1,j4];rfl
 |m+1,k,n,b,c,d,e,f,o,p,h,i=>by
  obtain ⟨n,rfl⟩: ∃j,n=j+1+1:=⟨n-2,by omega⟩;have s:=a.len;refine kt9 (n+1) m l a k (by omega) b h i c d e f fun g w q r=>?_;rw [va6,nx (k:=k) (len:=l.length) (by omega) (by omega)];exact gj8 l a m (k+1) n g w.Live w.Bytes w.Least w.Regs (by omega) (by omega) q r
def startP:Pl:=⟨true,[⟨0,0,0⟩,⟨2,0,0⟩,⟨4,0,0⟩,⟨0,0,0⟩,⟨0,0,0⟩,⟨0,0,0⟩,⟨0,0,0⟩,⟨0,0,0⟩,⟨0,0,0⟩,⟨0,0,0⟩,⟨3,0,0⟩],List.replicate 512 false,0⟩
def wh5:qdi g9=some ((),((startP.Live,startP.Regs,startP.Bytes,startP.Least,()),())):=by
 rw [uv7,zan3];kernel_rfl
def gf4:PlOk startP:=by
 refine ⟨rfl,Z9 ..,fun k=>?_⟩;unfold UOk startP;dsimp only;rcases J9 k 11 with h|h
 ·have:k=0\/k=1\/k=2\/k=3\/k=4\/k=5\/k=6\/k=7\/k=8\/k=9\/k=10:=by omega
  rcases this with rfl|rfl|rfl|rfl|rfl|rfl|rfl|rfl|rfl|rfl|rfl<;>decide
 ·rw [Y2,Y5 (by simpa using h)];decide
def zq1 (l:List Ins):List Pl:=(List.replicate l.length v6).set 0 startP
def zi0 (l:List Ins):List Pl×Fault:=if (yf5 l).Err=0 then zs5 l l.length 0 (zq1 l) else ([],yf5 l)
def qw7 (l):AllOk (zq1 l):=by
 intro k a;unfold zq1 at a⊢;rw [zs8] at a⊢;split
 ·exact gf4
 ·rename_i b;rw [if_neg b] at a;rw [Y2,List.getElem?_replicate] at a;split at a<;>exact absurd a (by decide)
def kw2 (l:List Ins):qf g9 l=vg1 (zi0 l):=by
 rw [zba1,gv8,j4];unfold zi0;by_cases he:(yf5 l).Err=0
 ·have hok:=vu6 he;have hl:=hok.len;have hp:=hok.pos;rw [if_pos he,show ((yf5 l).Err != 0)=false by rw [he];rfl,j5,if_pos (by omega),wh5,j4,Z1,if_pos (by rw [Z9];omega),if_pos (by rw [Z9];omega)];show km7 g9 l 0 0 l ((0:Nat):Int) false 0 (zq1 l) [] [] []=_;obtain ⟨n,e⟩: ∃n:Nat,(g9:Nat)=n+1+1:=⟨999999998,rfl⟩;have hn:999999998=n:=by unfold g9 at e;omega
  obtain ⟨m,hm⟩: ∃m,l.length=m+1:=⟨l.length-1,by omega⟩;have hf:(zq1 l).length=l.length:=by unfold zq1;rw [Q1,Z9]
  rw [e,hm];refine gz2 (n+1) m l hok 0 hp (zq1 l) hf (qw7 l) false 0 [] [] ?_ fun ps2 w h1 h2=>?_
  ·unfold zq1;rw [zs8,if_pos ⟨rfl,by rw [Z9];exact hp⟩];rfl
  ·rw [va6,nx (k:=0) (len:=l.length) (by omega) (by omega)];exact gj8 l hok m 1 n ps2 w.Live w.Bytes w.Least w.Regs (by omega) (by omega) h1 h2
 ·rw [if_neg he,show ((yf5 l).Err != 0)=true from bne_iff_ne.2 he,j7];rfl
end Go.Y
