import Derived.Test.YthhhfnfgmijggaaGreatId
import Derived.Test.YthhhfnfgmijggaaGreatM2
import Derived.Test.YthhhfnfgmijggaaGreatM1
import Derived.Test.YthhhfnfgmijggaaGreatIe
set_option linter.defProp false
namespace Go.Y
open Go.RowKit Go.V Go.X Go.Proofs
def pP (o:Option (j6×j6)):Unit×((Span×Span×Unit)⊕(Unit×Unit)):=((),match o with|some p=>.inl (p.1,p.2,())|none=>.inr ((),()))
def wm6 (u v):qda v3 u v=some (if max u.Lo v.Lo<=min u.Hi v.Hi then ((⟨max u.Lo v.Lo,min u.Hi v.Hi⟩:Span),true) else ((⟨0,0⟩:Span),false)):=by
 rw [um1,zb7,z6,zi8,zu0,za9];unfold q9;by_cases h:max u.Lo v.Lo<=min u.Hi v.Hi
 ·rw [if_pos h,show decide ((⟨max u.Lo v.Lo,min u.Hi v.Hi⟩:j6).Lo<=(⟨max u.Lo v.Lo,min u.Hi v.Hi⟩:j6).Hi)=true from W3 h];rfl
 ·rw [if_neg h,show decide ((⟨max u.Lo v.Lo,min u.Hi v.Hi⟩:j6).Lo<=(⟨max u.Lo v.Lo,min u.Hi v.Hi⟩:j6).Hi)=false from W4 h];rfl
def jm5 {nw:Bool} (s t:j6) (hs:SpOk nw s):X.qx v3 s t=some (woE s t):=by
 obtain ⟨n,e⟩: ∃n:Nat,(v3:Nat)=n+1+1:=⟨999999998,rfl⟩;have h1:=hs.lo;have h2:=hs.le;have h3:=hs.hi;have h4:=jm4 nw;have j1: ∀l h:Int,X.kp0 (n+1) l h t.Lo t.Hi 0 0=some (if h=t.Lo then ⟨l,IntKind.u64.wrap (h-1)⟩ else ⟨l,h⟩):=fun l h=>by
  rw [X.kw7,za9];simp only [beq_iff_eq]
 have jt:X.ji3 (n+1+1) true s.Lo s.Hi t.Lo t.Hi 0 0=some s:=by rw [X.vb8,z9]
 have jf: ¬s.Lo=s.Hi->t.Lo=t.Hi->X.ji3 (n+1+1) false s.Lo s.Hi t.Lo t.Hi 0 0=some (woE s t):=fun hh ht=>by
  rw [X.vb8,z5,j1,j1];unfold woE;rw [if_neg (c:=s.Lo=s.Hi\/t.Lo≠t.Hi) (fun h=>h.elim hh (fun h=>h ht))];by_cases hl:s.Lo=t.Lo
  ·rw [show (s.Lo==t.Lo)=true by simp [hl],z9,zc1 (x:=s.Lo+1) (by omega),if_neg (show ¬s.Hi=t.Lo by omega),if_pos hl,if_neg (show ¬s.Hi=t.Lo by omega)]
  ·rw [show (s.Lo==t.Lo)=false by simp [hl],z5,if_neg hl];by_cases hr:s.Hi=t.Lo
   ·rw [if_pos hr,if_pos hr,zc1 (x:=s.Hi-1) (by omega)]
   ·rw [if_neg hr,if_neg hr]
 rw [X.zaj5,qa3,z6,qa3,z6,e,jt,yd7,yd7];by_cases hh:s.Lo=s.Hi
 ·rw [W3 hh,z9];unfold woE;rw [if_pos (.inl hh)]
 ·rw [W4 hh,z5];by_cases ht:t.Lo=t.Hi
  ·rw [W3 ht,W5,jf hh ht]
  ·rw [W4 ht,U3,jt];unfold woE;rw [if_pos (.inr ht)]
def qy8 (op) {nw} (u v) (a:op=19\/op=20) (b:SpOk nw u) (c:SpOk nw v):X.qbs v3 (wW nw u v) op=some (pP (if op=19 then gtE u v else geE u v)):=by
 have d:=b.lo;have e:=b.le;have f:=b.hi;have g:=jm4 nw;have i:=c.lo;have j:=c.le;have k:=c.hi;rcases a with rfl|rfl
 ·rw [X.gk3,show ((19:Int)==17)=false from rfl,show ((19:Int)==18)=false from rfl,show ((19:Int)==19)=true from rfl,z5,z5,z9,zh0,z6,if_pos (show (19:Int)=19 from rfl),zi8,zu0];unfold gtE;by_cases h:u.Hi>v.Lo
  ·rw [if_pos h,show decide ((wW nw u v).a_Hi>(wW nw u v).b_Lo)=true from W3 h,show IntKind.u64.wrap ((wW nw u v).b_Lo+1)=v.Lo+1 from zc1 (x:=v.Lo+1) (by omega),show IntKind.u64.wrap ((wW nw u v).a_Hi-1)=u.Hi-1 from zc1 (x:=u.Hi-1) (by omega)];rfl
  ·rw [if_neg h,show decide ((wW nw u v).a_Hi>(wW nw u v).b_Lo)=false from W4 h];rfl
 ·rw [X.gk3,show ((20:Int)==17)=false from rfl,show ((20:Int)==18)=false from rfl,show ((20:Int)==19)=false from rfl,show ((20:Int)==20)=true from rfl,z5,z5,z5,z9,zh0,z6,if_neg (show ¬((20:Int)=19) by decide),zi8,zu0];unfold geE;by_cases h:u.Hi>=v.Lo
  ·rw [if_pos h,show decide ((wW nw u v).a_Hi>=(wW nw u v).b_Lo)=true from W3 h];rfl
  ·rw [if_neg h,show decide ((wW nw u v).a_Hi>=(wW nw u v).b_Lo)=false from W4 h];rfl
def ub0 (o):(match (pP o).2 with| .inl z=>some ((),.inl (z.2.1,z.1,()))| .inr _=>some ((),.inr ((),())))=some (pP (ji5 o)):=by cases o<;>rfl
def kp9 (o):(match (pP o).2 with| .inl z=>some ((),.inl (z.1,z.2.1,()))| .inr _=>some ((),.inr ((),())))=some (pP o):=by cases o<;>rfl
def gq9 (nw u v):X.qcm v3 (wW nw u v)=some (wW nw v u):=by rw [X.uo1];rfl
end Go.Y
namespace Go.Y
open Go.RowKit Go.V Go.X Go.Proofs
def gq2 (nw u v):qag (tW (wW nw u v))=decide (u.Lo=u.Hi/\v.Lo=v.Hi):=by
 rw [yb8,ya9];show (decide (u.Lo=u.Hi)&&decide (v.Lo=v.Hi))=_;by_cases a:u.Lo=u.Hi
 ·by_cases b:v.Lo=v.Hi
  ·rw [W3 a,W3 b,W3 (p:=u.Lo=u.Hi/\v.Lo=v.Hi) ⟨a,b⟩];rfl
  ·rw [W3 a,W4 b,W4 (p:=u.Lo=u.Hi/\v.Lo=v.Hi) (fun h=>b h.2)];rfl
 ·rw [W4 a,W4 (p:=u.Lo=u.Hi/\v.Lo=v.Hi) (fun h=>a h.1)];rfl
def qw3 (op:Int) {nw:Bool} (u v:j6) (hop:17<=op/\op<=22) (hu:SpOk nw u) (hv:SpOk nw v):X.qaw v3 (wW nw u v) op=some (pP (zx7 op u v)):=by
 obtain ⟨n,e⟩: ∃n:Nat,(v3:Nat)=n+1:=⟨999999999,rfl⟩;have h1:=hu.lo;have h2:=hu.le;have h3:=hu.hi;have h4:=jm4 nw;have g1:=hv.lo;have g2:=hv.le;have g3:=hv.hi;rw [X.uv7];unfold zx7;by_cases k1:op=17
 ·subst k1;have em:qda v3 (⟨(wW nw u v).a_Lo,(wW nw u v).a_Hi⟩:Span) (⟨(wW nw u v).b_Lo,(wW nw u v).b_Hi⟩:Span)=_:=wm6 u v;rw [show ((17:Int)==17)=true from rfl,z9,em,z6,zh0,z6,if_pos (show (17:Int)=17 from rfl)];by_cases h:max u.Lo v.Lo<=min u.Hi v.Hi
  ·rw [if_pos h,if_pos h];rfl
  ·rw [if_neg h,if_neg h];rfl
 rw [show (op==17)=false by simpa using k1,z5,if_neg k1];by_cases k2:op=18
 ·subst k2;have wu:X.qx v3 (⟨u.Lo,u.Hi⟩:Span) (⟨v.Lo,v.Hi⟩:Span)=some (woE u v):=jm5 u v hu;have wv:X.qx v3 (⟨v.Lo,v.Hi⟩:Span) (⟨u.Lo,u.Hi⟩:Span)=some (woE v u):=jm5 v u hv;have j0:X.jx1 (n+1) (wW nw u v).a_Lo (wW nw u v).a_Hi (wW nw u v).b_Lo (wW nw u v).b_Hi (wW nw u v).narrow (wW nw u v).most (wW nw u v).size 0 0 0 0=some (pP (some (woE u v,woE v u))):=by
   show X.jx1 (n+1) u.Lo u.Hi v.Lo v.Hi nw (j9 nw) (if nw then 32 else 64) 0 0 0 0=_;rw [X.kh6,wu,z6,wv,z6];rfl
  rw [show ((18:Int)==18)=true from rfl,z9,jx4,z6,zh0,z6,zh0,z6,e,j0,gq2,if_pos (show (18:Int)=18 from rfl)];by_cases a:u.Lo=u.Hi/\v.Lo=v.Hi
  ·rw [W3 a,W5,z5];by_cases a3:u.Lo=v.Lo
   ·rw [if_pos (c:=u.Lo=u.Hi/\v.Lo=v.Hi/\u.Lo=v.Lo) ⟨a.1,a.2,a3⟩,
     show (!(((wW nw u v).a_Lo==(wW nw u v).b_Lo)&&((wW nw u v).a_Hi==(wW nw u v).b_Hi)))=false by
      show (!((u.Lo==v.Lo)&&(u.Hi==v.Hi)))=false;rw [show (u.Lo==v.Lo)=true by simp [a3],show (u.Hi==v.Hi)=true by simp;omega];rfl]
    rfl
   ·rw [if_neg (c:=u.Lo=u.Hi/\v.Lo=v.Hi/\u.Lo=v.Lo) (fun h=>a3 h.2.2),
     show (!(((wW nw u v).a_Lo==(wW nw u v).b_Lo)&&((wW nw u v).a_Hi==(wW nw u v).b_Hi)))=true by
      show (!((u.Lo==v.Lo)&&(u.Hi==v.Hi)))=true;rw [show (u.Lo==v.Lo)=false by simp [a3]];rfl]
    rfl
  ·rw [W4 a,U3,z9,if_neg (c:=u.Lo=u.Hi/\v.Lo=v.Hi/\u.Lo=v.Lo) (fun h=>a ⟨h.1,h.2.1⟩)];rfl
 rw [show (op==18)=false by simpa using k2,z5,if_neg k2];by_cases k3:op=19
 ·subst k3;rw [show ((19:Int)==19)=true from rfl,z9,zh0,z6,if_pos (show (19:Int)=19 from rfl),zi8,zu0];unfold gtE;by_cases h:u.Hi>v.Lo
  ·rw [if_pos h,show decide ((wW nw u v).a_Hi>(wW nw u v).b_Lo)=true from W3 h,show IntKind.u64.wrap ((wW nw u v).b_Lo+1)=v.Lo+1 from zc1 (x:=v.Lo+1) (by omega),show IntKind.u64.wrap ((wW nw u v).a_Hi-1)=u.Hi-1 from zc1 (x:=u.Hi-1) (by omega)];rfl
  ·rw [if_neg h,show decide ((wW nw u v).a_Hi>(wW nw u v).b_Lo)=false from W4 h];rfl
 rw [show (op==19)=false by simpa using k3,z5,if_neg k3];by_cases k4:op=20
 ·subst k4;rw [show ((20:Int)==20)=true from rfl,z9,zh0,z6,if_pos (show (20:Int)=20 from rfl),zi8,zu0];unfold geE;by_cases h:u.Hi>=v.Lo
  ·rw [if_pos h,show decide ((wW nw u v).a_Hi>=(wW nw u v).b_Lo)=true from W3 h];rfl
  ·rw [if_neg h,show decide ((wW nw u v).a_Hi>=(wW nw u v).b_Lo)=false from W4 h];rfl
 rw [show (op==20)=false by simpa using k4,z5,if_neg k4];by_cases k5:op=21
 ·subst k5;rw [show ((21:Int)==21)=true from rfl,z9,gq9,z6,qy8 19 v u (.inl rfl) hv hu,z6,if_pos (show (21:Int)=21 from rfl)];exact ub0 _
 ·rw [show (op==21)=false by simpa using k5,z5,show (op==22)=true by simp;omega,z9,gq9,z6,qy8 20 v u (.inr rfl) hv hu,z6,if_neg k5];exact ub0 _
def ul8 (yes:Bool) {nw:Bool} (u v:j6) (hu:SpOk nw u) (hv:SpOk nw v):X.qak v3 (wW nw u v) yes=some (pP (zx2 yes u v)):=by
 obtain ⟨n,e⟩: ∃n:Nat,(v3:Nat)=n+1:=⟨999999999,rfl⟩;have h1:=hu.lo;have h2:=hu.le;have g1:=hv.lo;have g2:=hv.le;have e0:(g9 .u64 (wW nw u v).a_Lo (wW nw u v).b_Lo != (0:Int))= !(decide (u.Lo.toNat&&&v.Lo.toNat=0)):=by
  rw [show g9 .u64 (wW nw u v).a_Lo (wW nw u v).b_Lo=((u.Lo.toNat&&&v.Lo.toNat:Nat):Int) from zm5 hu.u.1 hv.u.1];by_cases k:u.Lo.toNat&&&v.Lo.toNat=0
  ·rw [k];rfl
  ·rw [W4 k];simp;omega
 have j0:X.qo5 (n+1) (wW nw u v).a_Lo (wW nw u v).a_Hi (wW nw u v).b_Lo (wW nw u v).b_Hi (wW nw u v).narrow (wW nw u v).most (wW nw u v).size 0 0 0 0=some (pP (some (u,v))):=by rw [X.ka8];rfl
 have j1:X.jk6 (n+1) (wW nw u v).a_Lo (wW nw u v).a_Hi (wW nw u v).b_Lo (wW nw u v).b_Hi (wW nw u v).narrow (wW nw u v).most (wW nw u v).size 0 0 0 0=some (pP (some (⟨max u.Lo 1,u.Hi⟩,⟨max v.Lo 1,v.Hi⟩))):=by rw [X.ke0,zi8,zi8];rfl
 rw [X.ug6,jx4,z6,zh0,z6,zh0,z6,zh0,z6,zh0,z6,e,j0,j1,e0,gq2];unfold zx2;cases yes with
 |false=>
  rw [U3,z9,if_pos (show false=false from rfl)];by_cases a:u.Lo=u.Hi/\v.Lo=v.Hi
  ·rw [W3 a,W5,z5];by_cases k:u.Lo.toNat&&&v.Lo.toNat=0
   ·rw [if_neg (c:=u.Lo=u.Hi/\v.Lo=v.Hi/\u.Lo.toNat&&&v.Lo.toNat≠0) (fun h=>h.2.2 k),W3 k];rfl
   ·rw [if_pos (c:=u.Lo=u.Hi/\v.Lo=v.Hi/\u.Lo.toNat&&&v.Lo.toNat≠0) ⟨a.1,a.2,k⟩,W4 k];rfl
  ·rw [W4 a,U3,z9,if_neg (c:=u.Lo=u.Hi/\v.Lo=v.Hi/\u.Lo.toNat&&&v.Lo.toNat≠0) (fun h=>a ⟨h.1,h.2.1⟩)];rfl
 |true=>
  rw [W5,z5,if_neg (show ¬(true=false) by decide)];by_cases k1:u.Hi>0
  ·rw [show decide ((wW nw u v).a_Hi>0)=true from W3 k1,z9];by_cases k2:v.Hi>0
   ·rw [show decide ((wW nw u v).b_Hi>0)=true from W3 k2,z9];by_cases a:u.Lo=u.Hi/\v.Lo=v.Hi
    ·rw [W3 a,W5,z5];by_cases k:u.Lo.toNat&&&v.Lo.toNat=0
     ·rw [if_neg (c:=u.Hi>0/\v.Hi>0/\ ¬(u.Lo=u.Hi/\v.Lo=v.Hi/\u.Lo.toNat&&&v.Lo.toNat=0)) (fun h=>h.2.2 ⟨a.1,a.2,k⟩),W3 k];rfl
     ·rw [if_pos (c:=u.Hi>0/\v.Hi>0/\ ¬(u.Lo=u.Hi/\v.Lo=v.Hi/\u.Lo.toNat&&&v.Lo.toNat=0)) ⟨k1,k2,fun h=>k h.2.2⟩,W4 k];rfl
    ·rw [W4 a,U3,z9,if_pos (c:=u.Hi>0/\v.Hi>0/\ ¬(u.Lo=u.Hi/\v.Lo=v.Hi/\u.Lo.toNat&&&v.Lo.toNat=0)) ⟨k1,k2,fun h=>a ⟨h.1,h.2.1⟩⟩];rfl
   ·rw [show decide ((wW nw u v).b_Hi>0)=false from W4 k2,z5,if_neg (c:=u.Hi>0/\v.Hi>0/\ ¬(u.Lo=u.Hi/\v.Lo=v.Hi/\u.Lo.toNat&&&v.Lo.toNat=0)) (fun h=>k2 h.2.1)];rfl
  ·rw [show decide ((wW nw u v).a_Hi>0)=false from W4 k1,z5,if_neg (c:=u.Hi>0/\v.Hi>0/\ ¬(u.Lo=u.Hi/\v.Lo=v.Hi/\u.Lo.toNat&&&v.Lo.toNat=0)) (fun h=>k1 h.1)];rfl
def pneg (nw u v x) (h:0<=x/\x<=j9 nw):X.qaa v3 (wW nw u v) x=some (zc0 nw x):=by rw [qk4,yb8,yn4 h];rfl
def pmix (nw u v s) (a:SpOk nw s):X.qav v3 (wW nw u v) s=some (zc0 nw s.Lo != zc0 nw s.Hi):=by rw [vy2,yb8,yy8 a];rfl
def kg1 (op:Int) {nw:Bool} (u v:j6) (hop:23<=op/\op<=26) (hu:SpOk nw u) (hv:SpOk nw v):X.qaz v3 (wW nw u v) op=some (pP (zr3 nw op u v)):=by
 obtain ⟨n,e⟩: ∃n:Nat,(v3:Nat)=n+1:=⟨999999999,rfl⟩;have h1:=hu.lo;have h2:=hu.le;have h3:=hu.hi;have h4:=jm4 nw;have g1:=hv.lo;have g2:=hv.le;have g3:=hv.hi;have mu:X.qav v3 (wW nw u v) (⟨(wW nw u v).a_Lo,(wW nw u v).a_Hi⟩:Span)=some (zc0 nw u.Lo != zc0 nw u.Hi):=pmix nw u v u hu;have mv:X.qav v3 (wW nw u v) (⟨(wW nw u v).b_Lo,(wW nw u v).b_Hi⟩:Span)=some (zc0 nw v.Lo != zc0 nw v.Hi):=pmix nw u v v hv;have bu:X.qaa v3 (wW nw u v) u.Lo=some (zc0 nw u.Lo):=pneg nw u v u.Lo (by omega);have bv:X.qaa v3 (wW nw u v) v.Lo=some (zc0 nw v.Lo):=pneg nw u v v.Lo (by omega);have jt:X.yx4 (n+1) op true u.Lo u.Hi v.Lo v.Hi nw (j9 nw) (wW nw u v).size 0 0 0 0=some (pP (some (u,v))):=by rw [X.qh4,z9];rfl
 have ew:IntKind.u8.wrap (IntKind.u8.wrap (op-23)+19)=op-4:=by rw [zx5,zx5];omega
 have jf:X.yx4 (n+1) op false u.Lo u.Hi v.Lo v.Hi nw (j9 nw) (wW nw u v).size 0 0 0 0=some (pP (if zc0 nw u.Lo=zc0 nw v.Lo then zx7 (op-4) u v else if (op=23\/op=24)↔zc0 nw v.Lo=true then some (u,v) else none)):=by
  have ep:X.qaw v3 (wW nw u v) (op-4)=some (pP (zx7 (op-4) u v)):=qw3 (op-4) u v (by omega) hu hv;rw [X.qh4,z5,ew];show z8 (X.qaa v3 (wW nw u v) u.Lo) (fun y1=>z8 (X.qaa v3 (wW nw u v) v.Lo) (fun y2=>j4 (y1==y2) (z8 (X.qaw v3 (wW nw u v) (op-4)) _) (j4 (op==23) (z8 (X.qaa v3 (wW nw u v) v.Lo) _) (z8 (X.qaa v3 (wW nw u v) v.Lo) _))))=_;rw [bu,z6,bv,z6,ep,z6,z6,z6];by_cases a3:zc0 nw u.Lo=zc0 nw v.Lo
  ·rw [show (zc0 nw u.Lo==zc0 nw v.Lo)=true by simp [a3],z9,if_pos a3];exact kp9 _
  ·rw [show (zc0 nw u.Lo==zc0 nw v.Lo)=false by simp [a3],z5,if_neg a3,zh0,z6,zh0,z6];by_cases k:op=23
   ·subst k;cases hx:zc0 nw v.Lo<;>rfl
   ·rw [show (op==23)=false by simpa using k,z5];by_cases k2:op=24
    ·subst k2;cases hx:zc0 nw v.Lo<;>rfl
    ·rw [show (op==24)=false by simpa using k2];cases hx:zc0 nw v.Lo with
     |true=>rw [if_neg (c:=(op=23\/op=24)↔true=true) (fun h=>by have:=h.2 rfl;omega)];rfl
     |false=>rw [if_pos (c:=(op=23\/op=24)↔false=true) ⟨fun h=>by omega,fun h=>by cases h⟩];rfl
 rw [X.ui9,mu,z6,mv,z6,e];show j4 _ (X.yx4 (n+1) op true u.Lo u.Hi v.Lo v.Hi nw (j9 nw) (wW nw u v).size 0 0 0 0) (X.yx4 (n+1) op _ u.Lo u.Hi v.Lo v.Hi nw (j9 nw) (wW nw u v).size 0 0 0 0)=_;rw [jt];unfold zr3;by_cases a1:zc0 nw u.Lo=zc0 nw u.Hi
 ·by_cases a2:zc0 nw v.Lo=zc0 nw v.Hi
  ·rw [show (zc0 nw u.Lo != zc0 nw u.Hi)=false by simp [a1],show (zc0 nw v.Lo != zc0 nw v.Hi)=false by simp [a2],z5,jf,if_neg (c:=zc0 nw u.Lo≠zc0 nw u.Hi\/zc0 nw v.Lo≠zc0 nw v.Hi) (fun h=>h.elim (fun h=>h a1) (fun h=>h a2))]
  ·rw [show (zc0 nw u.Lo != zc0 nw u.Hi)=false by simp [a1],show (zc0 nw v.Lo != zc0 nw v.Hi)=true by simp [a2],z5,jt,if_pos (.inr a2)]
 ·rw [show (zc0 nw u.Lo != zc0 nw u.Hi)=true by simp [a1],z9,if_pos (.inl a1)]
end Go.Y
namespace Go.Y
open Go.RowKit Go.V Go.X Go.Proofs
def ug9 (op:Int) (yes:Bool) {nw:Bool} (u v:j6) (hop:17<=op/\op<=27) (hu:SpOk nw u) (hv:SpOk nw v):X.qbg v3 (wW nw u v) op yes=some (pP (qc9 nw op yes u v)):=by
 obtain ⟨n,e⟩: ∃n:Nat,(v3:Nat)=n+1:=⟨999999999,rfl⟩;have j0: ∀p:Int,17<=p/\p<=26->X.jy3 (n+1) p (wW nw u v).a_Lo (wW nw u v).a_Hi (wW nw u v).b_Lo (wW nw u v).b_Hi (wW nw u v).narrow (wW nw u v).most (wW nw u v).size 0 0 0 0=some (pP (if p>=23 then zr3 nw p u v else zx7 p u v)):=fun p hp=>by
  rw [X.kj6];show j4 (decide (p>=23)) (z8 (X.qaz v3 (wW nw u v) p) _) (z8 (X.qaw v3 (wW nw u v) p) _)=_;by_cases k:p>=23
  ·rw [W3 k,z9,kg1 p u v (by omega) hu hv,z6,if_pos k];exact kp9 _
  ·rw [W4 k,z5,qw3 p u v (by omega) hu hv,z6,if_neg k];exact kp9 _
 rw [X.zac3,e];unfold qc9;by_cases k:op=27
 ·rw [show (op==27)=true by simp [k],z9,<-e,ul8 yes u v hu hv,z6,if_pos k];exact kp9 _
 ·rw [show (op==27)=false by simp [k],z5,if_neg k];cases yes with
  |true=>rw [W5,z5,j0 op (by omega)];rfl
  |false=>
   have ho:=kv0 (op:=op) (by omega);rw [U3,z9,X.uf6,z6,if_pos (by omega)];have hg:([0,0,0,0,0,0,0,0,0,0,0,0,0,0,0,0,0,18,17,22,21,20,19,26,25,24,23,27]:List Int).getD op.toNat 0=jh1 op:=by
    have hh:op=17\/op=18\/op=19\/op=20\/op=21\/op=22\/op=23\/op=24\/op=25\/op=26:=by omega
    rcases hh with rfl|rfl|rfl|rfl|rfl|rfl|rfl|rfl|rfl|rfl<;>rfl
   show X.jy3 (n+1) (([0,0,0,0,0,0,0,0,0,0,0,0,0,0,0,0,0,18,17,22,21,20,19,26,25,24,23,27]:List Int).getD op.toNat 0) (wW nw u v).a_Lo (wW nw u v).a_Hi (wW nw u v).b_Lo (wW nw u v).b_Hi (wW nw u v).narrow (wW nw u v).most (wW nw u v).size 0 0 0 0=_;rw [hg,j0 _ (by omega)];rfl
def wz2 (op:Int) (nw yes:Bool) (a b:j6) (ha:q8 a.Lo/\q8 a.Hi) (hb:q8 b.Lo/\q8 b.Hi):X.qad v3 op nw yes a b=some ((),((ifE op nw yes a b).1,(ifE op nw yes a b).2.1,(ifE op nw yes a b).2.2,())):=by
 obtain ⟨n,e⟩: ∃n:Nat,(v3:Nat)=n+1:=⟨999999999,rfl⟩;rw [X.zac2,zb7,z6,zb7,z6,zr6,z6,e];unfold ifE;by_cases h1:op<17
 ·rw [W3 h1,z9,if_neg (fun h=>by have:=h.1.1;omega)]
 rw [W4 h1,z5];by_cases h2:op>27
 ·rw [W3 h2,z9,if_neg (fun h=>by have:=h.1.2;omega)]
 rw [W4 h2,z5];by_cases h3:a.Lo<=a.Hi
 ·rw [show q9 a=true from W3 h3,W5,z5];by_cases h4:b.Lo<=b.Hi
  ·rw [show q9 b=true from W3 h4,W5,z5,if_pos ⟨by omega,h3,h4⟩,<-e,ug9 op yes _ _ (by omega) (zl5 ha h3) (zl5 hb h4),z6,e];cases qc9 nw op yes (qh a nw) (qh b nw) with
   |none=>show z8 (X.qcn 0 0 0 0 false) _=_;rw [X.zaa4,z6];rfl
   |some p=>
    have j0: ∀x:j6,X.jk0 (n+1) x.Lo x.Hi p.2.Lo p.2.Hi false b.Lo b.Hi (qh a nw).Lo (qh a nw).Hi (qh b nw).Lo (qh b nw).Hi nw (j9 nw) (if nw then 32 else 64)=some ((),(x,if b.Hi>j9 nw then b else p.2,true,())):=fun x=>by
     rw [X.ki5,X.gl1,z6,X.gl1,z6];by_cases k:b.Hi>j9 nw
     ·rw [W3 k,if_pos k];rfl
     ·rw [W4 k,if_neg k];rfl
    show j4 (decide (a.Hi>j9 nw)) (X.jk0 (n+1) a.Lo a.Hi p.2.Lo p.2.Hi false b.Lo b.Hi (qh a nw).Lo (qh a nw).Hi (qh b nw).Lo (qh b nw).Hi nw (j9 nw) (if nw then 32 else 64)) (X.jk0 (n+1) p.1.Lo p.1.Hi p.2.Lo p.2.Hi false b.Lo b.Hi (qh a nw).Lo (qh a nw).Hi (qh b nw).Lo (qh b nw).Hi nw (j9 nw) (if nw then 32 else 64))=_;rw [j0,j0];unfold finE;by_cases k:a.Hi>j9 nw
    ·rw [W3 k];simp only [if_pos k];rfl
    ·rw [W4 k];simp only [if_neg k];rfl
  ·rw [show q9 b=false from W4 h4,U3,z9,if_neg (fun h=>h4 h.2.2)]
 ·rw [show q9 a=false from W4 h3,U3,z9,if_neg (fun h=>h3 h.2.1)]
end Go.Y
namespace Go.Y
open Go.RowKit Go.V Go.X Go.Proofs
structure TKnown where
 Kind:Int
 In:j6
def w8 (a:TKnown):Bool:=(if (a.Kind==(4:Int)) then ((a.In.Lo==(0:Int))&&(a.In.Hi==(0:Int))) else (if (a.Kind==(0:Int)) then ((a.In.Lo==(0:Int))&&(a.In.Hi==(0:Int))) else (if (a.Kind==(1:Int)) then (za5 (q9 a.In) fun b=>b) else (if (a.Kind==(2:Int)) then (za5 (q9 a.In) fun c=>c) else ((a.Kind==(3:Int))&&((a.In.Lo==(zn0 a.In.Lo).Lo)&&(a.In.Hi==(zn0 a.In.Lo).Hi)))))))
def ql (a:TKnown):(j6×Bool):=(if (a.Kind==(4:Int)) then ((⟨(0:Int),(65535:Int)⟩:j6),true) else (a.In,(a.Kind==(1:Int))))
def za0 (a:TKnown) (c:Int) (d:Int) (e:Int):Bool:=(za5 (w8 a) fun b=>(if (!b) then false else (if (a.Kind==(0:Int)) then true else (if (a.Kind==(4:Int)) then (((c==(1:Int))&&(decide (e>=(0:Int))))&&(d==(IntKind.u64.wrap e))) else ((c==a.Kind)&&(ya5 a.In d))))))
def zi4 (a:TKnown) (b:TKnown):TKnown:=(za5 (ql a) fun c=>(za5 (ql b) fun d=>(za5 (w8 a) fun g=>(if ((!g)||(!(w8 b))) then (⟨(0:Int),(⟨(0:Int),(0:Int)⟩:j6)⟩:TKnown) else (if ((a.Kind==b.Kind)&&((a.In.Lo==b.In.Lo)&&(a.In.Hi==b.In.Hi))) then a else (if (c.2&&d.2) then (za5 (zf0 c.1 d.1) fun e=>(⟨(1:Int),e⟩:TKnown)) else (if ((a.Kind==(2:Int))&&(b.Kind==(2:Int))) then (za5 (zf0 a.In b.In) fun f=>(⟨(2:Int),f⟩:TKnown)) else (⟨(0:Int),(⟨(0:Int),(0:Int)⟩:j6)⟩:TKnown))))))))
def qbz (b:j6) (c:Bool):Bool:=(za5 (ya5 b (0:Int)) fun a=>(a||(c&&(!(ym5 b (zg8 true))))))
def zy5 (j:Int) (k:Bool) (l:TKnown) (m:TKnown) (a:Int) (b:Int) (c:Int) (f:Int) (g:Int) (h:Int) (i:(j6×Bool)) (d:(j6×Bool)) (e:Bool):(TKnown×Int):=(if e then ((⟨a,(span_Do j false (⟨b,c⟩:j6) d.1)⟩:TKnown),(0:Int)) else ((⟨(0:Int),(⟨(0:Int),(0:Int)⟩:j6)⟩:TKnown),(114:Int)))
def zg4 (i:Int) (j:Bool) (l:TKnown) (m:TKnown) (b:Int) (d:Int) (e:Int) (f:Int) (g:Int) (h:Int):(TKnown×Int):=(za5 (ql (⟨b,(⟨d,e⟩:j6)⟩:TKnown)) fun c=>(za5 (ql (⟨f,(⟨g,h⟩:j6)⟩:TKnown)) fun a=>(if (((c.2&&a.2)&&((i==(4:Int))||(i==(5:Int))))&&(qbz a.1 j)) then ((⟨(0:Int),(⟨(0:Int),(0:Int)⟩:j6)⟩:TKnown),(113:Int)) else (if (c.2&&a.2) then (za5 (span_Do i j c.1 a.1) fun k=>((⟨(1:Int),k⟩:TKnown),(0:Int))) else (if (((((i==(1:Int))||(i==(2:Int)))&&(!j))&&a.2)&&(b==(2:Int))) then (zy5 i j l m b d e f g h c a true) else (zy5 i j l m b d e f g h c a ((((((i==(1:Int))||(i==(2:Int)))&&(!j))&&a.2)&&(b==(3:Int)))&&(a.1.Lo==a.1.Hi))))))))
def zp5 (c:Int) (d:Bool) (b:TKnown) (a:TKnown):(TKnown×Int):=(if ((((decide (c<(1:Int)))||(decide (c>(13:Int))))||(!(w8 b)))||(!(w8 a))) then ((⟨(0:Int),(⟨(0:Int),(0:Int)⟩:j6)⟩:TKnown),(2:Int)) else (if (((c != (12:Int))&&(b.Kind==(0:Int)))||((c != (13:Int))&&(a.Kind==(0:Int)))) then ((⟨(0:Int),(⟨(0:Int),(0:Int)⟩:j6)⟩:TKnown),(110:Int)) else (if ((c==(12:Int))&&(!d)) then (a,(0:Int)) else (if (c==(12:Int)) then (zg4 c d b a a.Kind a.In.Lo a.In.Hi a.Kind a.In.Lo a.In.Hi) else (if (c==(13:Int)) then (zg4 c d b a b.Kind b.In.Lo b.In.Hi b.Kind b.In.Lo b.In.Hi) else (zg4 c d b a b.Kind b.In.Lo b.In.Hi a.Kind a.In.Lo a.In.Hi))))))
def tk (k:Known):TKnown:=⟨k.Kind,⟨k.In_Lo,k.In_Hi⟩⟩
def ofT (t:TKnown):Known:=⟨t.Kind,t.In.Lo,t.In.Hi⟩
def zag9 (s x):qeb v3 s x=some (ya5 s x):=by rw [ux1,zx8];rfl
def kw9 (s t):qec v3 s t=some (ym5 s t):=by rw [uy8,zx8];rfl
def wl6 (s t):qdr v3 s t=some (zf0 s t):=by rw [uq1];rfl
def ja2 (k:Known):qaq v3 k=some (w8 (tk k)):=by
 obtain ⟨n,e⟩: ∃n:Nat,(v3:Nat)=n+1:=⟨999999999,rfl⟩;have h:qaq (n+1) k=some (w8 (tk k)):=by
  rw [uv5,kg6,kh1,zb7,gi7,z6,z6];simp only [za9];congr 1;simp only [w8,za5,tk,q9,zn0];by_cases h4:k.Kind=4
  ·simp [h4]
  by_cases h3:k.Kind=3
  ·simp [h3]
  by_cases h0:k.Kind=0
  ·simp [h0]
  by_cases h1:k.Kind=1
  ·simp [h1];rfl
  by_cases h2:k.Kind=2
  ·simp [h2];rfl
  simp [h0,h1,h2,h3,h4]
 rw [e];exact h
def yp6 (k):X.ql v3 k=some (ql (tk k)):=by
 rw [X.zak3,za9];congr 1
def vw2 (a b:Known):qaf v3 a b=some (ofT (zi4 (tk a) (tk b))):=by
 obtain ⟨n,e⟩: ∃n:Nat,(v3:Nat)=n+1+1+1:=⟨999999997,rfl⟩;have h:qaf (n+1+1+1) a b=some (ofT (zi4 (tk a) (tk b))):=by
  rw [ui7,yp6,z6,yp6,z6,ja2,z6,ja2,z6];unfold zi4;simp only [za5];generalize w8 (tk a)=ra;generalize w8 (tk b)=rb;simp only [kc3,vz0,ke8,wl6,z6,za9];congr 1;cases ra with
  |false=>rfl
  |true=>
   cases rb with
   |false=>rfl
   |true=>
    simp only [W5,Bool.or_self,W8,if_false];by_cases he:((a.Kind==b.Kind)&&((a.In_Lo==b.In_Lo)&&(a.In_Hi==b.In_Hi)))=true
    ·rw [if_pos he,if_pos (show ((tk a).Kind==(tk b).Kind&&((tk a).In.Lo==(tk b).In.Lo&&(tk a).In.Hi==(tk b).In.Hi))=true from he)];rfl
    ·rw [if_neg he,if_neg (show ¬((tk a).Kind==(tk b).Kind&&((tk a).In.Lo==(tk b).In.Lo&&(tk a).In.Hi==(tk b).In.Hi))=true from he)];show _=ofT (if ((ql (tk a)).2&&(ql (tk b)).2)=true then _ else if ((a.Kind==2)&&(b.Kind==2))=true then _ else _);generalize ql (tk a)=na;generalize ql (tk b)=nb;obtain ⟨sa,ca⟩:=na;obtain ⟨sb,cb⟩:=nb;cases ca<;>cases cb<;>cases (a.Kind==2)<;>cases (b.Kind==2)<;>rfl
 rw [e];exact h
def ke3 (s nw):X.qbz v3 s nw=some (qbz s nw):=by
 rw [X.uy9,zag9,z6,zz3,z6,kw9,z6];simp only [za9];congr 1;unfold qbz;simp only [za5];cases ya5 s 0<;>cases nw<;>rfl
def jq9 {a} (h:q8 a.In.Lo/\q8 a.In.Hi):q8 (ql a).1.Lo/\q8 (ql a).1.Hi:=by
 unfold ql;split
 ·exact ⟨by decide,by decide⟩
 ·exact h
def pk (x:TKnown×Int):Known×Int:=(ofT x.1,x.2)
def vo1 (n:Nat) (op:Int) (nw:Bool) (p q:TKnown) (x y:Known) (g:q8 x.In_Lo/\q8 x.In_Hi) (k:q8 y.In_Lo/\q8 y.In_Hi) (h i j:Int) (l:h=0/\i=0/\j=0):
  ve5 (n+1+1+1+1+1+1) op nw x.Kind x.In_Lo x.In_Hi y.Kind y.In_Lo y.In_Hi h i j=some (pk (zg4 op nw p q x.Kind x.In_Lo x.In_Hi y.Kind y.In_Lo y.In_Hi)):=by
 obtain ⟨rfl,rfl,rfl⟩:=l;have nx:=jq9 (a:=tk x) g;have f:=jq9 (a:=tk y) k;rw [ge3,show (⟨x.Kind,x.In_Lo,x.In_Hi⟩:Known)=x from rfl,show (⟨y.Kind,y.In_Lo,y.In_Hi⟩:Known)=y from rfl,yp6,z6,yp6,z6];unfold zg4;simp only [za5];rw [show (⟨x.Kind,⟨x.In_Lo,x.In_Hi⟩⟩:TKnown)=tk x from rfl,show (⟨y.Kind,⟨y.In_Lo,y.In_Hi⟩⟩:TKnown)=tk y from rfl];generalize ql (tk x)=na at nx⊢;generalize ql (tk y)=nb at f⊢;obtain ⟨⟨sl,m⟩,c1⟩:=na;obtain ⟨⟨d,e⟩,c2⟩:=nb;have b:=do_v op nw ⟨sl,m⟩ ⟨d,e⟩ nx f;have c:=do_v op false ⟨x.In_Lo,x.In_Hi⟩ ⟨d,e⟩ g f;simp only [gc8,gf2,kz8,ky4,ky9,ke3,z6,b,c,za9];refine congrArg some ?_;unfold zy5;generalize qbz ⟨d,e⟩ nw=nt;generalize (d==e)=et;generalize (x.Kind==2)=k2;generalize (x.Kind==3)=k3;generalize (op==1)=o1;generalize (op==2)=o2;generalize (op==4)=o4;generalize (op==5)=o5;clear b c;cases c1 with
 |true=>cases c2 with
  |true=>cases o4<;>cases o5<;>cases nt<;>cases o1<;>cases o2<;>cases nw<;>rfl
  |false=>cases o1<;>cases o2<;>cases nw<;>rfl
 |false=>cases c2 with
  |true=>cases o1<;>cases o2<;>cases nw<;>cases k2<;>cases k3<;>cases et<;>rfl
  |false=>cases o1<;>cases o2<;>cases nw<;>rfl
def zaj7 (op:Int) (nw:Bool) (a b:Known) (ha:q8 a.In_Lo/\q8 a.In_Hi) (hb:q8 b.In_Lo/\q8 b.In_Hi):qd v3 op nw a b=some (pk (zp5 op nw (tk a) (tk b))):=by
 obtain ⟨n,e⟩: ∃n:Nat,(v3:Nat)=n+1+1+1+1+1+1+1+1+1:=⟨999999991,rfl⟩;have h:qd (n+1+1+1+1+1+1+1+1+1) op nw a b=some (pk (zp5 op nw (tk a) (tk b))):=by
  have e1:=vo1 n op nw (tk a) (tk b) b b hb hb 0 0 0 ⟨rfl,rfl,rfl⟩;have e2:=vo1 n op nw (tk a) (tk b) a a ha ha 0 0 0 ⟨rfl,rfl,rfl⟩;have e3:=vo1 n op nw (tk a) (tk b) a b ha hb 0 0 0 ⟨rfl,rfl,rfl⟩;rw [zaf7,ja2,z6,ja2,z6];unfold zp5;generalize w8 (tk a)=ra;generalize w8 (tk b)=rb;simp only [ge8,ky0,gc1,e1,e2,e3,za9];refine congrArg some ?_;simp only [tk];by_cases h1:op<1
  ·simp [h1,pk,ofT]
  by_cases h2:op>13
  ·simp [h1,h2,pk,ofT]
  simp only [W4 h1,W4 h2,W8,if_false,Bool.false_or];cases ra with
  |false=>rfl
  |true=>
   cases rb with
   |false=>rfl
   |true=>
    by_cases h12:op=12
    ·subst h12;by_cases hb0:b.Kind=0<;>cases nw<;>simp [hb0,pk,ofT]
    ·by_cases h13:op=13
     ·subst h13;by_cases ha0:a.Kind=0<;>simp [ha0,pk,ofT]
     ·simp only [show (op==12)=false from beq_eq_false_iff_ne.2 h12,show (op==13)=false from beq_eq_false_iff_ne.2 h13,show (op != 12)=true from bne_iff_ne.2 h12,show (op != 13)=true from bne_iff_ne.2 h13];by_cases ha0:a.Kind=0<;>by_cases hb0:b.Kind=0<;>simp [ha0,hb0,pk,ofT]
 rw [e];exact h
def zaj1 {op nw a b} (d:q8 a.In.Lo/\q8 a.In.Hi) (c:q8 b.In.Lo/\q8 b.In.Hi):q8 (zp5 op nw a b).1.In.Lo/\q8 (zp5 op nw a b).1.In.Hi:=by
 have z:q8 (0:Int)/\q8 (0:Int):=⟨by decide,by decide⟩;have e: ∀(nw:Bool) (s t:j6),q8 s.Lo/\q8 s.Hi->q8 t.Lo/\q8 t.Hi->q8 (span_Do op nw s t).Lo/\q8 (span_Do op nw s t).Hi:=by
  intro nw s t j k;rw [zr7];split
  ·rename_i h;have:=(jt9 h.1 (nw:=nw) j k h.2.1 h.2.2).1;rw [zr7,if_pos h] at this;exact this.u
  ·cases nw<;>exact ⟨by decide,by decide⟩
 have f: ∀(x y:TKnown),q8 x.In.Lo/\q8 x.In.Hi->q8 y.In.Lo/\q8 y.In.Hi->q8 (zg4 op nw a b x.Kind x.In.Lo x.In.Hi y.Kind y.In.Lo y.In.Hi).1.In.Lo/\q8 (zg4 op nw a b x.Kind x.In.Lo x.In.Hi y.Kind y.In.Lo y.In.Hi).1.In.Hi:=by
  intro x y g l;have nx:=jq9 g;have i:=jq9 l;unfold zg4;simp only [za5];rw [show (⟨x.Kind,⟨x.In.Lo,x.In.Hi⟩⟩:TKnown)=x from rfl,show (⟨y.Kind,⟨y.In.Lo,y.In.Hi⟩⟩:TKnown)=y from rfl];unfold zy5;split
  ·exact z
  ·split
   ·exact e _ _ _ nx i
   ·split
    ·exact e _ _ _ g i
    ·split
     ·exact e _ _ _ g i
     ·exact z
 unfold zp5;split
 ·exact z
 ·split
  ·exact z
  ·split
   ·exact c
   ·split
    ·exact f _ _ c c
    ·split
     ·exact f _ _ d d
     ·exact f _ _ d c
def wi9 {a b} (c:q8 a.In.Lo/\q8 a.In.Hi) (d:q8 b.In.Lo/\q8 b.In.Hi):q8 (zi4 a b).In.Lo/\q8 (zi4 a b).In.Hi:=by
 have z:q8 (0:Int)/\q8 (0:Int):=⟨by decide,by decide⟩;have e: ∀(s t:j6),q8 s.Lo/\q8 s.Hi->q8 t.Lo/\q8 t.Hi->q8 (zf0 s t).Lo/\q8 (zf0 s t).Hi:=by
  intro s t f g;unfold zf0 zo7 zh7;constructor
  ·show q8 (if _ then _ else _);split
   ·exact g.1
   ·exact f.1
  ·show q8 (if _ then _ else _);split
   ·exact g.2
   ·exact f.2
 have nx:=jq9 c;have h:=jq9 d;unfold zi4;simp only [za5];split
 ·exact z
 ·split
  ·exact c
  ·split
   ·exact e _ _ nx h
   ·split
    ·exact e _ _ c d
    ·exact z
end Go.Y
namespace Go.Y
open Go.RowKit Go.V Go.X Go.Proofs
abbrev Pl:=Go.X.Place
abbrev PW:=(List Ins×Unit×Int×Bool×Unit×List Bool×Int×Unit)×List Pl×List Known×Unit
def W (l:List Ins) (b:List Pl) (a:Int) (w:Pl):PW:=((l,(),a,w.Live,(),w.Bytes,w.Least,()),b,w.Regs,())
def toS {α:Type} (x:α⊕Int):(α×Unit)⊕(Int×Unit):=match x with| .inl a=>.inl (a,())| .inr e=>.inr (e,())
def yd2 (c e):qay v3 c e=some ((),if c=true then .inr (e,()) else .inl ()):=by rw [un0];cases c<;>rfl
def qj9 (e):qcy v3 e=some ((),if e=0 then .inl () else .inr (e,())):=by
 rw [up8,yd2,z6];by_cases h:e=0
 ·subst h;rfl
 ·rw [if_neg h,show (e != 0)=true from bne_iff_ne.2 h];rfl
def ym0 (a:Int) (k:Known):j6⊕Int:=if k.Kind=0 then .inr 110 else if k.Kind=1 then .inl ⟨k.In_Lo,k.In_Hi⟩ else if k.Kind=4 then .inl ⟨IntKind.u64.wrap a,65535⟩ else .inr 111
def yo3 (l ps a w k):qaj v3 l ps a w.Live w.Regs w.Bytes w.Least k=some (W l ps a w,toS (ym0 w.Least k)):=by
 rw [gu1];simp only [yd2,z6,j5];unfold ym0;by_cases b:k.Kind=0
 ·simp [b];exact ⟨rfl,rfl⟩
 by_cases c:k.Kind=1
 ·simp [c];exact ⟨rfl,rfl⟩
 by_cases d:k.Kind=4
 ·simp [d];exact ⟨rfl,rfl⟩
 ·simp [b,c,d];exact ⟨rfl,rfl⟩
def yl8 (a:List Known) (i:Ins):Known:=if i.UseImm=true then ⟨1,IntKind.u64.wrap i.Imm,IntKind.u64.wrap i.Imm⟩ else a.getD i.Src.toNat j7
def jt7 (l ps a w i) (c:w.Regs.length=11) (b:i.UseImm=true\/0<=i.Src/\i.Src<=10):qas v3 l ps a w.Live w.Regs w.Bytes w.Least i=some (W l ps a w,(yl8 w.Regs i,())):=by
 rw [gn1,gi7,z6];unfold yl8;by_cases h:i.UseImm=true
 ·rw [h,z9];rfl
 ·rw [Bool.not_eq_true] at h;have b:=b.resolve_left (by rw [h];decide);rw [h,z5,if_pos (by omega)];rfl
def yg1 (lv rs bs n) (a:rs.length=11) (d:bs.length<=512):qca v3 lv rs bs n=some ((rs,()),((lv,rs,bs,n,()),())):=by
 have b:qfe v3 rs=some rs:=by
  rw [us7,if_pos (by rw [a];decide),N4];cases rs with
  |nil=>exact qh2 _ _
  |cons x r=>rfl
 have c:qff v3 bs=some bs:=by
  rw [uq7,if_pos (by omega),N4];cases bs with
  |nil=>exact qh2 _ _
  |cons x r=>rfl
 rw [uh2,b,z6,c,z6]
def km2 (a b:Known):Known:=ofT (zi4 (tk a) (tk b))
def jr (q p:List Known):Nat->List Known
 |0=>q
 |k+1=>(jr q p k).set k (km2 (q.getD k j7) (p.getD k j7))
def jj6 (q p): ∀k,(jr q p k).length=q.length
 |0=>rfl
 |k+1=>by rw [jr,Q1,jj6 q p k]
def gw1 (q p j): ∀k,(jr q p k)[j]?=if j<k/\j<q.length then some (km2 (q.getD j j7) (p.getD j j7)) else q[j]?
 |0=>by rw [jr,if_neg (by omega)]
 |k+1=>by
  rw [jr,List.getElem?_set,jj6,gw1 q p j k];by_cases b:k=j
  ·subst b;rw [if_pos rfl];by_cases a:k<q.length
   ·rw [if_pos a,if_pos ⟨by omega,a⟩]
   ·rw [if_neg a,if_neg (by omega),Y5 (by omega)]
  ·rw [if_neg b];by_cases h:j<k/\j<q.length
   ·rw [if_pos h,if_pos (by omega)]
   ·rw [if_neg h,if_neg (by omega)]
def go6 (q p k):(jr q p k).getD k j7=q.getD k j7:=by
 rw [Y2,gw1,if_neg (by omega),<-List.getD_eq_getElem?_getD]
def zm3 (a:List Pl) (k:Nat) (p:Pl):List Pl:=if (a.getD k j8).Live=true then a.set k ⟨true,jr (a.getD k j8).Regs p.Regs 11,qa8 (a.getD k j8).Bytes p.Bytes,zo7 (a.getD k j8).Least p.Least⟩ else a.set k p
def vu7 (l ps a w t) (d:0<=t/\t<(ps.length:Int)) (c:w.Regs.length=11) (e:w.Bytes.length<=512) (b:(ps.getD t.toNat j8).Live=true->(ps.getD t.toNat j8).Regs.length=11):
  qar v3 l ps a w.Live w.Regs w.Bytes w.Least t w.Live w.Bytes w.Least=some (W l (zm3 ps t.toNat w) a w,()):=by
 rw [uq0,if_pos d,if_pos (by omega)];unfold zm3;cases hl:(ps.getD t.toNat j8).Live with
 |false=>rw [U3,z9,yg1 _ _ _ _ c e,z6,if_pos (by omega),if_neg (by decide)];rfl
 |true=>
  rw [W5,z5,if_pos (by omega),if_pos rfl];have b:=b hl;refine vf6 (fun n k=>yx6 n t.toNat (((ps.getD t.toNat j8).Regs.length:Nat):Int) (k:Int) l a w.Live w.Bytes w.Least ps t.toNat true (ps.getD t.toNat j8).Bytes (ps.getD t.toNat j8).Least w.Regs w.Live w.Bytes w.Least (jr (ps.getD t.toNat j8).Regs w.Regs k)) 1 11 _ (fun n k f=>?_) (fun n=>?_) v3 (by unfold v3;omega)
  ·show yx6 (n+1) _ _ (k:Int) _ _ _ _ _ _ _ _ _ _ _ _ _ _ _=yx6 n _ _ ((k+1:Nat):Int) _ _ _ _ _ _ _ _ _ _ _ _ _ _ (jr _ _ (k+1));rw [qb7,W3 (by omega),z9,if_pos rfl,if_pos rfl,jj6,b,c,if_pos (by omega),if_pos (by omega),Z1,go6,vw2,z6,if_pos (by omega),nx f (by omega)];rfl
  ·show yx6 (n+1) _ _ ((11:Nat):Int) _ _ _ _ _ _ _ _ _ _ _ _ _ _ _=_;rw [qb7,b,W4 (by omega),z5,if_pos rfl,wy8,z6,if_pos rfl,if_pos rfl,if_pos rfl];rfl
def vs7 (l:List Ins) (b:List Pl) (a:Int) (w p:Pl) (t:Int) (e:0<=t/\t<(b.length:Int)) (d:p.Regs.length=11) (f:p.Bytes.length<=512) (c:(b.getD t.toNat j8).Live=true->(b.getD t.toNat j8).Regs.length=11):
  qax v3 l b a w.Live w.Regs w.Bytes w.Least t p.Live p.Regs p.Bytes p.Least=some (((l,(),a,w.Live,(),w.Bytes,w.Least,()),zm3 b t.toNat p,w.Regs,p.Regs,()),()):=by
 rw [uf4,if_pos e,if_pos (by omega)];unfold zm3;cases hl:(b.getD t.toNat j8).Live with
 |false=>rw [U3,z9,yg1 _ _ _ _ d f,z6,if_pos (by omega),if_neg (by decide)]
 |true=>
  rw [W5,z5,if_pos (by omega),if_pos rfl];have c:=c hl;refine vf6 (fun n k=>yx8 n t.toNat (((b.getD t.toNat j8).Regs.length:Nat):Int) (k:Int) l a w.Live w.Bytes w.Least b t.toNat true (b.getD t.toNat j8).Bytes (b.getD t.toNat j8).Least w.Regs p.Regs p.Live p.Bytes p.Least (jr (b.getD t.toNat j8).Regs p.Regs k)) 1 11 _ (fun n k g=>?_) (fun n=>?_) v3 (by unfold v3;omega)
  ·show yx8 (n+1) _ _ (k:Int) _ _ _ _ _ _ _ _ _ _ _ _ _ _ _ _=yx8 n _ _ ((k+1:Nat):Int) _ _ _ _ _ _ _ _ _ _ _ _ _ _ _ (jr _ _ (k+1));rw [qe8,W3 (by omega),z9,if_pos rfl,if_pos rfl,jj6,c,d,if_pos (by omega),if_pos (by omega),Z1,go6,vw2,z6,if_pos (by omega),nx g (by omega)];rfl
  ·show yx8 (n+1) _ _ ((11:Nat):Int) _ _ _ _ _ _ _ _ _ _ _ _ _ _ _ _=_;rw [qe8,c,W4 (by omega),z5,if_pos rfl,wy8,z6,if_pos rfl,if_pos rfl,if_pos rfl]
end Go.Y
namespace Go.Y
open Go.RowKit Go.V Go.X Go.Proofs
abbrev Out:=List (Int×Pl)⊕Int
def zd1 (a:List Pl):List (Int×Pl)->List Pl
 | []=>a
 |x::r=>zd1 (zm3 a x.1.toNat x.2) r
def zo5 (a:List Pl) (o:Out):List Pl:=match o with| .inl b=>zd1 a b| .inr _=>a
def yz4 (o:Out):Unit⊕(Int×Unit):=match o with| .inl _=>.inl ()| .inr e=>.inr (e,())
def QOk (a:List Pl):Prop:= ∀k,(a.getD k j8).Live=true->(a.getD k j8).Regs.length=11
def ze1 (a:List Pl) (k j:Nat) (p:Pl):(a.set k p).getD j j8=if k=j/\j<a.length then p else a.getD j j8:=by
 rw [Y2,Y2,List.getElem?_set];by_cases h:k=j
 ·subst h;by_cases b:k<a.length
  ·rw [if_pos rfl,if_pos b,if_pos ⟨rfl,b⟩];rfl
  ·rw [if_pos rfl,if_neg b,if_neg (fun h=>b h.2),Y5 (by omega)]
 ·rw [if_neg h,if_neg (fun c=>h c.1)]
def je3 (ps k p):(zm3 ps k p).length=ps.length:=by unfold zm3;split<;>rw [Q1]
def wh1 {d} (h:QOk d) (k) {p} (e:p.Regs.length=11):QOk (zm3 d k p):=by
 intro j a;unfold zm3 at a⊢;split at a
 ·rename_i b;rw [if_pos b];rw [ze1] at a⊢;split
  ·rw [jj6];exact h k b
  ·rename_i c;rw [if_neg c] at a;exact h j a
 ·rename_i b;rw [if_neg b];rw [ze1] at a⊢;split
  ·exact e
  ·rename_i c;rw [if_neg c] at a;exact h j a
def qj1 (l ps a lv rs bs n) (e:0<=a/\a+1<(ps.length:Int)) (f:ps.length<=4096) (b:rs.length=11) (c:bs.length<=512) (d:QOk ps):
  qcl v3 l ps a lv rs bs n lv bs n=some (W l (zm3 ps (a+1).toNat ⟨lv,rs,bs,n⟩) a ⟨lv,rs,bs,n⟩,()):=by
 rw [uj4,u0 (by omega)];have h:=vu7 l ps a ⟨lv,rs,bs,n⟩ (a+1) (by omega) b c (d _);dsimp only at h;rw [h,z6]
 try rfl
def ut7 (l ps a lv rs bs n) (b:0<=a/\a<(l.length:Int)) (f:0<=a+1+(l.getD a.toNat za1).Off/\a+1+(l.getD a.toNat za1).Off<(ps.length:Int)) (g:l.length<=4096) (i:ps.length<=4096) (c:rs.length=11) (d:bs.length<=512) (e:QOk ps):
  qdu v3 l ps a lv rs bs n lv bs n=some (W l (zm3 ps (a+1+(l.getD a.toNat za1).Off).toNat ⟨lv,rs,bs,n⟩) a ⟨lv,rs,bs,n⟩,()):=by
 rw [us2,if_pos b,u0 (x:=a+1) (by omega),u0 (by omega)];have h:=vu7 l ps a ⟨lv,rs,bs,n⟩ (a+1+(l.getD a.toNat za1).Off) (by omega) c d (e _);dsimp only at h;rw [h,z6]
 try rfl
def wm0 (l:List Ins) (b:List Pl) (a:Int) (w p:Pl) (f:0<=a/\a+1<(b.length:Int)) (g:b.length<=4096) (c:p.Regs.length=11) (d:p.Bytes.length<=512) (e:QOk b):
  qfg v3 l b a w.Live w.Regs w.Bytes w.Least p.Live p.Regs p.Bytes p.Least=some (((l,(),a,w.Live,(),w.Bytes,w.Least,()),zm3 b (a+1).toNat p,w.Regs,p.Regs,()),()):=by
 rw [uo4,u0 (by omega),vs7 l b a w p (a+1) (by omega) c d (e _),z6]
def uj7 (l:List Ins) (b:List Pl) (a:Int) (w p:Pl) (c:0<=a/\a<(l.length:Int)) (g:0<=a+1+(l.getD a.toNat za1).Off/\a+1+(l.getD a.toNat za1).Off<(b.length:Int)) (h:l.length<=4096) (i:b.length<=4096) (d:p.Regs.length=11) (e:p.Bytes.length<=512) (f:QOk b):
  qfh v3 l b a w.Live w.Regs w.Bytes w.Least p.Live p.Regs p.Bytes p.Least=some (((l,(),a,w.Live,(),w.Bytes,w.Least,()),zm3 b (a+1+(l.getD a.toNat za1).Off).toNat p,w.Regs,p.Regs,()),()):=by
 rw [zab4,if_pos c,u0 (x:=a+1) (by omega),u0 (by omega),vs7 l b a w p (a+1+(l.getD a.toNat za1).Off) (by omega) d e (f _),z6]
def zp1 (k:Known) (i:Ins):Int:=IntKind.i64.wrap (IntKind.u64.wrap (k.In_Lo+IntKind.u64.wrap i.Off))
def vx6 (k i):X.qdk v3 k i=some (zp1 k i):=by rw [X.ul7];rfl
def jh6 (w:Pl):Out:=match ym0 w.Least (w.Regs.getD 0 j7) with| .inl _=>.inl []| .inr e=>.inr e
def gp5 (l ps a w i) (b:w.Regs.length=11):qdm v3 l ps a w.Live w.Regs w.Bytes w.Least i=some (W l (zo5 ps (jh6 w)) a w,yz4 (jh6 w)):=by
 rw [ui8,if_pos (by omega),yo3,z6];unfold jh6;cases ym0 w.Least (w.Regs.getD 0 j7)<;>rfl
def kk7 (w:Pl) (i:Ins) (a:Int):Out:=.inl [(a+1+i.Off,w)]
def gl3 (l ps a w i) (b:l.getD a.toNat za1=i) (c:0<=a/\a<(l.length:Int)) (d:0<=a+1+i.Off/\a+1+i.Off<(ps.length:Int)) (e:l.length<=4096) (f:ps.length<=4096) (g:w.Regs.length=11) (h:w.Bytes.length<=512) (j:QOk ps):
  qdl v3 l ps a w.Live w.Regs w.Bytes w.Least i=some (W l (zo5 ps (kk7 w i a)) a w,()):=by
 subst b;rw [uq8,ut7 l ps a w.Live w.Regs w.Bytes w.Least c d e f g h j,z6];rfl
def doK (op:Int) (nw:Bool) (a b:Known):Known×Int:=pk (zp5 op nw (tk a) (tk b))
def zaj2 (op nw a b) (c:q8 a.In_Lo/\q8 a.In_Hi) (d:q8 b.In_Lo/\q8 b.In_Hi):qd v3 op nw a b=some (doK op nw a b):=zaj7 op nw a b c d
def zq7 (w:Pl) (i:Ins) (a:Int):Out:=
 let r:=doK i.Op i.Narrow (w.Regs.getD i.Dst.toNat j7) (if i.Op=13 then ⟨0,0,0⟩ else yl8 w.Regs i)
 if r.2=0 then .inl [(a+1,⟨w.Live,w.Regs.set i.Dst.toNat r.1,w.Bytes,w.Least⟩)] else .inr r.2
def UOk (k:Known):Prop:=q8 k.In_Lo/\q8 k.In_Hi
def qa5 {rs} (h: ∀k,UOk (rs.getD k j7)) (i):UOk (yl8 rs i):=by
 unfold yl8;split
 ·refine ⟨?_,?_⟩<;>(show q8 (IntKind.u64.wrap i.Imm);rw [q7];omega)
 ·exact h _
def vb3 (l:List Ins) (ps:List Pl) (a:Int) (w:Pl) (i:Ins) (ha:0<=a/\a+1<(ps.length:Int)) (hn:ps.length<=4096) (hr:w.Regs.length=11) (hb:w.Bytes.length<=512) (hq:QOk ps) (hu: ∀k,UOk (w.Regs.getD k j7)) (hd:0<=i.Dst/\i.Dst<=10) (hs:i.UseImm=true\/0<=i.Src/\i.Src<=10):
  ∃w',qbf v3 l ps a w.Live w.Regs w.Bytes w.Least i=some (W l (zo5 ps (zq7 w i a)) a w',yz4 (zq7 w i a)):=by
 obtain ⟨n,e⟩: ∃n:Nat,(v3:Nat)=n+1:=⟨999999999,rfl⟩;have j0: ∀b:Known,UOk b-> ∃w',qq9 (n+1) l a w.Live w.Bytes w.Least ps w.Regs i.Op i.Narrow i.Dst i.Src i.UseImm i.Off i.Imm i.Size b.Kind b.In_Lo b.In_Hi=some (W l (zo5 ps (if (doK i.Op i.Narrow (w.Regs.getD i.Dst.toNat j7) b).2=0 then .inl [(a+1,⟨w.Live,w.Regs.set i.Dst.toNat (doK i.Op i.Narrow (w.Regs.getD i.Dst.toNat j7) b).1,w.Bytes,w.Least⟩)] else .inr (doK i.Op i.Narrow (w.Regs.getD i.Dst.toNat j7) b).2)) a w',yz4 (if (doK i.Op i.Narrow (w.Regs.getD i.Dst.toNat j7) b).2=0 then .inl [(a+1,⟨w.Live,w.Regs.set i.Dst.toNat (doK i.Op i.Narrow (w.Regs.getD i.Dst.toNat j7) b).1,w.Bytes,w.Least⟩)] else .inr (doK i.Op i.Narrow (w.Regs.getD i.Dst.toNat j7) b).2)):=by
  intro b hbu;rw [vz7,if_pos (by omega),show (⟨b.Kind,b.In_Lo,b.In_Hi⟩:Known)=b from rfl,zaj2 _ _ _ _ (hu _) hbu,z6,qj9,z6];generalize doK i.Op i.Narrow (w.Regs.getD i.Dst.toNat j7) b=r;by_cases h:r.2=0
  ·refine ⟨⟨w.Live,w.Regs.set i.Dst.toNat r.1,w.Bytes,w.Least⟩,?_⟩;simp only [if_pos h];rw [if_pos (by omega)];show z8 (qcl v3 l ps a w.Live (w.Regs.set i.Dst.toNat r.1) w.Bytes w.Least w.Live w.Bytes w.Least) _=_;rw [qj1 l ps a w.Live (w.Regs.set i.Dst.toNat r.1) w.Bytes w.Least ha hn (by rw [Q1];exact hr) hb hq,z6];rfl
  ·refine ⟨w,?_⟩;simp only [if_neg h];rfl
 rw [uw6,jt7 l ps a w i hr hs,z6,e];unfold zq7;dsimp only;by_cases h13:i.Op=13
 ·rw [if_pos h13,show (i.Op==13)=true from beq_iff_eq.2 h13,z9];exact j0 ⟨0,0,0⟩ ⟨by decide,by decide⟩
 ·rw [if_neg h13,show (i.Op==13)=false from beq_eq_false_iff_ne.2 h13,z5];exact j0 _ (qa5 hu i)
end Go.Y
namespace Go.Y
open Go.RowKit Go.V Go.X Go.Proofs
def kp2 (w:Pl) (i:Ins):Int:=
 let p:=w.Regs.getD i.Src.toNat j7
 if p.Kind=3 then vj4 w.Bytes (zp1 p i) i.Size
 else if p.Kind=2 then (if p.In_Hi>65535 then 112 else if IntKind.i64.wrap (IntKind.i64.wrap p.In_Lo+i.Off)<0 then 112 else if IntKind.i64.wrap (IntKind.i64.wrap (IntKind.i64.wrap p.In_Hi+i.Off)+i.Size)>w.Least then 112 else 0)
 else match ym0 w.Least p with| .inl _=>111| .inr e=>e
def yp5 (a:Int):Known:=⟨1,0,za6 .u64 18446744073709551615 (IntKind.i64.wrap (64-IntKind.i64.wrap (8*a)))⟩
def yu1 (w:Pl) (i:Ins) (a:Int):Out:=if kp2 w i=0 then .inl [(a+1,⟨w.Live,w.Regs.set i.Dst.toNat (yp5 i.Size),w.Bytes,w.Least⟩)] else .inr (kp2 w i)
def gb7 {s} (h:zh1 s=true): ¬IntKind.i64.wrap (64-IntKind.i64.wrap (8*s))<0:=by
 unfold zh1 at h;simp only [V6,beq_iff_eq] at h;rcases h with rfl|rfl|rfl|rfl<;>decide
def jk3 {n k e} (h:ym0 n k=.inr e):e≠0:=by
 unfold ym0 at h;split at h
 ·cases h;decide
 ·split at h
  ·cases h
  ·split at h
   ·cases h
   ·cases h;decide
def gr9 (l:List Ins) (ps:List Pl) (a:Int) (w:Pl) (i:Ins) (ha:0<=a/\a+1<(ps.length:Int)) (hn:ps.length<=4096) (hr:w.Regs.length=11) (hb:w.Bytes.length<=512) (hq:QOk ps) (hd:0<=i.Dst/\i.Dst<=10) (hs:0<=i.Src/\i.Src<=10) (hz:zh1 i.Size=true):
  ∃w',qbb v3 l ps a w.Live w.Regs w.Bytes w.Least i=some (W l (zo5 ps (yu1 w i a)) a w',yz4 (yu1 w i a)):=by
 obtain ⟨n,e⟩: ∃n:Nat,(v3:Nat)=n+1:=⟨999999999,rfl⟩;have j0:jz4 (n+1) l a w.Live w.Bytes w.Least ps w.Regs i.Op i.Narrow i.Dst i.Src i.UseImm i.Off i.Imm i.Size=some (W l (zm3 ps (a+1).toNat ⟨w.Live,w.Regs.set i.Dst.toNat (yp5 i.Size),w.Bytes,w.Least⟩) a ⟨w.Live,w.Regs.set i.Dst.toNat (yp5 i.Size),w.Bytes,w.Least⟩,.inl ()):=by
  rw [ke2,if_neg (gb7 hz),if_pos (by omega)];show z8 (qcl v3 l ps a w.Live (w.Regs.set i.Dst.toNat (yp5 i.Size)) w.Bytes w.Least w.Live w.Bytes w.Least) _=_;rw [qj1 l ps a w.Live (w.Regs.set i.Dst.toNat (yp5 i.Size)) w.Bytes w.Least ha hn (by rw [Q1];exact hr) hb hq,z6]
  try rfl
 rw [<-e] at j0;rw [zaa0,if_pos (by omega)];unfold yu1 kp2;dsimp only;generalize w.Regs.getD i.Src.toNat j7=p;by_cases h3:p.Kind=3
 ·rw [show (p.Kind==3)=true from beq_iff_eq.2 h3,z9,vx6,z6,zag1,z6,qj9,z6];simp only [if_pos h3];generalize vj4 w.Bytes (zp1 p i) i.Size=r;by_cases hr0:r=0
  ·simp only [if_pos hr0,j0];exact ⟨_,rfl⟩
  ·simp only [if_neg hr0];exact ⟨w,rfl⟩
 ·rw [show (p.Kind==3)=false from beq_eq_false_iff_ne.2 h3,z5];simp only [if_neg h3];by_cases h2:p.Kind=2
  ·rw [show (p.Kind==2)=true from beq_iff_eq.2 h2,z9,yd2,z6];simp only [if_pos h2,decide_eq_true_eq];by_cases c1:p.In_Hi>65535
   ·simp only [if_pos c1];exact ⟨w,rfl⟩
   ·simp only [if_neg c1];by_cases c2:IntKind.i64.wrap (IntKind.i64.wrap p.In_Lo+i.Off)<0
    ·simp only [if_pos c2,W3 c2,z9,yd2,z6];exact ⟨w,rfl⟩
    ·simp only [if_neg c2,W4 c2,z5,yd2,z6,decide_eq_true_eq];by_cases c3:IntKind.i64.wrap (IntKind.i64.wrap (IntKind.i64.wrap p.In_Hi+i.Off)+i.Size)>w.Least
     ·simp only [if_pos c3];exact ⟨w,rfl⟩
     ·simp only [if_neg c3,j0];exact ⟨_,rfl⟩
  ·rw [show (p.Kind==2)=false from beq_eq_false_iff_ne.2 h2,z5,yo3,z6];simp only [if_neg h2];cases hx:ym0 w.Least p with
   |inl s=>exact ⟨w,rfl⟩
   |inr x=>
    have:=jk3 hx;simp only [if_neg this];exact ⟨w,rfl⟩
def ql0 (w:Pl) (i:Ins) (a:Int):Out:=
 let p:=w.Regs.getD i.Dst.toNat j7
 let b:=yl8 w.Regs i
 if p.Kind=0\/b.Kind=0 then .inr 110 else if p.Kind=2 then .inr 114 else if p.Kind≠3 then .inr 111
 else match ym0 w.Least b with
  | .inr e=>.inr e
  | .inl _=>if (jn8 w.Bytes (zp1 p i) i.Size).2=0 then .inl [(a+1,⟨w.Live,w.Regs,(jn8 w.Bytes (zp1 p i) i.Size).1,w.Least⟩)] else .inr (jn8 w.Bytes (zp1 p i) i.Size).2
def wj6 (b x z):(jn8 b x z).1.length<=b.length:=by
 unfold jn8;split
 ·rw [je0];exact W6 _
 ·exact K6 _
def wz3 (l:List Ins) (ps:List Pl) (a:Int) (w:Pl) (i:Ins) (ha:0<=a/\a+1<(ps.length:Int)) (hn:ps.length<=4096) (hr:w.Regs.length=11) (hb:w.Bytes.length<=512) (hq:QOk ps) (hd:0<=i.Dst/\i.Dst<=10) (hs:i.UseImm=true\/0<=i.Src/\i.Src<=10):
  ∃w',qbk v3 l ps a w.Live w.Regs w.Bytes w.Least i=some (W l (zo5 ps (ql0 w i a)) a w',yz4 (ql0 w i a)):=by
 obtain ⟨n,e⟩: ∃n:Nat,(v3:Nat)=n+1:=⟨999999999,rfl⟩;rw [ue6,if_pos (by omega),jt7 l ps a w i hr hs,z6];unfold ql0;dsimp only;generalize w.Regs.getD i.Dst.toNat j7=p;generalize yl8 w.Regs i=b;by_cases h0:p.Kind=0
 ·rw [show (p.Kind==0)=true from beq_iff_eq.2 h0,z9,yd2,z6,if_pos rfl,if_pos (c:=p.Kind=0\/b.Kind=0) (.inl h0)];exact ⟨w,rfl⟩
 rw [show (p.Kind==0)=false from beq_eq_false_iff_ne.2 h0,z5,yd2,z6];by_cases h1:b.Kind=0
 ·rw [if_pos (c:=p.Kind=0\/b.Kind=0) (.inr h1),show (b.Kind==0)=true from beq_iff_eq.2 h1];exact ⟨w,rfl⟩
 rw [if_neg (c:=p.Kind=0\/b.Kind=0) (fun h=>h.elim h0 h1),show (b.Kind==0)=false from beq_eq_false_iff_ne.2 h1];simp only [W8,if_false];rw [e,kf6,yd2,z6];by_cases h2:p.Kind=2
 ·rw [if_pos h2,show (p.Kind==2)=true from beq_iff_eq.2 h2];exact ⟨w,rfl⟩
 rw [if_neg h2,show (p.Kind==2)=false from beq_eq_false_iff_ne.2 h2];simp only [W8,if_false,yd2,z6];by_cases h3:p.Kind=3
 ·rw [if_neg (c:=p.Kind≠3) (fun h=>h h3),show (p.Kind != 3)=false by rw [h3];rfl];simp only [W8,if_false,yo3,z6];rw [show (⟨b.Kind,b.In_Lo,b.In_Hi⟩:Known)=b from rfl];cases hx:ym0 w.Least b with
  |inr x=>exact ⟨w,rfl⟩
  |inl s=>
   simp only [toS];rw [show (⟨p.Kind,p.In_Lo,p.In_Hi⟩:Known)=p from rfl,show (⟨i.Op,i.Narrow,i.Dst,i.Src,i.UseImm,i.Off,i.Imm,i.Size⟩:Ins)=i from rfl,vx6,z6,zah6,z6,qj9,z6];have hle:=wj6 w.Bytes (zp1 p i) i.Size;generalize jn8 w.Bytes (zp1 p i) i.Size=r at hle⊢;by_cases hr0:r.2=0
   ·simp only [if_pos hr0];rw [qj1 l ps a w.Live w.Regs r.1 w.Least ha hn hr (by omega) hq,z6];exact ⟨⟨w.Live,w.Regs,r.1,w.Least⟩,rfl⟩
   ·simp only [if_neg hr0];exact ⟨w,rfl⟩
 ·rw [if_pos (c:=p.Kind≠3) h3,show (p.Kind != 3)=true from bne_iff_ne.2 h3];exact ⟨w,rfl⟩
end Go.Y
namespace Go.Y
open Go.RowKit Go.V Go.X Go.Proofs
def zk4 {R c} (h:c=true) (x y:Option R):j4 c x y=x:=by rw [h];rfl
def zm6 {R c} (h:c=false) (x y:Option R):j4 c x y=y:=by rw [h];rfl
def zl0 (p:Pl) (r:Int) (s:j6):Pl:=if (p.Regs.getD r.toNat j7).Kind=1 then ⟨p.Live,p.Regs.set r.toNat ⟨(p.Regs.getD r.toNat j7).Kind,s.Lo,s.Hi⟩,p.Bytes,p.Least⟩ else ⟨p.Live,p.Regs,p.Bytes,zh7 p.Least (IntKind.i64.wrap s.Lo)⟩
def vg4 (w:Pl) (i:Ins) (x y:j6):Pl:=if i.UseImm=true then zl0 w i.Dst x else if i.Src=i.Dst then w else zl0 (zl0 w i.Dst x) i.Src y
def jl6 (w:Pl) (i:Ins) (m n:j6) (yes:Bool) (t:Int):List (Int×Pl):=if (ifE i.Op i.Narrow yes m n).2.2=true then [(t,vg4 w i (ifE i.Op i.Narrow yes m n).1 (ifE i.Op i.Narrow yes m n).2.1)] else []
def zq8 (w:Pl) (i:Ins) (a:Int):Out:=
 let p:=w.Regs.getD i.Dst.toNat j7
 let b:=yl8 w.Regs i
 if p.Kind=0\/b.Kind=0 then .inr 110 else match ym0 w.Least p with
  | .inr e=>.inr e
  | .inl m=>match ym0 w.Least b with
   | .inr e=>.inr e
   | .inl n=>.inl (jl6 w i m n false (a+1)++jl6 w i m n true (a+1+i.Off))
def jh3 (y): ∀(x ps),zd1 ps (x++y)=zd1 (zd1 ps x) y
 | [],ps=>rfl
 |z::r,ps=>by rw [M0,zd1,jh3 y r,zd1]
def ze3 (p r s):(zl0 p r s).Regs.length=p.Regs.length/\(zl0 p r s).Bytes=p.Bytes:=by
 unfold zl0;split
 ·exact ⟨Q1 ..,rfl⟩
 ·exact ⟨rfl,rfl⟩
def jj3 (p r s) (hr:0<=r/\r<(p.Regs.length:Int)):qcw v3 p.Live p.Regs p.Bytes p.Least r s=some ((((zl0 p r s).Live,(),(zl0 p r s).Bytes,(zl0 p r s).Least,()),(zl0 p r s).Regs,()),()):=by
 rw [uk8,if_pos hr];unfold zl0;by_cases h:(p.Regs.getD r.toNat j7).Kind=1
 ·rw [if_pos h,show ((p.Regs.getD r.toNat j7).Kind==1)=true from beq_iff_eq.2 h,z9]
 ·rw [if_neg h,show ((p.Regs.getD r.toNat j7).Kind==1)=false from beq_eq_false_iff_ne.2 h,z5]
section
variable (l:List Ins) (ps:List Pl) (a:Int) (w:Pl) (i:Ins) (m k:j6)
theorem wo2 (n c d):qn4 (n+2) 2 l a w.Live w.Bytes w.Least ps w.Regs i.Op i.Narrow i.Dst i.Src i.UseImm i.Off i.Imm i.Size m.Lo m.Hi k.Lo k.Hi c d=some (W l ps a w,.inl ()):=by
 rw [ka3,W4 (by omega),z5];rfl
variable (hi:l.getD a.toNat za1=i) (ha:0<=a/\a<(l.length:Int)) (hl:l.length<=4096) (hn:ps.length=l.length) (hr:w.Regs.length=11) (hb:w.Bytes.length<=512) (hq:QOk ps)
variable (ht:0<=a+1+i.Off/\a+1+i.Off<(l.length:Int)) (ha1:a+1<(l.length:Int)) (hd:0<=i.Dst/\i.Dst<=10) (hs:i.UseImm=true\/0<=i.Src/\i.Src<=10)
variable (hm:q8 m.Lo/\q8 m.Hi) (hk:q8 k.Lo/\q8 k.Hi)
include hi ha hl hn hq ht
theorem zal7 (n p c d e) (f:p.Regs.length=11) (b:p.Bytes.length<=512):jl2 (n+3) 2 l a w.Live w.Bytes w.Least ps w.Regs i.Op i.Narrow i.Dst i.Src i.UseImm i.Off i.Imm i.Size m.Lo m.Hi k.Lo k.Hi c p.Live p.Bytes p.Least d e p.Regs=some (W l (zm3 ps (a+1+i.Off).toNat p) a w,.inl ()):=by
 subst hi;rw [ki9,uj7 l ps a w p ha (by omega) hl (by omega) f b hq,z6];exact wo2 l _ a w _ m k n d e
include hr hb hd hs hm hk
theorem j2_v (n c):ko2 (n+5) 2 l a w.Live w.Bytes w.Least ps w.Regs i.Op i.Narrow i.Dst i.Src i.UseImm i.Off i.Imm i.Size m.Lo m.Hi k.Lo k.Hi c true=some (W l (zd1 ps (jl6 w i m k true (a+1+i.Off))) a w,.inl ()):=by
 rw [ga8,W3 (by omega),z9,show (⟨m.Lo,m.Hi⟩:Span)=m from rfl,show (⟨k.Lo,k.Hi⟩:Span)=k from rfl,wz2 _ _ _ _ _ hm hk,z6];unfold jl6;generalize ifE i.Op i.Narrow true m k=r;dsimp only;cases hc:r.2.2 with
 |false=>rw [U3,z9,if_neg (by decide)];exact wo2 l ps a w i m k _ _ _
 |true=>
  rw [W5,z5,if_pos rfl,yg1 _ _ _ _ hr hb,z6];have d: ∀p:Pl,p.Regs.length=11->p.Bytes.length<=512->jl2 (n+3) 2 l a w.Live w.Bytes w.Least ps w.Regs i.Op i.Narrow i.Dst i.Src i.UseImm i.Off i.Imm i.Size m.Lo m.Hi k.Lo k.Hi true p.Live p.Bytes p.Least c true p.Regs=some (W l (zd1 ps [(a+1+i.Off,p)]) a w,.inl ()):=fun p f g=>zal7 l ps a w i m k hi ha hl hn hq ht n p true c true f g;unfold vg4;by_cases b:i.UseImm=true
  ·rw [if_pos b,zk4 b,jj3 w i.Dst r.1 (by omega),z6];exact d (zl0 w i.Dst r.1) ((ze3 ..).1.trans hr) (by rw [(ze3 ..).2];exact hb)
  ·rw [if_neg b];have hs:=hs.resolve_left b;by_cases e:i.Src=i.Dst
   ·rw [if_pos e,show (i.Src != i.Dst)=false by rw [e];exact bne_self_eq_false _];rw [Bool.not_eq_true] at b;rw [z5,zm6 b];exact d w hr hb
   ·rw [if_neg e,show (i.Src != i.Dst)=true from bne_iff_ne.2 e];rw [Bool.not_eq_true] at b;rw [z9,zm6 b,jj3 w i.Dst r.1 (by omega),z6];have h:=(ze3 w i.Dst r.1).1;dsimp only;rw [jj3 (zl0 w i.Dst r.1) i.Src r.2.1 (by omega),z6];exact d (zl0 (zl0 w i.Dst r.1) i.Src r.2.1) ((ze3 ..).1.trans (h.trans hr)) (by rw [(ze3 ..).2,(ze3 ..).2];exact hb)
include ha1
theorem j3_v (n p c) (d:p.Regs.length=11) (b:p.Bytes.length<=512):qm6 (n+6) 2 l a w.Live w.Bytes w.Least ps w.Regs i.Op i.Narrow i.Dst i.Src i.UseImm i.Off i.Imm i.Size m.Lo m.Hi k.Lo k.Hi c p.Live p.Bytes p.Least false true p.Regs=some (W l (zd1 (zm3 ps (a+1).toNat p) (jl6 w i m k true (a+1+i.Off))) a w,.inl ()):=by
 rw [kv5,wm0 l ps a w p (by omega) (by omega) d b hq,z6];exact j2_v l _ a w i m k hi ha hl (by rw [je3];exact hn) hr hb (wh1 hq _ d) ht hd hs hm hk n false
omit hm hk in
theorem j0_v (n x y) (f:UOk x) (j:UOk y): ∃w',kq3 (n+8) l a w.Live w.Bytes w.Least ps w.Regs i.Op i.Narrow i.Dst i.Src i.UseImm i.Off i.Imm i.Size x.Kind x.In_Lo x.In_Hi y.Kind y.In_Lo y.In_Hi=
  (let o:Out:=match ym0 w.Least x with
   | .inr e=>.inr e
   | .inl m=>match ym0 w.Least y with
    | .inr e=>.inr e
    | .inl n=>.inl (jl6 w i m n false (a+1)++jl6 w i m n true (a+1+i.Off))
  some (W l (zo5 ps o) a w',yz4 o)):=by
 have g: ∀(x:Known) (s:j6),UOk x->ym0 w.Least x=.inl s->q8 s.Lo/\q8 s.Hi:=by
  intro x s f h;unfold ym0 at h;split at h
  ·cases h
  ·split at h
   ·cases h;exact f
   ·split at h
    ·cases h;refine ⟨?_,by show q8 (65535:Int);decide⟩;show q8 (IntKind.u64.wrap w.Least);rw [q7];omega
    ·cases h
 refine ⟨w,?_⟩;rw [kz6,show (⟨x.Kind,x.In_Lo,x.In_Hi⟩:Known)=x from rfl,show (⟨y.Kind,y.In_Lo,y.In_Hi⟩:Known)=y from rfl,yo3,z6];simp only [yo3,z6];cases h1:ym0 w.Least x with
 |inr e=>rfl
 |inl m=>
  have hm:=g x m f h1;simp only [toS];cases h2:ym0 w.Least y with
  |inr e=>rfl
  |inl k=>
   have hk:=g y k j h2;simp only [zo5,yz4];rw [wz2 _ _ _ _ _ hm hk,z6,jh3]
   conv=>rhs;unfold jl6
   have q:=j2_v l ps a w i m k hi ha hl hn hr hb hq ht hd hs hm hk (n+1) false;generalize ifE i.Op i.Narrow false m k=r;dsimp only;cases hc:r.2.2 with
   |false=>rw [U3,z9,if_neg (by decide)];exact q
   |true=>
    rw [W5,z5,if_pos rfl,yg1 _ _ _ _ hr hb,z6];have c: ∀p:Pl,p.Regs.length=11->p.Bytes.length<=512->qm6 (n+6) 2 l a w.Live w.Bytes w.Least ps w.Regs i.Op i.Narrow i.Dst i.Src i.UseImm i.Off i.Imm i.Size m.Lo m.Hi k.Lo k.Hi false p.Live p.Bytes p.Least false true p.Regs=some (W l (zd1 (zd1 ps [(a+1,p)]) (jl6 w i m k true (a+1+i.Off))) a w,.inl ()):=fun p t u=>j3_v l ps a w i m k hi ha hl hn hr hb hq ht ha1 hd hs hm hk n p false t u;unfold vg4;by_cases b:i.UseImm=true
    ·rw [if_pos b,zk4 b,jj3 w i.Dst r.1 (by omega),z6];exact c (zl0 w i.Dst r.1) ((ze3 ..).1.trans hr) (by rw [(ze3 ..).2];exact hb)
    ·rw [if_neg b];have hs:=hs.resolve_left b;by_cases d:i.Src=i.Dst
     ·rw [if_pos d,show (i.Src != i.Dst)=false by rw [d];exact bne_self_eq_false _];rw [Bool.not_eq_true] at b;rw [z5,zm6 b];exact c w hr hb
     ·rw [if_neg d,show (i.Src != i.Dst)=true from bne_iff_ne.2 d];rw [Bool.not_eq_true] at b;rw [z9,zm6 b,jj3 w i.Dst r.1 (by omega),z6];have v:=(ze3 w i.Dst r.1).1;dsimp only;rw [jj3 (zl0 w i.Dst r.1) i.Src r.2.1 (by omega),z6];exact c (zl0 (zl0 w i.Dst r.1) i.Src r.2.1) ((ze3 ..).1.trans (v.trans hr)) (by rw [(ze3 ..).2,(ze3 ..).2];exact hb)
omit hm hk in
theorem vc9 (hu: ∀j,UOk (w.Regs.getD j j7)): ∃w',qi v3 l ps a w.Live w.Regs w.Bytes w.Least i=some (W l (zo5 ps (zq8 w i a)) a w',yz4 (zq8 w i a)):=by
 obtain ⟨n,e⟩: ∃n:Nat,(v3:Nat)=n+8:=⟨999999992,rfl⟩;rw [zae3,if_pos (by omega),jt7 l ps a w i hr hs,z6];have hp:=hu i.Dst.toNat;have hb':=qa5 hu i;unfold zq8;dsimp only;generalize w.Regs.getD i.Dst.toNat j7=p at hp⊢;generalize yl8 w.Regs i=b at hb'⊢;by_cases h0:p.Kind=0
 ·rw [show (p.Kind==0)=true from beq_iff_eq.2 h0,z9,yd2,z6,if_pos rfl,if_pos (c:=p.Kind=0\/b.Kind=0) (.inl h0)];exact ⟨w,rfl⟩
 rw [show (p.Kind==0)=false from beq_eq_false_iff_ne.2 h0,z5,yd2,z6];by_cases h1:b.Kind=0
 ·rw [if_pos (c:=p.Kind=0\/b.Kind=0) (.inr h1),show (b.Kind==0)=true from beq_iff_eq.2 h1];exact ⟨w,rfl⟩
 rw [if_neg (c:=p.Kind=0\/b.Kind=0) (fun h=>h.elim h0 h1),show (b.Kind==0)=false from beq_eq_false_iff_ne.2 h1];simp only [W8,if_false];rw [e];exact j0_v l ps a w i hi ha hl hn hr hb hq ht ha1 hd hs n p b hp hb'
end
end Go.Y
namespace Go.Y
open Go.RowKit Go.V Go.X Go.Proofs
def In (M:Int) (x:j6):Prop:=0<=x.Lo/\x.Lo<=x.Hi/\x.Hi<=M
def wp1 {M s n} (h:In M s):In M (woE s n):=by
 obtain ⟨a,b,c⟩:=h;unfold woE;split
 ·exact ⟨a,b,c⟩
 ·unfold In;dsimp only;split<;>split<;>omega
def qz5 {M op} (i:17<=op/\op<=22) {u v x y} (a:In M u) (b:In M v) (h:zx7 op u v=some (x,y)):In M x/\In M y:=by
 have c: ∀u v x y:j6,In M u->In M v->gtE u v=some (x,y)->In M x/\In M y:=by
  intro u v x y a b h;unfold In at a b;unfold gtE at h;split at h
  ·simp only [X0,X7] at h;obtain ⟨rfl,rfl⟩:=h;unfold In;dsimp only;omega
  ·cases h
 have d: ∀u v x y:j6,In M u->In M v->geE u v=some (x,y)->In M x/\In M y:=by
  intro u v x y a b h;unfold In at a b;unfold geE at h;split at h
  ·simp only [X0,X7] at h;obtain ⟨rfl,rfl⟩:=h;unfold In;dsimp only;omega
  ·cases h
 have f: ∀(o:Option (j6×j6)),(∀x y,o=some (x,y)->In M x/\In M y)-> ∀x y,ji5 o=some (x,y)->In M x/\In M y:=by
  intro o g x y h;cases o with
  |none=>cases h
  |some p=>
   simp only [ji5,Z8,X0,X7] at h;obtain ⟨rfl,rfl⟩:=h;exact ⟨(g p.1 p.2 rfl).2,(g p.1 p.2 rfl).1⟩
 have j:op=17\/op=18\/op=19\/op=20\/op=21\/op=22:=by omega
 rcases j with rfl|rfl|rfl|rfl|rfl|rfl
 ·have h:(if max u.Lo v.Lo<=min u.Hi v.Hi then some ((⟨max u.Lo v.Lo,min u.Hi v.Hi⟩:j6),(⟨max u.Lo v.Lo,min u.Hi v.Hi⟩:j6)) else none)=some (x,y):=h;unfold In at a b;split at h
  ·simp only [X0,X7] at h;obtain ⟨rfl,rfl⟩:=h;unfold In;dsimp only;omega
  ·cases h
 ·have h:(if u.Lo=u.Hi/\v.Lo=v.Hi/\u.Lo=v.Lo then none else some (woE u v,woE v u))=some (x,y):=h;split at h
  ·cases h
  ·simp only [X0,X7] at h;obtain ⟨rfl,rfl⟩:=h;exact ⟨wp1 a,wp1 b⟩
 ·exact c u v x y a b h
 ·exact d u v x y a b h
 ·exact f (gtE v u) (fun x y e=>c v u x y b a e) x y h
 ·exact f (geE v u) (fun x y e=>d v u x y b a e) x y h
def zab2 {M op} (d:17<=op/\op<=27) {nw yes u v x y} (b:In M u) (c:In M v) (h:qc9 nw op yes u v=some (x,y)):In M x/\In M y:=by
 have same:some (u,v)=some (x,y)->In M x/\In M y:=by
  intro e;simp only [X0,X7] at e;obtain ⟨rfl,rfl⟩:=e;exact ⟨b,c⟩
 unfold qc9 at h;by_cases a:op=27
 ·rw [if_pos a] at h;unfold zx2 at h;split at h
  ·split at h
   ·cases h
   ·exact same h
  ·split at h
   ·simp only [X0,X7] at h;obtain ⟨rfl,rfl⟩:=h;unfold In at b c⊢;dsimp only;omega
   ·cases h
 ·rw [if_neg a] at h;have f:=qe9 (op:=op) (by omega);have g:17<=(if yes=true then op else jh1 op)/\(if yes=true then op else jh1 op)<=26:=by split<;>omega
  generalize (if yes=true then op else jh1 op)=o at *;split at h
  ·unfold zr3 at h;split at h
   ·exact same h
   ·split at h
    ·exact qz5 (by omega) b c h
    ·split at h
     ·exact same h
     ·cases h
  ·exact qz5 (by omega) b c h
def zai0 (op nw yes) {a b} (c:q8 a.Lo/\q8 a.Hi) (d:q8 b.Lo/\q8 b.Hi):(q8 (ifE op nw yes a b).1.Lo/\q8 (ifE op nw yes a b).1.Hi)/\q8 (ifE op nw yes a b).2.1.Lo/\q8 (ifE op nw yes a b).2.1.Hi:=by
 unfold ifE;split
 ·rename_i h;have e:=zl5 (nw:=nw) c h.2.1;have f:=zl5 (nw:=nw) d h.2.2;have j:=zm9 nw;unfold finE;cases hx:qc9 nw op yes (qh a nw) (qh b nw) with
  |none=>exact ⟨⟨by show q8 (0:Int);decide,by show q8 (0:Int);decide⟩,by show q8 (0:Int);decide,by show q8 (0:Int);decide⟩
  |some x=>
   obtain ⟨x,y⟩:=x;obtain ⟨g,i⟩:=zab2 (M:=j9 nw) h.1 ⟨e.lo,e.le,e.hi⟩ ⟨f.lo,f.le,f.hi⟩ hx;unfold In at g i;dsimp only;constructor
   ·split
    ·exact c
    ·omega
   ·split
    ·exact d
    ·omega
 ·exact ⟨c,d⟩
structure PlOk (p:Pl):Prop where
 regs:p.Regs.length=11
 bytes:p.Bytes.length=512
 u: ∀k,UOk (p.Regs.getD k j7)
def AllOk (a:List Pl):Prop:= ∀k,(a.getD k j8).Live=true->PlOk (a.getD k j8)
def AllOk.q {a} (h:AllOk a):QOk a:=fun k b=>(h k b).regs
def yo8 (rs:List Known) (k j:Nat) (x:Known):(rs.set k x).getD j j7=if k=j/\j<rs.length then x else rs.getD j j7:=by
 rw [Y2,Y2,List.getElem?_set];by_cases h:k=j
 ·subst h;by_cases a:k<rs.length
  ·rw [if_pos rfl,if_pos a,if_pos ⟨rfl,a⟩];rfl
  ·rw [if_pos rfl,if_neg a,if_neg (fun h=>a h.2),Y5 (by omega)]
 ·rw [if_neg h,if_neg (fun b=>h b.1)]
def kq5 {rs:List Known} (h: ∀k,UOk (rs.getD k j7)) {x} (a:UOk x) (k:Nat): ∀j,UOk ((rs.set k x).getD j j7):=by
 intro j;rw [yo8];split
 ·exact a
 ·exact h j
def jr_u {q p} (c: ∀k,UOk (q.getD k j7)) (d: ∀k,UOk (p.getD k j7)): ∀n k,UOk ((jr q p n).getD k j7)
 |0,k=>c k
 |n+1,k=>by
  rw [jr];exact kq5 (jr_u c d n) (show UOk (km2 (q.getD n j7) (p.getD n j7)) from wi9 (a:=tk _) (b:=tk _) (c n) (d n)) n k
def kd7 {a b} (c:a.length=512) (d:b.length=512):(qa8 a b).length=512:=by
 unfold qa8;rw [if_pos ⟨c,d⟩,jd5,Z9]
def js9 {e} (h:AllOk e) (k) {p} (c:PlOk p):AllOk (zm3 e k p):=by
 intro j a;unfold zm3 at a⊢;split at a
 ·rename_i b;rw [if_pos b];rw [ze1] at a⊢;have q:=h k b;split
  ·exact ⟨(jj6 ..).trans q.regs,kd7 q.bytes c.bytes,jr_u q.u c.u 11⟩
  ·rename_i d;rw [if_neg d] at a;exact h j a
 ·rename_i b;rw [if_neg b];rw [ze1] at a⊢;split
  ·exact c
  ·rename_i d;rw [if_neg d] at a;exact h j a
def jn4 (a:List (Int×Pl)):Prop:= ∀x∈a,PlOk x.2
def yi7: ∀(ts) {a},AllOk a->jn4 ts->AllOk (zd1 a ts)
 | [],_,h,_=>h
 |x::r,_,h,b=>yi7 r (js9 h _ (b x (by simp))) fun y c=>b y (by simp [c])
def yc1: ∀(ts a),(zd1 a ts).length=a.length
 | [],_=>rfl
 |x::r,a=>(yc1 r _).trans (je3 ..)
def jv7 {p} (h:PlOk p) (r) {s} (a:q8 s.Lo/\q8 s.Hi):PlOk (zl0 p r s):=by
 refine ⟨(ze3 ..).1.trans h.regs,by rw [(ze3 ..).2];exact h.bytes,?_⟩;unfold zl0;split
 ·exact kq5 h.u (show UOk ⟨_,s.Lo,s.Hi⟩ from a) _
 ·exact h.u
def wj3 {w} (h:PlOk w) (i) {x y} (a:q8 x.Lo/\q8 x.Hi) (b:q8 y.Lo/\q8 y.Hi):PlOk (vg4 w i x y):=by
 unfold vg4;split
 ·exact jv7 h _ a
 ·split
  ·exact h
  ·exact jv7 (jv7 h _ a) _ b
def jk8 {a x s} (b:UOk x) (h:ym0 a x=.inl s):q8 s.Lo/\q8 s.Hi:=by
 unfold ym0 at h;split at h
 ·cases h
 ·split at h
  ·cases h;exact b
  ·split at h
   ·cases h;refine ⟨?_,by show q8 (65535:Int);decide⟩;show q8 (IntKind.u64.wrap a);rw [q7];omega
   ·cases h
def vx2 {w} (h:PlOk w) (i) {m n} (c:q8 m.Lo/\q8 m.Hi) (d:q8 n.Lo/\q8 n.Hi) (yes t):jn4 (jl6 w i m n yes t):=by
 have b:=zai0 i.Op i.Narrow yes c d;unfold jl6;split
 ·intro x a;rw [Q4] at a;subst a;exact wj3 h i b.1 b.2
 ·intro x a;cases a
def ka1 {w} (h:PlOk w) (i a) {c} (e:zq8 w i a=.inl c):jn4 c:=by
 unfold zq8 at e;dsimp only at e;split at e
 ·cases e
 ·split at e
  ·cases e
  ·rename_i m d;split at e
   ·cases e
   ·rename_i n f;cases e;intro x b;rw [X4] at b;rcases b with b|b
    ·exact vx2 h i (jk8 (h.u _) d) (jk8 (qa5 h.u i) f) _ _ x b
    ·exact vx2 h i (jk8 (h.u _) d) (jk8 (qa5 h.u i) f) _ _ x b
def we9 {s} (h:zh1 s=true):UOk (yp5 s):=by
 unfold zh1 at h;simp only [V6,beq_iff_eq] at h;rcases h with rfl|rfl|rfl|rfl<;>exact ⟨by decide,by decide⟩
def wi7 {w} (h:PlOk w) (i a) (d:zh1 i.Size=true) {b} (e:yu1 w i a=.inl b):jn4 b:=by
 unfold yu1 at e;split at e
 ·cases e;intro x c;rw [Q4] at c;subst c;exact ⟨(Q1 ..).trans h.regs,h.bytes,kq5 h.u (we9 d) _⟩
 ·cases e
def kt7 {b x z} (h:(jn8 b x z).2=0):(jn8 b x z).1.length=b.length:=by
 unfold jn8 at h⊢;split
 ·exact je0 ..
 ·rename_i a;rw [if_neg a] at h;exact absurd h a
def uk7 {w} (h:PlOk w) (i a) {b} (e:ql0 w i a=.inl b):jn4 b:=by
 unfold ql0 at e;dsimp only at e;split at e
 ·cases e
 ·split at e
  ·cases e
  ·split at e
   ·cases e
   ·split at e
    ·cases e
    ·split at e
     ·rename_i d;cases e;intro x c;rw [Q4] at c;subst c;exact ⟨h.regs,(kt7 d).trans h.bytes,h.u⟩
     ·cases e
def zae5 {op nw x y} (c:UOk x) (d:UOk y):UOk (doK op nw x y).1:=zaj1 (op:=op) (nw:=nw) (a:=tk x) (b:=tk y) c d
def kj7 {w} (h:PlOk w) (i a) {b} (e:zq7 w i a=.inl b):jn4 b:=by
 have g:UOk (if i.Op=13 then ⟨0,0,0⟩ else yl8 w.Regs i):=by
  split
  ·exact ⟨by show q8 (0:Int);decide,by show q8 (0:Int);decide⟩
  ·exact qa5 h.u i
 have c:=zae5 (op:=i.Op) (nw:=i.Narrow) (h.u i.Dst.toNat) g;unfold zq7 at e;dsimp only at e;generalize doK i.Op i.Narrow (w.Regs.getD i.Dst.toNat j7) (if i.Op=13 then ⟨0,0,0⟩ else yl8 w.Regs i)=r at e c;by_cases d:r.2=0
 ·rw [if_pos d] at e;cases e;intro x f;rw [Q4] at f;subst f;exact ⟨(Q1 ..).trans h.regs,h.bytes,kq5 h.u c _⟩
 ·rw [if_neg d] at e;cases e
def yv3 (w:Pl) (i:Ins) (a:Int):Out:=if i.Op=14 then yu1 w i a else if i.Op=15 then ql0 w i a else if i.Op=16 then kk7 w i a else if i.Op=28 then jh6 w else if i.Op<=13 then zq7 w i a else zq8 w i a
def vl7 {w} (h:PlOk w) {i} (b:zf5 i=true) (a) {f} (e:yv3 w i a=.inl f):jn4 f:=by
 unfold yv3 at e;split at e
 ·rename_i d;refine wi7 h i a ?_ e;unfold zf5 at b;rw [if_neg (by omega),if_neg (by omega),if_pos d] at b;simp only [X3] at b;exact b.2.2.2.1
 ·split at e
  ·exact uk7 h i a e
  ·split at e
   ·cases e;intro x c;rw [Q4] at c;subst c;exact h
   ·split at e
    ·unfold jh6 at e;split at e
     ·cases e;intro x c;cases c
     ·cases e
    ·split at e
     ·exact kj7 h i a e
     ·exact ka1 h i a e
end Go.Y
namespace Go.Y
open Go.RowKit Go.V Go.X Go.Proofs
def zn2 (l:List Ins):Nat->Nat->List Pl->List Pl×Fault
 |0,_,a=>(a,⟨0,0⟩)
 |m+1,k,a=>if (a.getD k j8).Live=true then (match yv3 (a.getD k j8) (l.getD k za1) (k:Int) with
   | .inl b=>zn2 l m (k+1) (zd1 a b)
   | .inr e=>([],⟨e,(k:Int)⟩))
  else zn2 l m (k+1) a
def qz7 (a:List Pl) (k:Nat):a.set k (a.getD k j8)=a:=by
 apply R8;intro j;rw [List.getElem?_set];by_cases h:k=j
 ·subst h;by_cases b:k<a.length
  ·rw [if_pos rfl,if_pos b,Y2,Y0 b];rfl
  ·rw [if_pos rfl,if_neg b,Y5 (by omega)]
 ·rw [if_neg h]
def vm6 {i} (h:zk0 i=true):i.UseImm=true\/0<=i.Src/\i.Src<=10:=by
 unfold zk0 at h;split at h
 ·rename_i a;exact .inl a
 ·simp only [X3,yc4,decide_eq_true_eq] at h;exact .inr h.1
def jj8 {x m} (h:yc4 x m=true):0<=x/\x<=m:=by
 simp only [yc4,X3,decide_eq_true_eq] at h;exact h
structure InsOk (l:List Ins) (k:Nat) (i:Ins):Prop where
 op:1<=i.Op/\i.Op<=28
 dst:0<=i.Dst/\i.Dst<=10
 sec:i.Op≠14->i.UseImm=true\/0<=i.Src/\i.Src<=10
 src:i.Op=14->(0<=i.Src/\i.Src<=10)/\zh1 i.Size=true
 next:i.Op≠28->i.Op≠16->k+1<l.length
 far:i.Op=16\/(17<=i.Op/\i.Op<=27)->0<=i.Off/\(k:Int)+1+i.Off<l.length
def kl4 {l} (h:Okay l) {k} (e:k<l.length):InsOk l k (l.getD k za1)/\zf5 (l.getD k za1)=true:=by
 have a:=js5 (h.z1 k e);have j:=zx9 _ a;have b:=h.z2 k e;have d:=h.z3 k e;unfold c2 kn1 at b;unfold c3 at d;generalize l.getD k za1=i at a j b d;refine ⟨⟨j.2.2,?_,?_,?_,?_,?_⟩,a⟩
 ·unfold zf5 at a;split at a
  ·simp only [X3] at a;have:=jj8 a.1;omega
  ·split at a
   ·simp only [X3] at a;have:=jj8 a.1;omega
   ·split at a
    ·simp only [X3] at a;have:=jj8 a.1;omega
    ·split at a
     ·simp only [X3] at a;exact jj8 a.1
     ·split at a
      ·simp only [X3,beq_iff_eq] at a;omega
      ·split at a
       ·simp only [X3] at a;exact jj8 a.1
       ·simp only [X3,beq_iff_eq] at a;omega
 ·intro c;unfold zf5 at a;split at a
  ·simp only [X3] at a;exact vm6 a.2.1
  ·split at a
   ·simp only [X3,beq_iff_eq] at a;omega
   ·split at a
    ·simp only [X3] at a;exact vm6 a.2.2.2.1
    ·split at a
     ·simp only [X3,beq_iff_eq] at a;omega
     ·split at a
      ·simp only [X3] at a;exact vm6 a.2.2.1
      ·simp only [X3,beq_iff_eq] at a;omega
 ·intro c;unfold zf5 at a;rw [if_neg (by omega),if_neg (by omega),if_pos c] at a;simp only [X3] at a;exact ⟨jj8 a.2.1,a.2.2.2.1⟩
 ·intro f g;by_cases m:k+1=l.length
  ·rw [if_pos ⟨m,f,g⟩] at d;exact absurd d (by decide)
  ·omega
 ·intro n;rw [if_pos (by simp only [X3,decide_eq_true_eq];omega)] at b;split at b
  ·exact absurd b (by decide)
  ·split at b
   ·exact absurd b (by decide)
   ·omega
def va1 (x:List Pl×Fault):Option (Unit×(List Pl×Fault×Unit)):=some ((),(x.1,x.2,()))
def gf8 (n m l) (A:Okay l) (k) (H:k<l.length) (ps) (D:ps.length=l.length) (y:AllOk ps) (lv bs le rs)
  (E: ∀(x:List Pl) (w:Pl),x.length=l.length->AllOk x->zw1 n l 0 0 l (k:Int) w.Live w.Bytes w.Least [] x w.Regs=va1 (zn2 l m (k+1) x)):
  qp2 (n+1) l 0 0 l (k:Int) lv bs le [] ps rs=va1 (zn2 l (m+1) k ps):=by
 have F:=A.len;obtain ⟨h,j⟩:=kl4 A H;rw [qb9,W3 (by omega),z9,if_pos (by omega),if_pos (by omega),Z1]
 conv=>rhs;rw [zn2]
 by_cases p:(ps.getD k j8).Live=true
 case neg=>
  rw [if_neg p,zm6 (by simpa using p)];exact E ps ⟨lv,rs,bs,le⟩ D y
 rw [if_pos p,zk4 p];have r:=y k p;have z:=qz7 ps k;rw [if_pos (by omega),if_pos (by omega)];generalize I:ps.getD k j8=w at r z p⊢;rw [yg1 _ _ _ _ r.regs (by rw [r.bytes];exact W6 _),z6,if_pos (by omega)];dsimp only;rw [show ps.set k (⟨w.Live,w.Regs,w.Bytes,w.Least⟩:Pl)=ps from z];generalize B:l.getD k za1=i at h j⊢;have s: ∀(o:Out) (c:Pl),(∀v,o=.inl v->jn4 v)->(match (((W l (zo5 ps o) (k:Int) c:PW),yz4 o):PW×(Unit⊕(Int×Unit))).2 with
   | .inl _=>(zw1 n l 0 0 (W l (zo5 ps o) (k:Int) c).1.1 (W l (zo5 ps o) (k:Int) c).1.2.2.1 (W l (zo5 ps o) (k:Int) c).1.2.2.2.1 (W l (zo5 ps o) (k:Int) c).1.2.2.2.2.2.1 (W l (zo5 ps o) (k:Int) c).1.2.2.2.2.2.2.1 [] (W l (zo5 ps o) (k:Int) c).2.1 (W l (zo5 ps o) (k:Int) c).2.2.1)
   | .inr J=>(z8 (qao (W l (zo5 ps o) (k:Int) c).1.1 (W l (zo5 ps o) (k:Int) c).2.1 (W l (zo5 ps o) (k:Int) c).1.2.2.1 (W l (zo5 ps o) (k:Int) c).1.2.2.2.1 (W l (zo5 ps o) (k:Int) c).2.2.1 (W l (zo5 ps o) (k:Int) c).1.2.2.2.2.2.1 (W l (zo5 ps o) (k:Int) c).1.2.2.2.2.2.2.1 [] 0 0 J.1) fun G=>
   some ((),(([]:List Pl),(⟨G.2.2.2.2.2.2.1.1,G.2.2.2.2.2.2.1.2.1⟩:Fault),()))))=va1 (match o with| .inl v=>zn2 l m (k+1) (zd1 ps v)| .inr e=>([],⟨e,(k:Int)⟩)):=by
  intro o c K;cases o with
  |inl v=>exact E (zd1 ps v) c ((yc1 ..).trans D) (yi7 v y (K v rfl))
  |inr e=>
   show z8 (qao _ _ _ _ _ _ _ _ _ _ _) _=_;rw [gu5,z6];rfl
 have C:w.Bytes.length<=512:=by rw [r.bytes];exact W6 _
 have a: ∀v,yv3 w i (k:Int)=.inl v->jn4 v:=fun v=>vl7 r j (k:Int);unfold yv3 at a⊢;by_cases b:i.Op=14
 ·rw [if_pos b] at a⊢;rw [W3 b,z9,gh7,if_pos b,z6,if_pos (by omega)];obtain ⟨c,e⟩:=gr9 l ps (k:Int) w i (by have:=h.next (by omega) (by omega);omega) (by omega) r.regs C y.q h.dst (h.src b).1 (h.src b).2;rw [e,z6];exact s _ c a
 rw [if_neg b] at a⊢;rw [W4 b,z5];by_cases f:i.Op=15
 ·rw [if_pos f] at a⊢;rw [zk4 (by simp [f]),gu9,if_neg b,if_pos f,z6,if_pos (by omega)];obtain ⟨c,e⟩:=wz3 l ps (k:Int) w i (by have:=h.next (by omega) (by omega);omega) (by omega) r.regs C y.q h.dst (h.sec b);rw [e,z6];exact s _ c a
 rw [if_neg f] at a⊢;rw [zm6 (by simp [f])];by_cases d:i.Op=16
 ·rw [if_pos d] at a⊢;rw [zk4 (by simp [d]),gi1,if_neg b,if_neg f,if_pos d,z6,if_pos (by omega)];have L:=h.far (.inl d);rw [gl3 l ps (k:Int) w i (by rw [Z1];exact B) (by omega) (by omega) F (by omega) r.regs C y.q,z6];exact s (kk7 w i (k:Int)) w a
 rw [if_neg d] at a⊢;rw [zm6 (by simp [d])];by_cases g:i.Op=28
 ·rw [if_pos g] at a⊢;rw [zk4 (by simp [g]),gu6,if_neg b,if_neg f,if_neg d,if_pos g,z6,if_pos (by omega),gp5 l ps (k:Int) w i r.regs,z6];exact s _ w a
 rw [if_neg g] at a⊢;rw [zm6 (by simp [g])];have M:=h.next g d;by_cases t:i.Op<=13
 ·rw [if_pos t] at a⊢;rw [zk4 (by simp [b,f,d,g,t]),gq4,if_neg b,if_neg f,if_neg d,if_neg g,W3 t,z9,z6,if_pos (by omega)];obtain ⟨c,e⟩:=vb3 l ps (k:Int) w i (by omega) (by omega) r.regs C y.q r.u h.dst (h.sec b);rw [e,z6];exact s _ c a
 rw [if_neg t] at a⊢;rw [zm6 (by simp [t]),gh4,if_neg b,if_neg f,if_neg d,if_neg g,W4 t,z5,z6,if_pos (by omega)];have L:=h.far (.inr (by have:=h.op;omega));obtain ⟨c,e⟩:=vc9 l ps (k:Int) w i (by rw [Z1];exact B) (by omega) F D r.regs C y.q (by omega) (by omega) h.dst (h.sec b) r.u;rw [e,z6];exact s _ c a
def wl9 (n m l) (A:Okay l) (k) (G:k<l.length) (ps) (D:ps.length=l.length) (z:AllOk ps) (lv le rs bs) (v:(ps.getD k j8).Live=true)
  (H: ∀(x:List Pl) (w:Pl),x.length=l.length->AllOk x->zw1 n l 0 0 l (k:Int) w.Live w.Bytes w.Least [] x w.Regs=va1 (zn2 l m (k+1) x)):
  kk6 (n+1) l 0 0 l (k:Int) lv le ps [] rs bs=va1 (zn2 l (m+1) k ps):=by
 have E:=A.len;obtain ⟨h,j⟩:=kl4 A G;rw [kt2,W3 (by omega),z9,if_pos (by omega),if_pos (by omega),Z1]
 conv=>rhs;rw [zn2]
 rw [if_pos v,zk4 v];have p:=z k v;have y:=qz7 ps k;rw [if_pos (by omega),if_pos (by omega)];generalize I:ps.getD k j8=w at p y v⊢;rw [yg1 _ _ _ _ p.regs (by rw [p.bytes];exact W6 _),z6,if_pos (by omega)];dsimp only;rw [show ps.set k (⟨w.Live,w.Regs,w.Bytes,w.Least⟩:Pl)=ps from y];generalize B:l.getD k za1=i at h j⊢;have r: ∀(o:Out) (c:Pl),(∀t,o=.inl t->jn4 t)->(match (((W l (zo5 ps o) (k:Int) c:PW),yz4 o):PW×(Unit⊕(Int×Unit))).2 with
   | .inl _=>(zw1 n l 0 0 (W l (zo5 ps o) (k:Int) c).1.1 (W l (zo5 ps o) (k:Int) c).1.2.2.1 (W l (zo5 ps o) (k:Int) c).1.2.2.2.1 (W l (zo5 ps o) (k:Int) c).1.2.2.2.2.2.1 (W l (zo5 ps o) (k:Int) c).1.2.2.2.2.2.2.1 [] (W l (zo5 ps o) (k:Int) c).2.1 (W l (zo5 ps o) (k:Int) c).2.2.1)
   | .inr J=>(z8 (qao (W l (zo5 ps o) (k:Int) c).1.1 (W l (zo5 ps o) (k:Int) c).2.1 (W l (zo5 ps o) (k:Int) c).1.2.2.1 (W l (zo5 ps o) (k:Int) c).1.2.2.2.1 (W l (zo5 ps o) (k:Int) c).2.2.1 (W l (zo5 ps o) (k:Int) c).1.2.2.2.2.2.1 (W l (zo5 ps o) (k:Int) c).1.2.2.2.2.2.2.1 [] 0 0 J.1) fun F=>
   some ((),(([]:List Pl),(⟨F.2.2.2.2.2.2.1.1,F.2.2.2.2.2.2.1.2.1⟩:Fault),()))))=va1 (match o with| .inl t=>zn2 l m (k+1) (zd1 ps t)| .inr e=>([],⟨e,(k:Int)⟩)):=by
  intro o c K;cases o with
  |inl t=>exact H (zd1 ps t) c ((yc1 ..).trans D) (yi7 t z (K t rfl))
  |inr e=>
   show z8 (qao _ _ _ _ _ _ _ _ _ _ _) _=_;rw [gu5,z6];rfl
 have C:w.Bytes.length<=512:=by rw [p.bytes];exact W6 _
 have a: ∀t,yv3 w i (k:Int)=.inl t->jn4 t:=fun t=>vl7 p j (k:Int);unfold yv3 at a⊢;by_cases b:i.Op=14
 ·rw [if_pos b] at a⊢;rw [W3 b,z9,gh7,if_pos b,z6,if_pos (by omega)];obtain ⟨c,e⟩:=gr9 l ps (k:Int) w i (by have:=h.next (by omega) (by omega);omega) (by omega) p.regs C z.q h.dst (h.src b).1 (h.src b).2;rw [e,z6];exact r _ c a
 rw [if_neg b] at a⊢;rw [W4 b,z5];by_cases f:i.Op=15
 ·rw [if_pos f] at a⊢;rw [zk4 (by simp [f]),gu9,if_neg b,if_pos f,z6,if_pos (by omega)];obtain ⟨c,e⟩:=wz3 l ps (k:Int) w i (by have:=h.next (by omega) (by omega);omega) (by omega) p.regs C z.q h.dst (h.sec b);rw [e,z6];exact r _ c a
 rw [if_neg f] at a⊢;rw [zm6 (by simp [f])];by_cases d:i.Op=16
 ·rw [if_pos d] at a⊢;rw [zk4 (by simp [d]),gi1,if_neg b,if_neg f,if_pos d,z6,if_pos (by omega)];have L:=h.far (.inl d);rw [gl3 l ps (k:Int) w i (by rw [Z1];exact B) (by omega) (by omega) E (by omega) p.regs C z.q,z6];exact r (kk7 w i (k:Int)) w a
 rw [if_neg d] at a⊢;rw [zm6 (by simp [d])];by_cases g:i.Op=28
 ·rw [if_pos g] at a⊢;rw [zk4 (by simp [g]),gu6,if_neg b,if_neg f,if_neg d,if_pos g,z6,if_pos (by omega),gp5 l ps (k:Int) w i p.regs,z6];exact r _ w a
 rw [if_neg g] at a⊢;rw [zm6 (by simp [g])];have M:=h.next g d;by_cases s:i.Op<=13
 ·rw [if_pos s] at a⊢;rw [zk4 (by simp [b,f,d,g,s]),gq4,if_neg b,if_neg f,if_neg d,if_neg g,W3 s,z9,z6,if_pos (by omega)];obtain ⟨c,e⟩:=vb3 l ps (k:Int) w i (by omega) (by omega) p.regs C z.q p.u h.dst (h.sec b);rw [e,z6];exact r _ c a
 rw [if_neg s] at a⊢;rw [zm6 (by simp [s]),gh4,if_neg b,if_neg f,if_neg d,if_neg g,W4 s,z5,z6,if_pos (by omega)];have L:=h.far (.inr (by have:=h.op;omega));obtain ⟨c,e⟩:=vc9 l ps (k:Int) w i (by rw [Z1];exact B) (by omega) E D p.regs C z.q (by omega) (by omega) h.dst (h.sec b) p.u;rw [e,z6];exact r _ c a
def gl4 (l) (a:Okay l): ∀(m k n b c d e rs),k+m=l.length->2*m+1<=n->b.length=l.length->AllOk b->qp2 n l 0 0 l (k:Int) c d e [] b rs=va1 (zn2 l m k b)
 |0,k,n,b,c,d,e,rs,i,o,g,h=>by
  obtain ⟨n,rfl⟩: ∃j,n=j+1:=⟨n-1,by omega⟩;rw [qb9,W4 (by omega),z5,us0,z6];rfl
 |m+1,k,n,b,c,d,e,rs,i,o,g,h=>by
  obtain ⟨n,rfl⟩: ∃j,n=j+1+1:=⟨n-2,by omega⟩;have r:=a.len;refine gf8 (n+1) m l a k (by omega) b g h c d e rs fun f w p q=>?_;rw [qu7,nx (k:=k) (len:=l.length) (by omega) (by omega)];exact gl4 l a m (k+1) n f w.Live w.Bytes w.Least w.Regs (by omega) (by omega) p q
def startP:Pl:=⟨true,[⟨0,0,0⟩,⟨2,0,0⟩,⟨4,0,0⟩,⟨0,0,0⟩,⟨0,0,0⟩,⟨0,0,0⟩,⟨0,0,0⟩,⟨0,0,0⟩,⟨0,0,0⟩,⟨0,0,0⟩,⟨3,0,0⟩],List.replicate 512 false,0⟩
def wf9:qdt v3=some ((),((startP.Live,startP.Regs,startP.Bytes,startP.Least,()),())):=by
 rw [ur1,zai4];kernel_rfl
def gg1:PlOk startP:=by
 refine ⟨rfl,Z9 ..,fun k=>?_⟩;unfold UOk startP;dsimp only;rcases Nat.lt_or_ge k 11 with h|h
 ·have:k=0\/k=1\/k=2\/k=3\/k=4\/k=5\/k=6\/k=7\/k=8\/k=9\/k=10:=by omega
  rcases this with rfl|rfl|rfl|rfl|rfl|rfl|rfl|rfl|rfl|rfl|rfl<;>decide
 ·rw [Y2,Y5 (by simpa using h)];decide
def zm7 (l:List Ins):List Pl:=(List.replicate l.length j8).set 0 startP
def zd8 (l:List Ins):List Pl×Fault:=if (yc9 l).Err=0 then zn2 l l.length 0 (zm7 l) else ([],yc9 l)
def qx1 (l):AllOk (zm7 l):=by
 intro k a;unfold zm7 at a⊢;rw [ze1] at a⊢;split
 ·exact gg1
 ·rename_i b;rw [if_neg b] at a;rw [Y2,List.getElem?_replicate] at a;split at a<;>exact absurd a (by decide)
def ju8 (l:List Ins):qf v3 l=va1 (zd8 l):=by
 rw [zad5,wg1,z6];unfold zd8;by_cases he:(yc9 l).Err=0
 ·have hok:=vy4 he;have hl:=hok.len;have hp:=hok.pos;rw [if_pos he,show ((yc9 l).Err != 0)=false by rw [he];rfl,z5,if_pos (by omega),wf9,z6,Z1,if_pos (by rw [Z9];omega),if_pos (by rw [Z9];omega)];show kk6 v3 l 0 0 l ((0:Nat):Int) false 0 (zm7 l) [] [] []=_;obtain ⟨n,e⟩: ∃n:Nat,(v3:Nat)=n+1+1:=⟨999999998,rfl⟩;have hn:999999998=n:=by unfold v3 at e;omega
  obtain ⟨m,hm⟩: ∃m,l.length=m+1:=⟨l.length-1,by omega⟩;have hf:(zm7 l).length=l.length:=by unfold zm7;rw [Q1,Z9]
  rw [e,hm];refine wl9 (n+1) m l hok 0 hp (zm7 l) hf (qx1 l) false 0 [] [] ?_ fun ps2 w h1 h2=>?_
  ·unfold zm7;rw [ze1,if_pos ⟨rfl,by rw [Z9];exact hp⟩];rfl
  ·rw [qu7,nx (k:=0) (len:=l.length) (by omega) (by omega)];exact gl4 l hok m 1 n ps2 w.Live w.Bytes w.Least w.Regs (by omega) (by omega) h1 h2
 ·rw [if_neg he,show ((yc9 l).Err != 0)=true from bne_iff_ne.2 he,z9];rfl
def ky6 (l):qfi v3 l=some (zd8 l).2:=by
 rw [ul3,ju8];rfl
end Go.Y
namespace Go.Y
open Go.RowKit Go.V Go.X Go.Proofs
def exL:List Ins:= [⟨12,false,0,0,true,0,0,0⟩,⟨20,false,2,0,true,1,14,0⟩,⟨28,false,0,0,false,0,0,0⟩,⟨14,false,0,1,false,12,0,2⟩,⟨28,false,0,0,false,0,0,0⟩]
def wa4:List Ins:= [⟨12,false,0,0,true,0,0,0⟩,⟨14,false,0,1,false,12,0,2⟩,⟨28,false,0,0,false,0,0,0⟩]
def ex_v:qdn v3=some exL:=by rw [uv4];rfl
def ex1:(zd8 exL).2.Err=0/\(zd8 exL).1.length=5/\((zd8 exL).1.getD 3 j8).Least=14/\((zd8 exL).1.getD 2 j8).Least=0/\((zd8 exL).1.getD 4 j8).Regs.length=11/\(((zd8 exL).1.getD 4 j8).Regs.getD 0 j7).Kind=1/\(((zd8 exL).1.getD 4 j8).Regs.getD 0 j7).In_Lo=0/\(((zd8 exL).1.getD 4 j8).Regs.getD 0 j7).In_Hi=65535:=by decide+kernel
def ex2:(zd8 wa4).2.Err=112/\(zd8 wa4).2.At=1:=by decide+kernel
def we7:qbx v3=some true:=by
 obtain ⟨n,e⟩: ∃n:Nat,(v3:Nat)=n+1:=⟨999999999,rfl⟩;obtain ⟨a1,a2,a3,a4,a5,a6,a7,a8⟩:=ex1;rw [ul0,ex_v,z6,ju8,va1,z6,z6,if_pos (by decide),if_pos (by decide),z6,if_pos (by decide),if_pos (by decide)];dsimp only;generalize zd8 exL=p at a1 a2 a3 a4 a5 a6 a7 a8⊢;rw [a1,show ((0:Int) != 0)=false from rfl,z5,a2,show (((5:Nat):Int) != 5)=false from rfl,z5,if_pos (by decide),a3,show ((14:Int) != 14)=false from rfl,z5,if_pos (by decide),a4,show ((0:Int) != 0)=false from rfl,z5,if_pos (by decide),a5,show (((11:Nat):Int) != 11)=false from rfl,e,kf4,z5];rw [show (([]:List Ins)++List.take 1 (List.drop 0 exL))++List.take (((exL.length:Nat):Int).toNat-3) (List.drop 3 exL)=wa4 from rfl,ky6,z6,ex2.1,ex2.2,show (((112:Int)==112)&&((1:Int)==1))=true from rfl,z9,a2,if_pos (by decide),a5,if_pos (by decide),a6,a7,a8];rfl
def zaa7 {w i a e} (h:yv3 w i a=.inr e):e≠0:=by
 unfold yv3 at h;split at h
 ·unfold yu1 at h;split at h
  ·cases h
  ·rename_i c;cases h;exact c
 ·split at h
  ·unfold ql0 at h;dsimp only at h;split at h
   ·cases h;decide
   ·split at h
    ·cases h;decide
    ·split at h
     ·cases h;decide
     ·split at h
      ·rename_i b;cases h;exact jk3 b
      ·split at h
       ·cases h
       ·rename_i c;cases h;exact c
  ·split at h
   ·cases h
   ·split at h
    ·unfold jh6 at h;split at h
     ·cases h
     ·rename_i b;cases h;exact jk3 b
    ·split at h
     ·unfold zq7 at h;dsimp only at h;generalize doK i.Op i.Narrow (w.Regs.getD i.Dst.toNat j7) (if i.Op=13 then ⟨0,0,0⟩ else yl8 w.Regs i)=r at h;by_cases d:r.2=0
      ·rw [if_pos d] at h;cases h
      ·rw [if_neg d] at h;cases h;exact d
     ·unfold zq8 at h;dsimp only at h;split at h
      ·cases h;decide
      ·split at h
       ·rename_i b;cases h;exact jk3 b
       ·split at h
        ·rename_i b;cases h;exact jk3 b
        ·cases h
end Go.Y
