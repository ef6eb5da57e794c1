import Derived.Test.YthhhfnfgmijggaaGreatId
import Derived.Test.YthhhfnfgmijggaaGreatM2
import Derived.Test.YthhhfnfgmijggaaGreatM1
import Derived.Test.YthhhfnfgmijggaaGreatJc
set_option linter.defProp false
namespace Go.Y
open Go.RowKit Go.V Go.X Go.Proofs
def pP (o:Option (j5×j5)):Unit×((Span×Span×Unit)⊕(Unit×Unit)):=((),match o with|some p=>.inl (p.1,p.2,())|none=>.inr ((),()))
def wi9 (u v):qde v3 u v=some (if max u.Lo v.Lo<=min u.Hi v.Hi then ((⟨max u.Lo v.Lo,min u.Hi v.Hi⟩:Span),true) else ((⟨0,0⟩:Span),false)):=by
 rw [uv3,zc1,z5,zj4,zt8,zb5];unfold q9;by_cases h:max u.Lo v.Lo<=min u.Hi v.Hi
 ·rw [if_pos h,show decide ((⟨max u.Lo v.Lo,min u.Hi v.Hi⟩:j5).Lo<=(⟨max u.Lo v.Lo,min u.Hi v.Hi⟩:j5).Hi)=true from W6 h];rfl
 ·rw [if_neg h,show decide ((⟨max u.Lo v.Lo,min u.Hi v.Hi⟩:j5).Lo<=(⟨max u.Lo v.Lo,min u.Hi v.Hi⟩:j5).Hi)=false from W7 h];rfl
def jq8 {nw:Bool} (s t:j5) (hs:SpOk nw s):X.qq v3 s t=some (woE s t):=by
 obtain ⟨n,e⟩: ∃n:Nat,(v3:Nat)=n+1+1:=⟨999999998,rfl⟩;have h1:=hs.lo;have h2:=hs.le;have h3:=hs.hi;have h4:=jp4 nw;have j1: ∀l h:Int,X.kq4 (n+1) l h t.Lo t.Hi 0 0=some (if h=t.Lo then ⟨l,IntKind.u64.wrap (h-1)⟩ else ⟨l,h⟩):=fun l h=>by
  rw [X.gd0,zb5];simp only [beq_iff_eq]
 have jt:X.jj2 (n+1+1) true s.Lo s.Hi t.Lo t.Hi 0 0=some s:=by rw [X.va4,j4]
 have jf: ¬s.Lo=s.Hi->t.Lo=t.Hi->X.jj2 (n+1+1) false s.Lo s.Hi t.Lo t.Hi 0 0=some (woE s t):=fun hh ht=>by
  rw [X.va4,z8,j1,j1];unfold woE;rw [if_neg (c:=s.Lo=s.Hi\/t.Lo≠t.Hi) (fun h=>h.elim hh (fun h=>h ht))];by_cases hl:s.Lo=t.Lo
  ·rw [show (s.Lo==t.Lo)=true by simp [hl],j4,zf4 (x:=s.Lo+1) (by omega),if_neg (show ¬s.Hi=t.Lo by omega),if_pos hl,if_neg (show ¬s.Hi=t.Lo by omega)]
  ·rw [show (s.Lo==t.Lo)=false by simp [hl],z8,if_neg hl];by_cases hr:s.Hi=t.Lo
   ·rw [if_pos hr,if_pos hr,zf4 (x:=s.Hi-1) (by omega)]
   ·rw [if_neg hr,if_neg hr]
 rw [X.zap9,qa6,z5,qa6,z5,e,jt,ye5,ye5];by_cases hh:s.Lo=s.Hi
 ·rw [W6 hh,j4];unfold woE;rw [if_pos (.inl hh)]
 ·rw [W7 hh,z8];by_cases ht:t.Lo=t.Hi
  ·rw [W6 ht,W9,jf hh ht]
  ·rw [W7 ht,U6,jt];unfold woE;rw [if_pos (.inr ht)]
def qz2 (op) {nw} (u v) (a:op=19\/op=20) (b:SpOk nw u) (c:SpOk nw v):X.qbq v3 (wW nw u v) op=some (pP (if op=19 then gtE u v else geE u v)):=by
 have d:=b.lo;have e:=b.le;have f:=b.hi;have g:=jp4 nw;have i:=c.lo;have j:=c.le;have k:=c.hi;rcases a with rfl|rfl
 ·rw [X.gn5,show ((19:Int)==17)=false from rfl,show ((19:Int)==18)=false from rfl,show ((19:Int)==19)=true from rfl,z8,z8,j4,zh3,z5,if_pos (show (19:Int)=19 from rfl),zj4,zt8];unfold gtE;by_cases h:u.Hi>v.Lo
  ·rw [if_pos h,show decide ((wW nw u v).a_Hi>(wW nw u v).b_Lo)=true from W6 h,show IntKind.u64.wrap ((wW nw u v).b_Lo+1)=v.Lo+1 from zf4 (x:=v.Lo+1) (by omega),show IntKind.u64.wrap ((wW nw u v).a_Hi-1)=u.Hi-1 from zf4 (x:=u.Hi-1) (by omega)];rfl
  ·rw [if_neg h,show decide ((wW nw u v).a_Hi>(wW nw u v).b_Lo)=false from W7 h];rfl
 ·rw [X.gn5,show ((20:Int)==17)=false from rfl,show ((20:Int)==18)=false from rfl,show ((20:Int)==19)=false from rfl,show ((20:Int)==20)=true from rfl,z8,z8,z8,j4,zh3,z5,if_neg (show ¬((20:Int)=19) by decide),zj4,zt8];unfold geE;by_cases h:u.Hi>=v.Lo
  ·rw [if_pos h,show decide ((wW nw u v).a_Hi>=(wW nw u v).b_Lo)=true from W6 h];rfl
  ·rw [if_neg h,show decide ((wW nw u v).a_Hi>=(wW nw u v).b_Lo)=false from W7 h];rfl
def ws5 (o):(match (pP o).2 with| .inl z=>some ((),.inl (z.2.1,z.1,()))| .inr _=>some ((),.inr ((),())))=some (pP (jj8 o)):=by cases o<;>rfl
def kn4 (o):(match (pP o).2 with| .inl z=>some ((),.inl (z.1,z.2.1,()))| .inr _=>some ((),.inr ((),())))=some (pP o):=by cases o<;>rfl
def gv4 (nw u v):X.qcq v3 (wW nw u v)=some (wW nw v u):=by rw [X.ut3];rfl
end Go.Y
namespace Go.Y
open Go.RowKit Go.V Go.X Go.Proofs
def gi4 (nw u v):qac (tW (wW nw u v))=decide (u.Lo=u.Hi/\v.Lo=v.Hi):=by
 rw [yc3,ya6];show (decide (u.Lo=u.Hi)&&decide (v.Lo=v.Hi))=_;by_cases a:u.Lo=u.Hi
 ·by_cases b:v.Lo=v.Hi
  ·rw [W6 a,W6 b,W6 (p:=u.Lo=u.Hi/\v.Lo=v.Hi) ⟨a,b⟩];rfl
  ·rw [W6 a,W7 b,W7 (p:=u.Lo=u.Hi/\v.Lo=v.Hi) (fun h=>b h.2)];rfl
 ·rw [W7 a,W7 (p:=u.Lo=u.Hi/\v.Lo=v.Hi) (fun h=>a h.1)];rfl
def qz3 (op:Int) {nw:Bool} (u v:j5) (hop:17<=op/\op<=22) (hu:SpOk nw u) (hv:SpOk nw v):X.qaw v3 (wW nw u v) op=some (pP (zy6 op u v)):=by
 obtain ⟨n,e⟩: ∃n:Nat,(v3:Nat)=n+1:=⟨999999999,rfl⟩;have h1:=hu.lo;have h2:=hu.le;have h3:=hu.hi;have h4:=jp4 nw;have g1:=hv.lo;have g2:=hv.le;have g3:=hv.hi;rw [X.un0];unfold zy6;by_cases k1:op=17
 ·subst k1;have em:qde v3 (⟨(wW nw u v).a_Lo,(wW nw u v).a_Hi⟩:Span) (⟨(wW nw u v).b_Lo,(wW nw u v).b_Hi⟩:Span)=_:=wi9 u v;rw [show ((17:Int)==17)=true from rfl,j4,em,z5,zh3,z5,if_pos (show (17:Int)=17 from rfl)];by_cases h:max u.Lo v.Lo<=min u.Hi v.Hi
  ·rw [if_pos h,if_pos h];rfl
  ·rw [if_neg h,if_neg h];rfl
 rw [show (op==17)=false by simpa using k1,z8,if_neg k1];by_cases k2:op=18
 ·subst k2;have wu:X.qq v3 (⟨u.Lo,u.Hi⟩:Span) (⟨v.Lo,v.Hi⟩:Span)=some (woE u v):=jq8 u v hu;have wv:X.qq v3 (⟨v.Lo,v.Hi⟩:Span) (⟨u.Lo,u.Hi⟩:Span)=some (woE v u):=jq8 v u hv;have j0:X.jy1 (n+1) (wW nw u v).a_Lo (wW nw u v).a_Hi (wW nw u v).b_Lo (wW nw u v).b_Hi (wW nw u v).narrow (wW nw u v).most (wW nw u v).size 0 0 0 0=some (pP (some (woE u v,woE v u))):=by
   show X.jy1 (n+1) u.Lo u.Hi v.Lo v.Hi nw (j9 nw) (if nw then 32 else 64) 0 0 0 0=_;rw [X.kg8,wu,z5,wv,z5];rfl
  rw [show ((18:Int)==18)=true from rfl,j4,jw3,z5,zh3,z5,zh3,z5,e,j0,gi4,if_pos (show (18:Int)=18 from rfl)];by_cases a:u.Lo=u.Hi/\v.Lo=v.Hi
  ·rw [W6 a,W9,z8];by_cases a3:u.Lo=v.Lo
   ·rw [if_pos (c:=u.Lo=u.Hi/\v.Lo=v.Hi/\u.Lo=v.Lo) ⟨a.1,a.2,a3⟩,
     show (!(((wW nw u v).a_Lo==(wW nw u v).b_Lo)&&((wW nw u v).a_Hi==(wW nw u v).b_Hi)))=false by
      show (!((u.Lo==v.Lo)&&(u.Hi==v.Hi)))=false;rw [show (u.Lo==v.Lo)=true by simp [a3],show (u.Hi==v.Hi)=true by simp;omega];rfl]
    rfl
   ·rw [if_neg (c:=u.Lo=u.Hi/\v.Lo=v.Hi/\u.Lo=v.Lo) (fun h=>a3 h.2.2),
     show (!(((wW nw u v).a_Lo==(wW nw u v).b_Lo)&&((wW nw u v).a_Hi==(wW nw u v).b_Hi)))=true by
      show (!((u.Lo==v.Lo)&&(u.Hi==v.Hi)))=true;rw [show (u.Lo==v.Lo)=false by simp [a3]];rfl]
    rfl
  ·rw [W7 a,U6,j4,if_neg (c:=u.Lo=u.Hi/\v.Lo=v.Hi/\u.Lo=v.Lo) (fun h=>a ⟨h.1,h.2.1⟩)];rfl
 rw [show (op==18)=false by simpa using k2,z8,if_neg k2];by_cases k3:op=19
 ·subst k3;rw [show ((19:Int)==19)=true from rfl,j4,zh3,z5,if_pos (show (19:Int)=19 from rfl),zj4,zt8];unfold gtE;by_cases h:u.Hi>v.Lo
  ·rw [if_pos h,show decide ((wW nw u v).a_Hi>(wW nw u v).b_Lo)=true from W6 h,show IntKind.u64.wrap ((wW nw u v).b_Lo+1)=v.Lo+1 from zf4 (x:=v.Lo+1) (by omega),show IntKind.u64.wrap ((wW nw u v).a_Hi-1)=u.Hi-1 from zf4 (x:=u.Hi-1) (by omega)];rfl
  ·rw [if_neg h,show decide ((wW nw u v).a_Hi>(wW nw u v).b_Lo)=false from W7 h];rfl
 rw [show (op==19)=false by simpa using k3,z8,if_neg k3];by_cases k4:op=20
 ·subst k4;rw [show ((20:Int)==20)=true from rfl,j4,zh3,z5,if_pos (show (20:Int)=20 from rfl),zj4,zt8];unfold geE;by_cases h:u.Hi>=v.Lo
  ·rw [if_pos h,show decide ((wW nw u v).a_Hi>=(wW nw u v).b_Lo)=true from W6 h];rfl
  ·rw [if_neg h,show decide ((wW nw u v).a_Hi>=(wW nw u v).b_Lo)=false from W7 h];rfl
 rw [show (op==20)=false by simpa using k4,z8,if_neg k4];by_cases k5:op=21
 ·subst k5;rw [show ((21:Int)==21)=true from rfl,j4,gv4,z5,qz2 19 v u (.inl rfl) hv hu,z5,if_pos (show (21:Int)=21 from rfl)];exact ws5 _
 ·rw [show (op==21)=false by simpa using k5,z8,show (op==22)=true by simp;omega,j4,gv4,z5,qz2 20 v u (.inr rfl) hv hu,z5,if_neg k5];exact ws5 _
def uj8 (yes:Bool) {nw:Bool} (u v:j5) (hu:SpOk nw u) (hv:SpOk nw v):X.qah v3 (wW nw u v) yes=some (pP (zx6 yes u v)):=by
 obtain ⟨n,e⟩: ∃n:Nat,(v3:Nat)=n+1:=⟨999999999,rfl⟩;have h1:=hu.lo;have h2:=hu.le;have g1:=hv.lo;have g2:=hv.le;have e0:(w9 .u64 (wW nw u v).a_Lo (wW nw u v).b_Lo != (0:Int))= !(decide (u.Lo.toNat&&&v.Lo.toNat=0)):=by
  rw [show w9 .u64 (wW nw u v).a_Lo (wW nw u v).b_Lo=((u.Lo.toNat&&&v.Lo.toNat:Nat):Int) from zx8 hu.u.1 hv.u.1];by_cases k:u.Lo.toNat&&&v.Lo.toNat=0
  ·rw [k];rfl
  ·rw [W7 k];simp;omega
 have j0:X.qp0 (n+1) (wW nw u v).a_Lo (wW nw u v).a_Hi (wW nw u v).b_Lo (wW nw u v).b_Hi (wW nw u v).narrow (wW nw u v).most (wW nw u v).size 0 0 0 0=some (pP (some (u,v))):=by rw [X.kf9];rfl
 have j1:X.jl0 (n+1) (wW nw u v).a_Lo (wW nw u v).a_Hi (wW nw u v).b_Lo (wW nw u v).b_Hi (wW nw u v).narrow (wW nw u v).most (wW nw u v).size 0 0 0 0=some (pP (some (⟨max u.Lo 1,u.Hi⟩,⟨max v.Lo 1,v.Hi⟩))):=by rw [X.kg0,zj4,zj4];rfl
 rw [X.uk8,jw3,z5,zh3,z5,zh3,z5,zh3,z5,zh3,z5,e,j0,j1,e0,gi4];unfold zx6;cases yes with
 |false=>
  rw [U6,j4,if_pos (show false=false from rfl)];by_cases a:u.Lo=u.Hi/\v.Lo=v.Hi
  ·rw [W6 a,W9,z8];by_cases k:u.Lo.toNat&&&v.Lo.toNat=0
   ·rw [if_neg (c:=u.Lo=u.Hi/\v.Lo=v.Hi/\u.Lo.toNat&&&v.Lo.toNat≠0) (fun h=>h.2.2 k),W6 k];rfl
   ·rw [if_pos (c:=u.Lo=u.Hi/\v.Lo=v.Hi/\u.Lo.toNat&&&v.Lo.toNat≠0) ⟨a.1,a.2,k⟩,W7 k];rfl
  ·rw [W7 a,U6,j4,if_neg (c:=u.Lo=u.Hi/\v.Lo=v.Hi/\u.Lo.toNat&&&v.Lo.toNat≠0) (fun h=>a ⟨h.1,h.2.1⟩)];rfl
 |true=>
  rw [W9,z8,if_neg (show ¬(true=false) by decide)];by_cases k1:u.Hi>0
  ·rw [show decide ((wW nw u v).a_Hi>0)=true from W6 k1,j4];by_cases k2:v.Hi>0
   ·rw [show decide ((wW nw u v).b_Hi>0)=true from W6 k2,j4];by_cases a:u.Lo=u.Hi/\v.Lo=v.Hi
    ·rw [W6 a,W9,z8];by_cases k:u.Lo.toNat&&&v.Lo.toNat=0
     ·rw [if_neg (c:=u.Hi>0/\v.Hi>0/\ ¬(u.Lo=u.Hi/\v.Lo=v.Hi/\u.Lo.toNat&&&v.Lo.toNat=0)) (fun h=>h.2.2 ⟨a.1,a.2,k⟩),W6 k];rfl
     ·rw [if_pos (c:=u.Hi>0/\v.Hi>0/\ ¬(u.Lo=u.Hi/\v.Lo=v.Hi/\u.Lo.toNat&&&v.Lo.toNat=0)) ⟨k1,k2,fun h=>k h.2.2⟩,W7 k];rfl
    ·rw [W7 a,U6,j4,if_pos (c:=u.Hi>0/\v.Hi>0/\ ¬(u.Lo=u.Hi/\v.Lo=v.Hi/\u.Lo.toNat&&&v.Lo.toNat=0)) ⟨k1,k2,fun h=>a ⟨h.1,h.2.1⟩⟩];rfl
   ·rw [show decide ((wW nw u v).b_Hi>0)=false from W7 k2,z8,if_neg (c:=u.Hi>0/\v.Hi>0/\ ¬(u.Lo=u.Hi/\v.Lo=v.Hi/\u.Lo.toNat&&&v.Lo.toNat=0)) (fun h=>k2 h.2.1)];rfl
  ·rw [show decide ((wW nw u v).a_Hi>0)=false from W7 k1,z8,if_neg (c:=u.Hi>0/\v.Hi>0/\ ¬(u.Lo=u.Hi/\v.Lo=v.Hi/\u.Lo.toNat&&&v.Lo.toNat=0)) (fun h=>k1 h.1)];rfl
def pneg (nw u v x) (h:0<=x/\x<=j9 nw):X.qw v3 (wW nw u v) x=some (zc3 nw x):=by rw [qj3,yc3,ym7 h];rfl
def pmix (nw u v s) (a:SpOk nw s):X.qav v3 (wW nw u v) s=some (zc3 nw s.Lo != zc3 nw s.Hi):=by rw [vu5,yc3,yz5 a];rfl
def ke8 (op:Int) {nw:Bool} (u v:j5) (hop:23<=op/\op<=26) (hu:SpOk nw u) (hv:SpOk nw v):X.qba v3 (wW nw u v) op=some (pP (zr4 nw op u v)):=by
 obtain ⟨n,e⟩: ∃n:Nat,(v3:Nat)=n+1:=⟨999999999,rfl⟩;have h1:=hu.lo;have h2:=hu.le;have h3:=hu.hi;have h4:=jp4 nw;have g1:=hv.lo;have g2:=hv.le;have g3:=hv.hi;have mu:X.qav v3 (wW nw u v) (⟨(wW nw u v).a_Lo,(wW nw u v).a_Hi⟩:Span)=some (zc3 nw u.Lo != zc3 nw u.Hi):=pmix nw u v u hu;have mv:X.qav v3 (wW nw u v) (⟨(wW nw u v).b_Lo,(wW nw u v).b_Hi⟩:Span)=some (zc3 nw v.Lo != zc3 nw v.Hi):=pmix nw u v v hv;have bu:X.qw v3 (wW nw u v) u.Lo=some (zc3 nw u.Lo):=pneg nw u v u.Lo (by omega);have bv:X.qw v3 (wW nw u v) v.Lo=some (zc3 nw v.Lo):=pneg nw u v v.Lo (by omega);have jt:X.yx6 (n+1) op true u.Lo u.Hi v.Lo v.Hi nw (j9 nw) (wW nw u v).size 0 0 0 0=some (pP (some (u,v))):=by rw [X.qf6,j4];rfl
 have ew:IntKind.u8.wrap (IntKind.u8.wrap (op-23)+19)=op-4:=by rw [zy9,zy9];omega
 have jf:X.yx6 (n+1) op false u.Lo u.Hi v.Lo v.Hi nw (j9 nw) (wW nw u v).size 0 0 0 0=some (pP (if zc3 nw u.Lo=zc3 nw v.Lo then zy6 (op-4) u v else if (op=23\/op=24)↔zc3 nw v.Lo=true then some (u,v) else none)):=by
  have ep:X.qaw v3 (wW nw u v) (op-4)=some (pP (zy6 (op-4) u v)):=qz3 (op-4) u v (by omega) hu hv;rw [X.qf6,z8,ew];show z6 (X.qw v3 (wW nw u v) u.Lo) (fun y1=>z6 (X.qw v3 (wW nw u v) v.Lo) (fun y2=>z9 (y1==y2) (z6 (X.qaw v3 (wW nw u v) (op-4)) _) (z9 (op==23) (z6 (X.qw v3 (wW nw u v) v.Lo) _) (z6 (X.qw v3 (wW nw u v) v.Lo) _))))=_;rw [bu,z5,bv,z5,ep,z5,z5,z5];by_cases a3:zc3 nw u.Lo=zc3 nw v.Lo
  ·rw [show (zc3 nw u.Lo==zc3 nw v.Lo)=true by simp [a3],j4,if_pos a3];exact kn4 _
  ·rw [show (zc3 nw u.Lo==zc3 nw v.Lo)=false by simp [a3],z8,if_neg a3,zh3,z5,zh3,z5];by_cases k:op=23
   ·subst k;cases hx:zc3 nw v.Lo<;>rfl
   ·rw [show (op==23)=false by simpa using k,z8];by_cases k2:op=24
    ·subst k2;cases hx:zc3 nw v.Lo<;>rfl
    ·rw [show (op==24)=false by simpa using k2];cases hx:zc3 nw v.Lo with
     |true=>rw [if_neg (c:=(op=23\/op=24)↔true=true) (fun h=>by have:=h.2 rfl;omega)];rfl
     |false=>rw [if_pos (c:=(op=23\/op=24)↔false=true) ⟨fun h=>by omega,fun h=>by cases h⟩];rfl
 rw [X.un6,mu,z5,mv,z5,e];show z9 _ (X.yx6 (n+1) op true u.Lo u.Hi v.Lo v.Hi nw (j9 nw) (wW nw u v).size 0 0 0 0) (X.yx6 (n+1) op _ u.Lo u.Hi v.Lo v.Hi nw (j9 nw) (wW nw u v).size 0 0 0 0)=_;rw [jt];unfold zr4;by_cases a1:zc3 nw u.Lo=zc3 nw u.Hi
 ·by_cases a2:zc3 nw v.Lo=zc3 nw v.Hi
  ·rw [show (zc3 nw u.Lo != zc3 nw u.Hi)=false by simp [a1],show (zc3 nw v.Lo != zc3 nw v.Hi)=false by simp [a2],z8,jf,if_neg (c:=zc3 nw u.Lo≠zc3 nw u.Hi\/zc3 nw v.Lo≠zc3 nw v.Hi) (fun h=>h.elim (fun h=>h a1) (fun h=>h a2))]
  ·rw [show (zc3 nw u.Lo != zc3 nw u.Hi)=false by simp [a1],show (zc3 nw v.Lo != zc3 nw v.Hi)=true by simp [a2],z8,jt,if_pos (.inr a2)]
 ·rw [show (zc3 nw u.Lo != zc3 nw u.Hi)=true by simp [a1],j4,if_pos (.inl a1)]
end Go.Y
namespace Go.Y
open Go.RowKit Go.V Go.X Go.Proofs
def uj5 (op:Int) (yes:Bool) {nw:Bool} (u v:j5) (hop:17<=op/\op<=27) (hu:SpOk nw u) (hv:SpOk nw v):X.qbg v3 (wW nw u v) op yes=some (pP (qb1 nw op yes u v)):=by
 obtain ⟨n,e⟩: ∃n:Nat,(v3:Nat)=n+1:=⟨999999999,rfl⟩;have j0: ∀p:Int,17<=p/\p<=26->X.jy5 (n+1) p (wW nw u v).a_Lo (wW nw u v).a_Hi (wW nw u v).b_Lo (wW nw u v).b_Hi (wW nw u v).narrow (wW nw u v).most (wW nw u v).size 0 0 0 0=some (pP (if p>=23 then zr4 nw p u v else zy6 p u v)):=fun p hp=>by
  rw [X.kh8];show z9 (decide (p>=23)) (z6 (X.qba v3 (wW nw u v) p) _) (z6 (X.qaw v3 (wW nw u v) p) _)=_;by_cases k:p>=23
  ·rw [W6 k,j4,ke8 p u v (by omega) hu hv,z5,if_pos k];exact kn4 _
  ·rw [W7 k,z8,qz3 p u v (by omega) hu hv,z5,if_neg k];exact kn4 _
 rw [X.uo5,e];unfold qb1;by_cases k:op=27
 ·rw [show (op==27)=true by simp [k],j4,<-e,uj8 yes u v hu hv,z5,if_pos k];exact kn4 _
 ·rw [show (op==27)=false by simp [k],z8,if_neg k];cases yes with
  |true=>rw [W9,z8,j0 op (by omega)];rfl
  |false=>
   have ho:=ky3 (op:=op) (by omega);rw [U6,j4,X.zah2,z5,if_pos (by omega)];have hg:([0,0,0,0,0,0,0,0,0,0,0,0,0,0,0,0,0,18,17,22,21,20,19,26,25,24,23,27]:List Int).getD op.toNat 0=jg5 op:=by
    have hh:op=17\/op=18\/op=19\/op=20\/op=21\/op=22\/op=23\/op=24\/op=25\/op=26:=by omega
    rcases hh with rfl|rfl|rfl|rfl|rfl|rfl|rfl|rfl|rfl|rfl<;>rfl
   show X.jy5 (n+1) (([0,0,0,0,0,0,0,0,0,0,0,0,0,0,0,0,0,18,17,22,21,20,19,26,25,24,23,27]:List Int).getD op.toNat 0) (wW nw u v).a_Lo (wW nw u v).a_Hi (wW nw u v).b_Lo (wW nw u v).b_Hi (wW nw u v).narrow (wW nw u v).most (wW nw u v).size 0 0 0 0=_;rw [hg,j0 _ (by omega)];rfl
def ws4 (op:Int) (nw yes:Bool) (a b:j5) (ha:q8 a.Lo/\q8 a.Hi) (hb:q8 b.Lo/\q8 b.Hi):X.qy v3 op nw yes a b=some ((),((ifE op nw yes a b).1,(ifE op nw yes a b).2.1,(ifE op nw yes a b).2.2,())):=by
 obtain ⟨n,e⟩: ∃n:Nat,(v3:Nat)=n+1:=⟨999999999,rfl⟩;rw [X.zaq8,zc1,z5,zc1,z5,zr9,z5,e];unfold ifE;by_cases h1:op<17
 ·rw [W6 h1,j4,if_neg (fun h=>by have:=h.1.1;omega)]
 rw [W7 h1,z8];by_cases h2:op>27
 ·rw [W6 h2,j4,if_neg (fun h=>by have:=h.1.2;omega)]
 rw [W7 h2,z8];by_cases h3:a.Lo<=a.Hi
 ·rw [show q9 a=true from W6 h3,W9,z8];by_cases h4:b.Lo<=b.Hi
  ·rw [show q9 b=true from W6 h4,W9,z8,if_pos ⟨by omega,h3,h4⟩,<-e,uj5 op yes _ _ (by omega) (zm0 ha h3) (zm0 hb h4),z5,e];cases qb1 nw op yes (qf a nw) (qf b nw) with
   |none=>show z6 (X.qcp 0 0 0 0 false) _=_;rw [X.ut2,z5];rfl
   |some p=>
    have j0: ∀x:j5,X.qr3 (n+1) x.Lo x.Hi p.2.Lo p.2.Hi false b.Lo b.Hi (qf a nw).Lo (qf a nw).Hi (qf b nw).Lo (qf b nw).Hi nw (j9 nw) (if nw then 32 else 64)=some ((),(x,if b.Hi>j9 nw then b else p.2,true,())):=fun x=>by
     rw [X.gd7,X.go3,z5,X.go3,z5];by_cases k:b.Hi>j9 nw
     ·rw [W6 k,if_pos k];rfl
     ·rw [W7 k,if_neg k];rfl
    show z9 (decide (a.Hi>j9 nw)) (X.qr3 (n+1) a.Lo a.Hi p.2.Lo p.2.Hi false b.Lo b.Hi (qf a nw).Lo (qf a nw).Hi (qf b nw).Lo (qf b nw).Hi nw (j9 nw) (if nw then 32 else 64)) (X.qr3 (n+1) p.1.Lo p.1.Hi p.2.Lo p.2.Hi false b.Lo b.Hi (qf a nw).Lo (qf a nw).Hi (qf b nw).Lo (qf b nw).Hi nw (j9 nw) (if nw then 32 else 64))=_;rw [j0,j0];unfold finE;by_cases k:a.Hi>j9 nw
    ·rw [W6 k];simp only [if_pos k];rfl
    ·rw [W7 k];simp only [if_neg k];rfl
  ·rw [show q9 b=false from W7 h4,U6,j4,if_neg (fun h=>h4 h.2.2)]
 ·rw [show q9 a=false from W7 h3,U6,j4,if_neg (fun h=>h3 h.2.1)]
end Go.Y
namespace Go.Y
open Go.RowKit Go.V Go.X Go.Proofs
structure TKnown where
 Kind:Int
 In:j5
def za5 (a:TKnown):Bool:=(if (a.Kind==(4:Int)) then ((a.In.Lo==(0:Int))&&(a.In.Hi==(0:Int))) else (if (a.Kind==(0:Int)) then ((a.In.Lo==(0:Int))&&(a.In.Hi==(0:Int))) else (if (a.Kind==(1:Int)) then (za6 (q9 a.In) fun b=>b) else (if (a.Kind==(2:Int)) then (za6 (q9 a.In) fun c=>c) else ((a.Kind==(3:Int))&&((a.In.Lo==(zq0 a.In.Lo).Lo)&&(a.In.Hi==(zq0 a.In.Lo).Hi)))))))
def qi (a:TKnown):(j5×Bool):=(if (a.Kind==(4:Int)) then ((⟨(0:Int),(65535:Int)⟩:j5),true) else (a.In,(a.Kind==(1:Int))))
def zb6 (a:TKnown) (c:Int) (d:Int) (e:Int):Bool:=(za6 (za5 a) fun b=>(if (!b) then false else (if (a.Kind==(0:Int)) then true else (if (a.Kind==(4:Int)) then (((c==(1:Int))&&(decide (e>=(0:Int))))&&(d==(IntKind.u64.wrap e))) else ((c==a.Kind)&&(yi0 a.In d))))))
def zi9 (a:TKnown) (b:TKnown):TKnown:=(za6 (qi a) fun c=>(za6 (qi b) fun d=>(za6 (za5 a) fun g=>(if ((!g)||(!(za5 b))) then (⟨(0:Int),(⟨(0:Int),(0:Int)⟩:j5)⟩:TKnown) else (if ((a.Kind==b.Kind)&&((a.In.Lo==b.In.Lo)&&(a.In.Hi==b.In.Hi))) then a else (if (c.2&&d.2) then (za6 (zf9 c.1 d.1) fun e=>(⟨(1:Int),e⟩:TKnown)) else (if ((a.Kind==(2:Int))&&(b.Kind==(2:Int))) then (za6 (zf9 a.In b.In) fun f=>(⟨(2:Int),f⟩:TKnown)) else (⟨(0:Int),(⟨(0:Int),(0:Int)⟩:j5)⟩:TKnown))))))))
def qcd (b:j5) (c:Bool):Bool:=(za6 (yi0 b (0:Int)) fun a=>(a||(c&&(!(ym5 b (zh1 true))))))
def zz9 (j:Int) (k:Bool) (l:TKnown) (m:TKnown) (a:Int) (b:Int) (c:Int) (f:Int) (g:Int) (h:Int) (i:(j5×Bool)) (d:(j5×Bool)) (e:Bool):(TKnown×Int):=(if e then ((⟨a,(span_Do j false (⟨b,c⟩:j5) d.1)⟩:TKnown),(0:Int)) else ((⟨(0:Int),(⟨(0:Int),(0:Int)⟩:j5)⟩:TKnown),(114:Int)))
def zg9 (i:Int) (j:Bool) (l:TKnown) (m:TKnown) (b:Int) (d:Int) (e:Int) (f:Int) (g:Int) (h:Int):(TKnown×Int):=(za6 (qi (⟨b,(⟨d,e⟩:j5)⟩:TKnown)) fun c=>(za6 (qi (⟨f,(⟨g,h⟩:j5)⟩:TKnown)) fun a=>(if (((c.2&&a.2)&&((i==(4:Int))||(i==(5:Int))))&&(qcd a.1 j)) then ((⟨(0:Int),(⟨(0:Int),(0:Int)⟩:j5)⟩:TKnown),(113:Int)) else (if (c.2&&a.2) then (za6 (span_Do i j c.1 a.1) fun k=>((⟨(1:Int),k⟩:TKnown),(0:Int))) else (if (((((i==(1:Int))||(i==(2:Int)))&&(!j))&&a.2)&&(b==(2:Int))) then (zz9 i j l m b d e f g h c a true) else (zz9 i j l m b d e f g h c a ((((((i==(1:Int))||(i==(2:Int)))&&(!j))&&a.2)&&(b==(3:Int)))&&(a.1.Lo==a.1.Hi))))))))
def zp8 (c:Int) (d:Bool) (b:TKnown) (a:TKnown):(TKnown×Int):=(if ((((decide (c<(1:Int)))||(decide (c>(13:Int))))||(!(za5 b)))||(!(za5 a))) then ((⟨(0:Int),(⟨(0:Int),(0:Int)⟩:j5)⟩:TKnown),(2:Int)) else (if (((c != (12:Int))&&(b.Kind==(0:Int)))||((c != (13:Int))&&(a.Kind==(0:Int)))) then ((⟨(0:Int),(⟨(0:Int),(0:Int)⟩:j5)⟩:TKnown),(110:Int)) else (if ((c==(12:Int))&&(!d)) then (a,(0:Int)) else (if (c==(12:Int)) then (zg9 c d b a a.Kind a.In.Lo a.In.Hi a.Kind a.In.Lo a.In.Hi) else (if (c==(13:Int)) then (zg9 c d b a b.Kind b.In.Lo b.In.Hi b.Kind b.In.Lo b.In.Hi) else (zg9 c d b a b.Kind b.In.Lo b.In.Hi a.Kind a.In.Lo a.In.Hi))))))
def tk (k:Known):TKnown:=⟨k.Kind,⟨k.In_Lo,k.In_Hi⟩⟩
def ofT (t:TKnown):Known:=⟨t.Kind,t.In.Lo,t.In.Hi⟩
def zak9 (s x):qfz v3 s x=some (yi0 s x):=by rw [zaf9,zy3];rfl
def gg2 (s t):qga v3 s t=some (ym5 s t):=by rw [zag1,zy3];rfl
def wn2 (s t):qej v3 s t=some (zf9 s t):=by rw [zaa1];rfl
def yz4 (k:Known):qas v3 k=some (za5 (tk k)):=by
 obtain ⟨n,e⟩: ∃n:Nat,(v3:Nat)=n+1:=⟨999999999,rfl⟩;have h:qas (n+1) k=some (za5 (tk k)):=by
  rw [um6,kg7,kg6,zc1,gk0,z5,z5];simp only [zb5];congr 1;simp only [za5,za6,tk,q9,zq0];by_cases h4:k.Kind=4
  ·simp [h4]
  by_cases h3:k.Kind=3
  ·simp [h3]
  by_cases h0:k.Kind=0
  ·simp [h0]
  by_cases h1:k.Kind=1
  ·simp [h1];rfl
  by_cases h2:k.Kind=2
  ·simp [h2];rfl
  simp [h0,h1,h2,h3,h4]
 rw [e];exact h
def yp7 (k):X.qi v3 k=some (qi (tk k)):=by
 rw [X.zao8,zb5];congr 1
def vu1 (a b:Known):qaa v3 a b=some (ofT (zi9 (tk a) (tk b))):=by
 obtain ⟨n,e⟩: ∃n:Nat,(v3:Nat)=n+1+1+1:=⟨999999997,rfl⟩;have h:qaa (n+1+1+1) a b=some (ofT (zi9 (tk a) (tk b))):=by
  rw [uk0,yp7,z5,yp7,z5,yz4,z5,yz4,z5];unfold zi9;simp only [za6];generalize za5 (tk a)=ra;generalize za5 (tk b)=rb;simp only [kf2,kf3,kf4,wn2,z5,zb5];congr 1;cases ra with
  |false=>rfl
  |true=>
   cases rb with
   |false=>rfl
   |true=>
    simp only [W9,Bool.or_self,U1,if_false];by_cases he:((a.Kind==b.Kind)&&((a.In_Lo==b.In_Lo)&&(a.In_Hi==b.In_Hi)))=true
    ·rw [if_pos he,if_pos (show ((tk a).Kind==(tk b).Kind&&((tk a).In.Lo==(tk b).In.Lo&&(tk a).In.Hi==(tk b).In.Hi))=true from he)];rfl
    ·rw [if_neg he,if_neg (show ¬((tk a).Kind==(tk b).Kind&&((tk a).In.Lo==(tk b).In.Lo&&(tk a).In.Hi==(tk b).In.Hi))=true from he)];show _=ofT (if ((qi (tk a)).2&&(qi (tk b)).2)=true then _ else if ((a.Kind==2)&&(b.Kind==2))=true then _ else _);generalize qi (tk a)=na;generalize qi (tk b)=nb;obtain ⟨sa,ca⟩:=na;obtain ⟨sb,cb⟩:=nb;cases ca<;>cases cb<;>cases (a.Kind==2)<;>cases (b.Kind==2)<;>rfl
 rw [e];exact h
def kc4 (s nw):X.qcd v3 s nw=some (qcd s nw):=by
 rw [X.ur9,zak9,z5,zz1,z5,gg2,z5];simp only [zb5];congr 1;unfold qcd;simp only [za6];cases yi0 s 0<;>cases nw<;>rfl
def jp7 {a} (h:q8 a.In.Lo/\q8 a.In.Hi):q8 (qi a).1.Lo/\q8 (qi a).1.Hi:=by
 unfold qi;split
 ·exact ⟨by decide,by decide⟩
 ·exact h
def pk (x:TKnown×Int):Known×Int:=(ofT x.1,x.2)
def vm7 (n:Nat) (op:Int) (nw:Bool) (p q:TKnown) (x y:Known) (g:q8 x.In_Lo/\q8 x.In_Hi) (k:q8 y.In_Lo/\q8 y.In_Hi) (h i j:Int) (l:h=0/\i=0/\j=0):
  vj2 (n+1+1+1+1+1+1) op nw x.Kind x.In_Lo x.In_Hi y.Kind y.In_Lo y.In_Hi h i j=some (pk (zg9 op nw p q x.Kind x.In_Lo x.In_Hi y.Kind y.In_Lo y.In_Hi)):=by
 obtain ⟨rfl,rfl,rfl⟩:=l;have nx:=jp7 (a:=tk x) g;have f:=jp7 (a:=tk y) k;rw [ga7,show (⟨x.Kind,x.In_Lo,x.In_Hi⟩:Known)=x from rfl,show (⟨y.Kind,y.In_Lo,y.In_Hi⟩:Known)=y from rfl,yp7,z5,yp7,z5];unfold zg9;simp only [za6];rw [show (⟨x.Kind,⟨x.In_Lo,x.In_Hi⟩⟩:TKnown)=tk x from rfl,show (⟨y.Kind,⟨y.In_Lo,y.In_Hi⟩⟩:TKnown)=tk y from rfl];generalize qi (tk x)=na at nx⊢;generalize qi (tk y)=nb at f⊢;obtain ⟨⟨sl,m⟩,c1⟩:=na;obtain ⟨⟨d,e⟩,c2⟩:=nb;have b:=do_v op nw ⟨sl,m⟩ ⟨d,e⟩ nx f;have c:=do_v op false ⟨x.In_Lo,x.In_Hi⟩ ⟨d,e⟩ g f;simp only [gb1,gb2,gb3,gb5,gb4,kc4,z5,b,c,zb5];refine congrArg some ?_;unfold zz9;generalize qcd ⟨d,e⟩ nw=nt;generalize (d==e)=et;generalize (x.Kind==2)=k2;generalize (x.Kind==3)=k3;generalize (op==1)=o1;generalize (op==2)=o2;generalize (op==4)=o4;generalize (op==5)=o5;clear b c;cases c1 with
 |true=>cases c2 with
  |true=>cases o4<;>cases o5<;>cases nt<;>cases o1<;>cases o2<;>cases nw<;>rfl
  |false=>cases o1<;>cases o2<;>cases nw<;>rfl
 |false=>cases c2 with
  |true=>cases o1<;>cases o2<;>cases nw<;>cases k2<;>cases k3<;>cases et<;>rfl
  |false=>cases o1<;>cases o2<;>cases nw<;>rfl
def zal7 (op:Int) (nw:Bool) (a b:Known) (ha:q8 a.In_Lo/\q8 a.In_Hi) (hb:q8 b.In_Lo/\q8 b.In_Hi):qc v3 op nw a b=some (pk (zp8 op nw (tk a) (tk b))):=by
 obtain ⟨n,e⟩: ∃n:Nat,(v3:Nat)=n+1+1+1+1+1+1+1+1+1:=⟨999999991,rfl⟩;have h:qc (n+1+1+1+1+1+1+1+1+1) op nw a b=some (pk (zp8 op nw (tk a) (tk b))):=by
  have e1:=vm7 n op nw (tk a) (tk b) b b hb hb 0 0 0 ⟨rfl,rfl,rfl⟩;have e2:=vm7 n op nw (tk a) (tk b) a a ha ha 0 0 0 ⟨rfl,rfl,rfl⟩;have e3:=vm7 n op nw (tk a) (tk b) a b ha hb 0 0 0 ⟨rfl,rfl,rfl⟩;rw [zan4,yz4,z5,yz4,z5];unfold zp8;generalize za5 (tk a)=ra;generalize za5 (tk b)=rb;simp only [ga8,ga9,gb0,e1,e2,e3,zb5];refine congrArg some ?_;simp only [tk];by_cases h1:op<1
  ·simp [h1,pk,ofT]
  by_cases h2:op>13
  ·simp [h1,h2,pk,ofT]
  simp only [W7 h1,W7 h2,U1,if_false,Bool.false_or];cases ra with
  |false=>rfl
  |true=>
   cases rb with
   |false=>rfl
   |true=>
    by_cases h12:op=12
    ·subst h12;by_cases hb0:b.Kind=0<;>cases nw<;>simp [hb0,pk,ofT]
    ·by_cases h13:op=13
     ·subst h13;by_cases ha0:a.Kind=0<;>simp [ha0,pk,ofT]
     ·simp only [show (op==12)=false from beq_eq_false_iff_ne.2 h12,show (op==13)=false from beq_eq_false_iff_ne.2 h13,show (op != 12)=true from bne_iff_ne.2 h12,show (op != 13)=true from bne_iff_ne.2 h13];by_cases ha0:a.Kind=0<;>by_cases hb0:b.Kind=0<;>simp [ha0,hb0,pk,ofT]
 rw [e];exact h
def zal6 {op nw a b} (d:q8 a.In.Lo/\q8 a.In.Hi) (c:q8 b.In.Lo/\q8 b.In.Hi):q8 (zp8 op nw a b).1.In.Lo/\q8 (zp8 op nw a b).1.In.Hi:=by
 have z:q8 (0:Int)/\q8 (0:Int):=⟨by decide,by decide⟩;have e: ∀(nw:Bool) (s t:j5),q8 s.Lo/\q8 s.Hi->q8 t.Lo/\q8 t.Hi->q8 (span_Do op nw s t).Lo/\q8 (span_Do op nw s t).Hi:=by
  intro nw s t j k;rw [zs2];split
  ·rename_i h;have:=(js9 h.1 (nw:=nw) j k h.2.1 h.2.2).1;rw [zs2,if_pos h] at this;exact this.u
  ·cases nw<;>exact ⟨by decide,by decide⟩
 have f: ∀(x y:TKnown),q8 x.In.Lo/\q8 x.In.Hi->q8 y.In.Lo/\q8 y.In.Hi->q8 (zg9 op nw a b x.Kind x.In.Lo x.In.Hi y.Kind y.In.Lo y.In.Hi).1.In.Lo/\q8 (zg9 op nw a b x.Kind x.In.Lo x.In.Hi y.Kind y.In.Lo y.In.Hi).1.In.Hi:=by
  intro x y g l;have nx:=jp7 g;have i:=jp7 l;unfold zg9;simp only [za6];rw [show (⟨x.Kind,⟨x.In.Lo,x.In.Hi⟩⟩:TKnown)=x from rfl,show (⟨y.Kind,⟨y.In.Lo,y.In.Hi⟩⟩:TKnown)=y from rfl];unfold zz9;split
  ·exact z
  ·split
   ·exact e _ _ _ nx i
   ·split
    ·exact e _ _ _ g i
    ·split
     ·exact e _ _ _ g i
     ·exact z
 unfold zp8;split
 ·exact z
 ·split
  ·exact z
  ·split
   ·exact c
   ·split
    ·exact f _ _ c c
    ·split
     ·exact f _ _ d d
     ·exact f _ _ d c
def wh0 {a b} (c:q8 a.In.Lo/\q8 a.In.Hi) (d:q8 b.In.Lo/\q8 b.In.Hi):q8 (zi9 a b).In.Lo/\q8 (zi9 a b).In.Hi:=by
 have z:q8 (0:Int)/\q8 (0:Int):=⟨by decide,by decide⟩;have e: ∀(s t:j5),q8 s.Lo/\q8 s.Hi->q8 t.Lo/\q8 t.Hi->q8 (zf9 s t).Lo/\q8 (zf9 s t).Hi:=by
  intro s t f g;unfold zf9 zo3 zi1;constructor
  ·show q8 (if _ then _ else _);split
   ·exact g.1
   ·exact f.1
  ·show q8 (if _ then _ else _);split
   ·exact g.2
   ·exact f.2
 have nx:=jp7 c;have h:=jp7 d;unfold zi9;simp only [za6];split
 ·exact z
 ·split
  ·exact c
  ·split
   ·exact e _ _ nx h
   ·split
    ·exact e _ _ c d
    ·exact z
end Go.Y
namespace Go.Y
open Go.RowKit Go.V Go.X Go.Proofs
abbrev Pl:=Go.X.Place
abbrev PW:=(List Ins×Unit×Int×Bool×Unit×List Bool×Int×Unit)×List Pl×List Known×Unit
def W (l:List Ins) (b:List Pl) (a:Int) (w:Pl):PW:=((l,(),a,w.Live,(),w.Bytes,w.Least,()),b,w.Regs,())
def toS {α:Type} (x:α⊕Int):(α×Unit)⊕(Int×Unit):=match x with| .inl a=>.inl (a,())| .inr e=>.inr (e,())
def yc8 (c e):qaz v3 c e=some ((),if c=true then .inr (e,()) else .inl ()):=by rw [un5];cases c<;>rfl
def qj5 (e):qcy v3 e=some ((),if e=0 then .inl () else .inr (e,())):=by
 rw [uu5,yc8,z5];by_cases h:e=0
 ·subst h;rfl
 ·rw [if_neg h,show (e != 0)=true from bne_iff_ne.2 h];rfl
def yl8 (a:Int) (k:Known):j5⊕Int:=if k.Kind=0 then .inr 110 else if k.Kind=1 then .inl ⟨k.In_Lo,k.In_Hi⟩ else if k.Kind=4 then .inl ⟨IntKind.u64.wrap a,65535⟩ else .inr 111
def yn6 (l ps a w k):qad v3 l ps a w.Live w.Regs w.Bytes w.Least k=some (W l ps a w,toS (yl8 w.Least k)):=by
 rw [gk5];simp only [yc8,z5,j6];unfold yl8;by_cases b:k.Kind=0
 ·simp [b];exact ⟨rfl,rfl⟩
 by_cases c:k.Kind=1
 ·simp [c];exact ⟨rfl,rfl⟩
 by_cases d:k.Kind=4
 ·simp [d];exact ⟨rfl,rfl⟩
 ·simp [b,c,d];exact ⟨rfl,rfl⟩
def yl9 (a:List Known) (i:Ins):Known:=if i.UseImm=true then ⟨1,IntKind.u64.wrap i.Imm,IntKind.u64.wrap i.Imm⟩ else a.getD i.Src.toNat j7
def jv6 (l ps a w i) (c:w.Regs.length=11) (b:i.UseImm=true\/0<=i.Src/\i.Src<=10):qat v3 l ps a w.Live w.Regs w.Bytes w.Least i=some (W l ps a w,(yl9 w.Regs i,())):=by
 rw [gl4,gk0,z5];unfold yl9;by_cases h:i.UseImm=true
 ·rw [h,j4];rfl
 ·rw [Bool.not_eq_true] at h;have b:=b.resolve_left (by rw [h];decide);rw [h,z8,if_pos (by omega)];rfl
def yg7 (lv rs bs n) (a:rs.length=11) (d:bs.length<=512):qcc v3 lv rs bs n=some ((rs,()),((lv,rs,bs,n,()),())):=by
 have b:qfw v3 rs=some rs:=by
  rw [zaf3,if_pos (by rw [a];decide),N1];cases rs with
  |nil=>exact qd4 _ _
  |cons x r=>rfl
 have c:qfx v3 bs=some bs:=by
  rw [zaf5,if_pos (by omega),N1];cases bs with
  |nil=>exact qd4 _ _
  |cons x r=>rfl
 rw [ur8,b,z5,c,z5]
def km3 (a b:Known):Known:=ofT (zi9 (tk a) (tk b))
def jr (q p:List Known):Nat->List Known
 |0=>q
 |k+1=>(jr q p k).set k (km3 (q.getD k j7) (p.getD k j7))
def jk4 (q p): ∀k,(jr q p k).length=q.length
 |0=>rfl
 |k+1=>by rw [jr,Q3,jk4 q p k]
def gw6 (q p j): ∀k,(jr q p k)[j]?=if j<k/\j<q.length then some (km3 (q.getD j j7) (p.getD j j7)) else q[j]?
 |0=>by rw [jr,if_neg (by omega)]
 |k+1=>by
  rw [jr,List.getElem?_set,jk4,gw6 q p j k];by_cases b:k=j
  ·subst b;rw [if_pos rfl];by_cases a:k<q.length
   ·rw [if_pos a,if_pos ⟨by omega,a⟩]
   ·rw [if_neg a,if_neg (by omega),Y5 (by omega)]
  ·rw [if_neg b];by_cases h:j<k/\j<q.length
   ·rw [if_pos h,if_pos (by omega)]
   ·rw [if_neg h,if_neg (by omega)]
def gi9 (q p k):(jr q p k).getD k j7=q.getD k j7:=by
 rw [Y2,gw6,if_neg (by omega),<-List.getD_eq_getElem?_getD]
def zm7 (a:List Pl) (k:Nat) (p:Pl):List Pl:=if (a.getD k j8).Live=true then a.set k ⟨true,jr (a.getD k j8).Regs p.Regs 11,qa1 (a.getD k j8).Bytes p.Bytes,zo3 (a.getD k j8).Least p.Least⟩ else a.set k p
def vz2 (l ps a w t) (d:0<=t/\t<(ps.length:Int)) (c:w.Regs.length=11) (e:w.Bytes.length<=512) (b:(ps.getD t.toNat j8).Live=true->(ps.getD t.toNat j8).Regs.length=11):
  qar v3 l ps a w.Live w.Regs w.Bytes w.Least t w.Live w.Bytes w.Least=some (W l (zm7 ps t.toNat w) a w,()):=by
 rw [um5,if_pos d,if_pos (by omega)];unfold zm7;cases hl:(ps.getD t.toNat j8).Live with
 |false=>rw [U6,j4,yg7 _ _ _ _ c e,z5,if_pos (by omega),if_neg (by decide)];rfl
 |true=>
  rw [W9,z8,if_pos (by omega),if_pos rfl];have b:=b hl;refine vi0 (fun n k=>yx3 n t.toNat (((ps.getD t.toNat j8).Regs.length:Nat):Int) (k:Int) l a w.Live w.Bytes w.Least ps t.toNat true (ps.getD t.toNat j8).Bytes (ps.getD t.toNat j8).Least w.Regs w.Live w.Bytes w.Least (jr (ps.getD t.toNat j8).Regs w.Regs k)) 1 11 _ (fun n k f=>?_) (fun n=>?_) v3 (by unfold v3;omega)
  ·show yx3 (n+1) _ _ (k:Int) _ _ _ _ _ _ _ _ _ _ _ _ _ _ _=yx3 n _ _ ((k+1:Nat):Int) _ _ _ _ _ _ _ _ _ _ _ _ _ _ (jr _ _ (k+1));rw [qf2,W6 (by omega),j4,if_pos rfl,if_pos rfl,jk4,b,c,if_pos (by omega),if_pos (by omega),Z1,gi9,vu1,z5,if_pos (by omega),nx f (by omega)];rfl
  ·show yx3 (n+1) _ _ ((11:Nat):Int) _ _ _ _ _ _ _ _ _ _ _ _ _ _ _=_;rw [qf2,b,W7 (by omega),z8,if_pos rfl,wv2,z5,if_pos rfl,if_pos rfl,if_pos rfl];rfl
def vz3 (l:List Ins) (b:List Pl) (a:Int) (w p:Pl) (t:Int) (e:0<=t/\t<(b.length:Int)) (d:p.Regs.length=11) (f:p.Bytes.length<=512) (c:(b.getD t.toNat j8).Live=true->(b.getD t.toNat j8).Regs.length=11):
  qau v3 l b a w.Live w.Regs w.Bytes w.Least t p.Live p.Regs p.Bytes p.Least=some (((l,(),a,w.Live,(),w.Bytes,w.Least,()),zm7 b t.toNat p,w.Regs,p.Regs,()),()):=by
 rw [um8,if_pos e,if_pos (by omega)];unfold zm7;cases hl:(b.getD t.toNat j8).Live with
 |false=>rw [U6,j4,yg7 _ _ _ _ d f,z5,if_pos (by omega),if_neg (by decide)]
 |true=>
  rw [W9,z8,if_pos (by omega),if_pos rfl];have c:=c hl;refine vi0 (fun n k=>yx4 n t.toNat (((b.getD t.toNat j8).Regs.length:Nat):Int) (k:Int) l a w.Live w.Bytes w.Least b t.toNat true (b.getD t.toNat j8).Bytes (b.getD t.toNat j8).Least w.Regs p.Regs p.Live p.Bytes p.Least (jr (b.getD t.toNat j8).Regs p.Regs k)) 1 11 _ (fun n k g=>?_) (fun n=>?_) v3 (by unfold v3;omega)
  ·show yx4 (n+1) _ _ (k:Int) _ _ _ _ _ _ _ _ _ _ _ _ _ _ _ _=yx4 n _ _ ((k+1:Nat):Int) _ _ _ _ _ _ _ _ _ _ _ _ _ _ _ (jr _ _ (k+1));rw [qf3,W6 (by omega),j4,if_pos rfl,if_pos rfl,jk4,c,d,if_pos (by omega),if_pos (by omega),Z1,gi9,vu1,z5,if_pos (by omega),nx g (by omega)];rfl
  ·show yx4 (n+1) _ _ ((11:Nat):Int) _ _ _ _ _ _ _ _ _ _ _ _ _ _ _ _=_;rw [qf3,c,W7 (by omega),z8,if_pos rfl,wv2,z5,if_pos rfl,if_pos rfl,if_pos rfl]
end Go.Y
namespace Go.Y
open Go.RowKit Go.V Go.X Go.Proofs
abbrev Out:=List (Int×Pl)⊕Int
def zd4 (a:List Pl):List (Int×Pl)->List Pl
 | []=>a
 |x::r=>zd4 (zm7 a x.1.toNat x.2) r
def zo7 (a:List Pl) (o:Out):List Pl:=match o with| .inl b=>zd4 a b| .inr _=>a
def ja9 (o:Out):Unit⊕(Int×Unit):=match o with| .inl _=>.inl ()| .inr e=>.inr (e,())
def QOk (a:List Pl):Prop:= ∀k,(a.getD k j8).Live=true->(a.getD k j8).Regs.length=11
def ze3 (a:List Pl) (k j:Nat) (p:Pl):(a.set k p).getD j j8=if k=j/\j<a.length then p else a.getD j j8:=by
 rw [Y2,Y2,List.getElem?_set];by_cases h:k=j
 ·subst h;by_cases b:k<a.length
  ·rw [if_pos rfl,if_pos b,if_pos ⟨rfl,b⟩];rfl
  ·rw [if_pos rfl,if_neg b,if_neg (fun h=>b h.2),Y5 (by omega)]
 ·rw [if_neg h,if_neg (fun c=>h c.1)]
def jf5 (ps k p):(zm7 ps k p).length=ps.length:=by unfold zm7;split<;>rw [Q3]
def wo2 {d} (h:QOk d) (k) {p} (e:p.Regs.length=11):QOk (zm7 d k p):=by
 intro j a;unfold zm7 at a⊢;split at a
 ·rename_i b;rw [if_pos b];rw [ze3] at a⊢;split
  ·rw [jk4];exact h k b
  ·rename_i c;rw [if_neg c] at a;exact h j a
 ·rename_i b;rw [if_neg b];rw [ze3] at a⊢;split
  ·exact e
  ·rename_i c;rw [if_neg c] at a;exact h j a
def qi9 (l ps a lv rs bs n) (e:0<=a/\a+1<(ps.length:Int)) (f:ps.length<=4096) (b:rs.length=11) (c:bs.length<=512) (d:QOk ps):
  qcn v3 l ps a lv rs bs n lv bs n=some (W l (zm7 ps (a+1).toNat ⟨lv,rs,bs,n⟩) a ⟨lv,rs,bs,n⟩,()):=by
 rw [us9,za1 (by omega)];have h:=vz2 l ps a ⟨lv,rs,bs,n⟩ (a+1) (by omega) b c (d _);dsimp only at h;rw [h,z5]
 try rfl
def ug0 (l ps a lv rs bs n) (b:0<=a/\a<(l.length:Int)) (f:0<=a+1+(l.getD a.toNat v8).Off/\a+1+(l.getD a.toNat v8).Off<(ps.length:Int)) (g:l.length<=4096) (i:ps.length<=4096) (c:rs.length=11) (d:bs.length<=512) (e:QOk ps):
  qdw v3 l ps a lv rs bs n lv bs n=some (W l (zm7 ps (a+1+(l.getD a.toNat v8).Off).toNat ⟨lv,rs,bs,n⟩) a ⟨lv,rs,bs,n⟩,()):=by
 rw [ux7,if_pos b,za1 (x:=a+1) (by omega),za1 (by omega)];have h:=vz2 l ps a ⟨lv,rs,bs,n⟩ (a+1+(l.getD a.toNat v8).Off) (by omega) c d (e _);dsimp only at h;rw [h,z5]
 try rfl
def we0 (l:List Ins) (b:List Pl) (a:Int) (w p:Pl) (f:0<=a/\a+1<(b.length:Int)) (g:b.length<=4096) (c:p.Regs.length=11) (d:p.Bytes.length<=512) (e:QOk b):
  qfo v3 l b a w.Live w.Regs w.Bytes w.Least p.Live p.Regs p.Bytes p.Least=some (((l,(),a,w.Live,(),w.Bytes,w.Least,()),zm7 b (a+1).toNat p,w.Regs,p.Regs,()),()):=by
 rw [zad7,za1 (by omega),vz3 l b a w p (a+1) (by omega) c d (e _),z5]
def uf9 (l:List Ins) (b:List Pl) (a:Int) (w p:Pl) (c:0<=a/\a<(l.length:Int)) (g:0<=a+1+(l.getD a.toNat v8).Off/\a+1+(l.getD a.toNat v8).Off<(b.length:Int)) (h:l.length<=4096) (i:b.length<=4096) (d:p.Regs.length=11) (e:p.Bytes.length<=512) (f:QOk b):
  qfn v3 l b a w.Live w.Regs w.Bytes w.Least p.Live p.Regs p.Bytes p.Least=some (((l,(),a,w.Live,(),w.Bytes,w.Least,()),zm7 b (a+1+(l.getD a.toNat v8).Off).toNat p,w.Regs,p.Regs,()),()):=by
 rw [zad5,if_pos c,za1 (x:=a+1) (by omega),za1 (by omega),vz3 l b a w p (a+1+(l.getD a.toNat v8).Off) (by omega) d e (f _),z5]
def zp0 (k:Known) (i:Ins):Int:=IntKind.i64.wrap (IntKind.u64.wrap (k.In_Lo+IntKind.u64.wrap i.Off))
def vt6 (k i):X.qdm v3 k i=some (zp0 k i):=by rw [X.uw1];rfl
def ji8 (w:Pl):Out:=match yl8 w.Least (w.Regs.getD 0 j7) with| .inl _=>.inl []| .inr e=>.inr e
def gh7 (l ps a w i) (b:w.Regs.length=11):qdn v3 l ps a w.Live w.Regs w.Bytes w.Least i=some (W l (zo7 ps (ji8 w)) a w,ja9 (ji8 w)):=by
 rw [uw2,if_pos (by omega),yn6,z5];unfold ji8;cases yl8 w.Least (w.Regs.getD 0 j7)<;>rfl
def km5 (w:Pl) (i:Ins) (a:Int):Out:=.inl [(a+1+i.Off,w)]
def gj0 (l ps a w i) (b:l.getD a.toNat v8=i) (c:0<=a/\a<(l.length:Int)) (d:0<=a+1+i.Off/\a+1+i.Off<(ps.length:Int)) (e:l.length<=4096) (f:ps.length<=4096) (g:w.Regs.length=11) (h:w.Bytes.length<=512) (j:QOk ps):
  qdo v3 l ps a w.Live w.Regs w.Bytes w.Least i=some (W l (zo7 ps (km5 w i a)) a w,()):=by
 subst b;rw [uw4,ug0 l ps a w.Live w.Regs w.Bytes w.Least c d e f g h j,z5];rfl
def doK (op:Int) (nw:Bool) (a b:Known):Known×Int:=pk (zp8 op nw (tk a) (tk b))
def zal5 (op nw a b) (c:q8 a.In_Lo/\q8 a.In_Hi) (d:q8 b.In_Lo/\q8 b.In_Hi):qc v3 op nw a b=some (doK op nw a b):=zal7 op nw a b c d
def zr2 (w:Pl) (i:Ins) (a:Int):Out:=
 let r:=doK i.Op i.Narrow (w.Regs.getD i.Dst.toNat j7) (if i.Op=13 then ⟨0,0,0⟩ else yl9 w.Regs i)
 if r.2=0 then .inl [(a+1,⟨w.Live,w.Regs.set i.Dst.toNat r.1,w.Bytes,w.Least⟩)] else .inr r.2
def UOk (k:Known):Prop:=q8 k.In_Lo/\q8 k.In_Hi
def qa9 {rs} (h: ∀k,UOk (rs.getD k j7)) (i):UOk (yl9 rs i):=by
 unfold yl9;split
 ·refine ⟨?_,?_⟩<;>(show q8 (IntKind.u64.wrap i.Imm);rw [v7];omega)
 ·exact h _
def vb9 (l:List Ins) (ps:List Pl) (a:Int) (w:Pl) (i:Ins) (ha:0<=a/\a+1<(ps.length:Int)) (hn:ps.length<=4096) (hr:w.Regs.length=11) (hb:w.Bytes.length<=512) (hq:QOk ps) (hu: ∀k,UOk (w.Regs.getD k j7)) (hd:0<=i.Dst/\i.Dst<=10) (hs:i.UseImm=true\/0<=i.Src/\i.Src<=10):
  ∃w',qbd v3 l ps a w.Live w.Regs w.Bytes w.Least i=some (W l (zo7 ps (zr2 w i a)) a w',ja9 (zr2 w i a)):=by
 obtain ⟨n,e⟩: ∃n:Nat,(v3:Nat)=n+1:=⟨999999999,rfl⟩;have j0: ∀b:Known,UOk b-> ∃w',qp6 (n+1) l a w.Live w.Bytes w.Least ps w.Regs i.Op i.Narrow i.Dst i.Src i.UseImm i.Off i.Imm i.Size b.Kind b.In_Lo b.In_Hi=some (W l (zo7 ps (if (doK i.Op i.Narrow (w.Regs.getD i.Dst.toNat j7) b).2=0 then .inl [(a+1,⟨w.Live,w.Regs.set i.Dst.toNat (doK i.Op i.Narrow (w.Regs.getD i.Dst.toNat j7) b).1,w.Bytes,w.Least⟩)] else .inr (doK i.Op i.Narrow (w.Regs.getD i.Dst.toNat j7) b).2)) a w',ja9 (if (doK i.Op i.Narrow (w.Regs.getD i.Dst.toNat j7) b).2=0 then .inl [(a+1,⟨w.Live,w.Regs.set i.Dst.toNat (doK i.Op i.Narrow (w.Regs.getD i.Dst.toNat j7) b).1,w.Bytes,w.Least⟩)] else .inr (doK i.Op i.Narrow (w.Regs.getD i.Dst.toNat j7) b).2)):=by
  intro b hbu;rw [kh7,if_pos (by omega),show (⟨b.Kind,b.In_Lo,b.In_Hi⟩:Known)=b from rfl,zal5 _ _ _ _ (hu _) hbu,z5,qj5,z5];generalize doK i.Op i.Narrow (w.Regs.getD i.Dst.toNat j7) b=r;by_cases h:r.2=0
  ·refine ⟨⟨w.Live,w.Regs.set i.Dst.toNat r.1,w.Bytes,w.Least⟩,?_⟩;simp only [if_pos h];rw [if_pos (by omega)];show z6 (qcn v3 l ps a w.Live (w.Regs.set i.Dst.toNat r.1) w.Bytes w.Least w.Live w.Bytes w.Least) _=_;rw [qi9 l ps a w.Live (w.Regs.set i.Dst.toNat r.1) w.Bytes w.Least ha hn (by rw [Q3];exact hr) hb hq,z5];rfl
  ·refine ⟨w,?_⟩;simp only [if_neg h];rfl
 rw [uo1,jv6 l ps a w i hr hs,z5,e];unfold zr2;dsimp only;by_cases h13:i.Op=13
 ·rw [if_pos h13,show (i.Op==13)=true from beq_iff_eq.2 h13,j4];exact j0 ⟨0,0,0⟩ ⟨by decide,by decide⟩
 ·rw [if_neg h13,show (i.Op==13)=false from beq_eq_false_iff_ne.2 h13,z8];exact j0 _ (qa9 hu i)
end Go.Y
namespace Go.Y
open Go.RowKit Go.V Go.X Go.Proofs
def km8 (w:Pl) (i:Ins):Int:=
 let p:=w.Regs.getD i.Src.toNat j7
 if p.Kind=3 then vk1 w.Bytes (zp0 p i) i.Size
 else if p.Kind=2 then (if p.In_Hi>65535 then 112 else if IntKind.i64.wrap (IntKind.i64.wrap p.In_Lo+i.Off)<0 then 112 else if IntKind.i64.wrap (IntKind.i64.wrap (IntKind.i64.wrap p.In_Hi+i.Off)+i.Size)>w.Least then 112 else 0)
 else match yl8 w.Least p with| .inl _=>111| .inr e=>e
def yp8 (a:Int):Known:=⟨1,0,zb1 .u64 18446744073709551615 (IntKind.i64.wrap (64-IntKind.i64.wrap (8*a)))⟩
def yv2 (w:Pl) (i:Ins) (a:Int):Out:=if km8 w i=0 then .inl [(a+1,⟨w.Live,w.Regs.set i.Dst.toNat (yp8 i.Size),w.Bytes,w.Least⟩)] else .inr (km8 w i)
def gf0 {s} (h:zd0 s=true): ¬IntKind.i64.wrap (64-IntKind.i64.wrap (8*s))<0:=by
 unfold zd0 at h;simp only [V5,beq_iff_eq] at h;rcases h with rfl|rfl|rfl|rfl<;>decide
def jk7 {n k e} (h:yl8 n k=.inr e):e≠0:=by
 unfold yl8 at h;split at h
 ·cases h;decide
 ·split at h
  ·cases h
  ·split at h
   ·cases h
   ·cases h;decide
def gj3 (l:List Ins) (ps:List Pl) (a:Int) (w:Pl) (i:Ins) (ha:0<=a/\a+1<(ps.length:Int)) (hn:ps.length<=4096) (hr:w.Regs.length=11) (hb:w.Bytes.length<=512) (hq:QOk ps) (hd:0<=i.Dst/\i.Dst<=10) (hs:0<=i.Src/\i.Src<=10) (hz:zd0 i.Size=true):
  ∃w',qbb v3 l ps a w.Live w.Regs w.Bytes w.Least i=some (W l (zo7 ps (yv2 w i a)) a w',ja9 (yv2 w i a)):=by
 obtain ⟨n,e⟩: ∃n:Nat,(v3:Nat)=n+1:=⟨999999999,rfl⟩;have j0:jy4 (n+1) l a w.Live w.Bytes w.Least ps w.Regs i.Op i.Narrow i.Dst i.Src i.UseImm i.Off i.Imm i.Size=some (W l (zm7 ps (a+1).toNat ⟨w.Live,w.Regs.set i.Dst.toNat (yp8 i.Size),w.Bytes,w.Least⟩) a ⟨w.Live,w.Regs.set i.Dst.toNat (yp8 i.Size),w.Bytes,w.Least⟩,.inl ()):=by
  rw [kh6,if_neg (gf0 hz),if_pos (by omega)];show z6 (qcn v3 l ps a w.Live (w.Regs.set i.Dst.toNat (yp8 i.Size)) w.Bytes w.Least w.Live w.Bytes w.Least) _=_;rw [qi9 l ps a w.Live (w.Regs.set i.Dst.toNat (yp8 i.Size)) w.Bytes w.Least ha hn (by rw [Q3];exact hr) hb hq,z5]
  try rfl
 rw [<-e] at j0;rw [un8,if_pos (by omega)];unfold yv2 km8;dsimp only;generalize w.Regs.getD i.Src.toNat j7=p;by_cases h3:p.Kind=3
 ·rw [show (p.Kind==3)=true from beq_iff_eq.2 h3,j4,vt6,z5,zan8,z5,qj5,z5];simp only [if_pos h3];generalize vk1 w.Bytes (zp0 p i) i.Size=r;by_cases hr0:r=0
  ·simp only [if_pos hr0,j0];exact ⟨_,rfl⟩
  ·simp only [if_neg hr0];exact ⟨w,rfl⟩
 ·rw [show (p.Kind==3)=false from beq_eq_false_iff_ne.2 h3,z8];simp only [if_neg h3];by_cases h2:p.Kind=2
  ·rw [show (p.Kind==2)=true from beq_iff_eq.2 h2,j4,yc8,z5];simp only [if_pos h2,decide_eq_true_eq];by_cases c1:p.In_Hi>65535
   ·simp only [if_pos c1];exact ⟨w,rfl⟩
   ·simp only [if_neg c1];by_cases c2:IntKind.i64.wrap (IntKind.i64.wrap p.In_Lo+i.Off)<0
    ·simp only [if_pos c2,W6 c2,j4,yc8,z5];exact ⟨w,rfl⟩
    ·simp only [if_neg c2,W7 c2,z8,yc8,z5,decide_eq_true_eq];by_cases c3:IntKind.i64.wrap (IntKind.i64.wrap (IntKind.i64.wrap p.In_Hi+i.Off)+i.Size)>w.Least
     ·simp only [if_pos c3];exact ⟨w,rfl⟩
     ·simp only [if_neg c3,j0];exact ⟨_,rfl⟩
  ·rw [show (p.Kind==2)=false from beq_eq_false_iff_ne.2 h2,z8,yn6,z5];simp only [if_neg h2];cases hx:yl8 w.Least p with
   |inl s=>exact ⟨w,rfl⟩
   |inr x=>
    have:=jk7 hx;simp only [if_neg this];exact ⟨w,rfl⟩
def qk9 (w:Pl) (i:Ins) (a:Int):Out:=
 let p:=w.Regs.getD i.Dst.toNat j7
 let b:=yl9 w.Regs i
 if p.Kind=0\/b.Kind=0 then .inr 110 else if p.Kind=2 then .inr 114 else if p.Kind≠3 then .inr 111
 else match yl8 w.Least b with
  | .inr e=>.inr e
  | .inl _=>if (yv6 w.Bytes (zp0 p i) i.Size).2=0 then .inl [(a+1,⟨w.Live,w.Regs,(yv6 w.Bytes (zp0 p i) i.Size).1,w.Least⟩)] else .inr (yv6 w.Bytes (zp0 p i) i.Size).2
def wn0 (b x z):(yv6 b x z).1.length<=b.length:=by
 unfold yv6;split
 ·rw [jd6];exact W8 _
 ·exact J7 _
def ws8 (l:List Ins) (ps:List Pl) (a:Int) (w:Pl) (i:Ins) (ha:0<=a/\a+1<(ps.length:Int)) (hn:ps.length<=4096) (hr:w.Regs.length=11) (hb:w.Bytes.length<=512) (hq:QOk ps) (hd:0<=i.Dst/\i.Dst<=10) (hs:i.UseImm=true\/0<=i.Src/\i.Src<=10):
  ∃w',qbh v3 l ps a w.Live w.Regs w.Bytes w.Least i=some (W l (zo7 ps (qk9 w i a)) a w',ja9 (qk9 w i a)):=by
 obtain ⟨n,e⟩: ∃n:Nat,(v3:Nat)=n+1:=⟨999999999,rfl⟩;rw [uo7,if_pos (by omega),jv6 l ps a w i hr hs,z5];unfold qk9;dsimp only;generalize w.Regs.getD i.Dst.toNat j7=p;generalize yl9 w.Regs i=b;by_cases h0:p.Kind=0
 ·rw [show (p.Kind==0)=true from beq_iff_eq.2 h0,j4,yc8,z5,if_pos rfl,if_pos (c:=p.Kind=0\/b.Kind=0) (.inl h0)];exact ⟨w,rfl⟩
 rw [show (p.Kind==0)=false from beq_eq_false_iff_ne.2 h0,z8,yc8,z5];by_cases h1:b.Kind=0
 ·rw [if_pos (c:=p.Kind=0\/b.Kind=0) (.inr h1),show (b.Kind==0)=true from beq_iff_eq.2 h1];exact ⟨w,rfl⟩
 rw [if_neg (c:=p.Kind=0\/b.Kind=0) (fun h=>h.elim h0 h1),show (b.Kind==0)=false from beq_eq_false_iff_ne.2 h1];simp only [U1,if_false];rw [e,kh9,yc8,z5];by_cases h2:p.Kind=2
 ·rw [if_pos h2,show (p.Kind==2)=true from beq_iff_eq.2 h2];exact ⟨w,rfl⟩
 rw [if_neg h2,show (p.Kind==2)=false from beq_eq_false_iff_ne.2 h2];simp only [U1,if_false,yc8,z5];by_cases h3:p.Kind=3
 ·rw [if_neg (c:=p.Kind≠3) (fun h=>h h3),show (p.Kind != 3)=false by rw [h3];rfl];simp only [U1,if_false,yn6,z5];rw [show (⟨b.Kind,b.In_Lo,b.In_Hi⟩:Known)=b from rfl];cases hx:yl8 w.Least b with
  |inr x=>exact ⟨w,rfl⟩
  |inl s=>
   simp only [toS];rw [show (⟨p.Kind,p.In_Lo,p.In_Hi⟩:Known)=p from rfl,show (⟨i.Op,i.Narrow,i.Dst,i.Src,i.UseImm,i.Off,i.Imm,i.Size⟩:Ins)=i from rfl,vt6,z5,zan9,z5,qj5,z5];have hle:=wn0 w.Bytes (zp0 p i) i.Size;generalize yv6 w.Bytes (zp0 p i) i.Size=r at hle⊢;by_cases hr0:r.2=0
   ·simp only [if_pos hr0];rw [qi9 l ps a w.Live w.Regs r.1 w.Least ha hn hr (by omega) hq,z5];exact ⟨⟨w.Live,w.Regs,r.1,w.Least⟩,rfl⟩
   ·simp only [if_neg hr0];exact ⟨w,rfl⟩
 ·rw [if_pos (c:=p.Kind≠3) h3,show (p.Kind != 3)=true from bne_iff_ne.2 h3];exact ⟨w,rfl⟩
end Go.Y
namespace Go.Y
open Go.RowKit Go.V Go.X Go.Proofs
def zk8 {R c} (h:c=true) (x y:Option R):z9 c x y=x:=by rw [h];rfl
def zn2 {R c} (h:c=false) (x y:Option R):z9 c x y=y:=by rw [h];rfl
def zl3 (p:Pl) (r:Int) (s:j5):Pl:=if (p.Regs.getD r.toNat j7).Kind=1 then ⟨p.Live,p.Regs.set r.toNat ⟨(p.Regs.getD r.toNat j7).Kind,s.Lo,s.Hi⟩,p.Bytes,p.Least⟩ else ⟨p.Live,p.Regs,p.Bytes,zi1 p.Least (IntKind.i64.wrap s.Lo)⟩
def vf8 (w:Pl) (i:Ins) (x y:j5):Pl:=if i.UseImm=true then zl3 w i.Dst x else if i.Src=i.Dst then w else zl3 (zl3 w i.Dst x) i.Src y
def jm9 (w:Pl) (i:Ins) (m n:j5) (yes:Bool) (t:Int):List (Int×Pl):=if (ifE i.Op i.Narrow yes m n).2.2=true then [(t,vf8 w i (ifE i.Op i.Narrow yes m n).1 (ifE i.Op i.Narrow yes m n).2.1)] else []
def zr0 (w:Pl) (i:Ins) (a:Int):Out:=
 let p:=w.Regs.getD i.Dst.toNat j7
 let b:=yl9 w.Regs i
 if p.Kind=0\/b.Kind=0 then .inr 110 else match yl8 w.Least p with
  | .inr e=>.inr e
  | .inl m=>match yl8 w.Least b with
   | .inr e=>.inr e
   | .inl n=>.inl (jm9 w i m n false (a+1)++jm9 w i m n true (a+1+i.Off))
def jh7 (y): ∀(x ps),zd4 ps (x++y)=zd4 (zd4 ps x) y
 | [],ps=>rfl
 |z::r,ps=>by rw [K9,zd4,jh7 y r,zd4]
def ze5 (p r s):(zl3 p r s).Regs.length=p.Regs.length/\(zl3 p r s).Bytes=p.Bytes:=by
 unfold zl3;split
 ·exact ⟨Q3 ..,rfl⟩
 ·exact ⟨rfl,rfl⟩
def jm6 (p r s) (hr:0<=r/\r<(p.Regs.length:Int)):qcw v3 p.Live p.Regs p.Bytes p.Least r s=some ((((zl3 p r s).Live,(),(zl3 p r s).Bytes,(zl3 p r s).Least,()),(zl3 p r s).Regs,()),()):=by
 rw [uu2,if_pos hr];unfold zl3;by_cases h:(p.Regs.getD r.toNat j7).Kind=1
 ·rw [if_pos h,show ((p.Regs.getD r.toNat j7).Kind==1)=true from beq_iff_eq.2 h,j4]
 ·rw [if_neg h,show ((p.Regs.getD r.toNat j7).Kind==1)=false from beq_eq_false_iff_ne.2 h,z8]
section
variable (l:List Ins) (ps:List Pl) (a:Int) (w:Pl) (i:Ins) (m k:j5)
theorem wr0 (n c d):qq8 (n+2) 2 l a w.Live w.Bytes w.Least ps w.Regs i.Op i.Narrow i.Dst i.Src i.UseImm i.Off i.Imm i.Size m.Lo m.Hi k.Lo k.Hi c d=some (W l ps a w,.inl ()):=by
 rw [ki8,W7 (by omega),z8];rfl
variable (hi:l.getD a.toNat v8=i) (ha:0<=a/\a<(l.length:Int)) (hl:l.length<=4096) (hn:ps.length=l.length) (hr:w.Regs.length=11) (hb:w.Bytes.length<=512) (hq:QOk ps)
variable (ht:0<=a+1+i.Off/\a+1+i.Off<(l.length:Int)) (ha1:a+1<(l.length:Int)) (hd:0<=i.Dst/\i.Dst<=10) (hs:i.UseImm=true\/0<=i.Src/\i.Src<=10)
variable (hm:q8 m.Lo/\q8 m.Hi) (hk:q8 k.Lo/\q8 k.Hi)
include hi ha hl hn hq ht
theorem zal3 (n p c d e) (f:p.Regs.length=11) (b:p.Bytes.length<=512):jl6 (n+3) 2 l a w.Live w.Bytes w.Least ps w.Regs i.Op i.Narrow i.Dst i.Src i.UseImm i.Off i.Imm i.Size m.Lo m.Hi k.Lo k.Hi c p.Live p.Bytes p.Least d e p.Regs=some (W l (zm7 ps (a+1+i.Off).toNat p) a w,.inl ()):=by
 subst hi;rw [ki9,uf9 l ps a w p ha (by omega) hl (by omega) f b hq,z5];exact wr0 l _ a w _ m k n d e
include hr hb hd hs hm hk
theorem j2_v (n c):kp9 (n+5) 2 l a w.Live w.Bytes w.Least ps w.Regs i.Op i.Narrow i.Dst i.Src i.UseImm i.Off i.Imm i.Size m.Lo m.Hi k.Lo k.Hi c true=some (W l (zd4 ps (jm9 w i m k true (a+1+i.Off))) a w,.inl ()):=by
 rw [gb8,W6 (by omega),j4,show (⟨m.Lo,m.Hi⟩:Span)=m from rfl,show (⟨k.Lo,k.Hi⟩:Span)=k from rfl,ws4 _ _ _ _ _ hm hk,z5];unfold jm9;generalize ifE i.Op i.Narrow true m k=r;dsimp only;cases hc:r.2.2 with
 |false=>rw [U6,j4,if_neg (by decide)];exact wr0 l ps a w i m k _ _ _
 |true=>
  rw [W9,z8,if_pos rfl,yg7 _ _ _ _ hr hb,z5];have d: ∀p:Pl,p.Regs.length=11->p.Bytes.length<=512->jl6 (n+3) 2 l a w.Live w.Bytes w.Least ps w.Regs i.Op i.Narrow i.Dst i.Src i.UseImm i.Off i.Imm i.Size m.Lo m.Hi k.Lo k.Hi true p.Live p.Bytes p.Least c true p.Regs=some (W l (zd4 ps [(a+1+i.Off,p)]) a w,.inl ()):=fun p f g=>zal3 l ps a w i m k hi ha hl hn hq ht n p true c true f g;unfold vf8;by_cases b:i.UseImm=true
  ·rw [if_pos b,zk8 b,jm6 w i.Dst r.1 (by omega),z5];exact d (zl3 w i.Dst r.1) ((ze5 ..).1.trans hr) (by rw [(ze5 ..).2];exact hb)
  ·rw [if_neg b];have hs:=hs.resolve_left b;by_cases e:i.Src=i.Dst
   ·rw [if_pos e,show (i.Src != i.Dst)=false by rw [e];exact bne_self_eq_false _];rw [Bool.not_eq_true] at b;rw [z8,zn2 b];exact d w hr hb
   ·rw [if_neg e,show (i.Src != i.Dst)=true from bne_iff_ne.2 e];rw [Bool.not_eq_true] at b;rw [j4,zn2 b,jm6 w i.Dst r.1 (by omega),z5];have h:=(ze5 w i.Dst r.1).1;dsimp only;rw [jm6 (zl3 w i.Dst r.1) i.Src r.2.1 (by omega),z5];exact d (zl3 (zl3 w i.Dst r.1) i.Src r.2.1) ((ze5 ..).1.trans (h.trans hr)) (by rw [(ze5 ..).2,(ze5 ..).2];exact hb)
include ha1
theorem j3_v (n p c) (d:p.Regs.length=11) (b:p.Bytes.length<=512):qq9 (n+6) 2 l a w.Live w.Bytes w.Least ps w.Regs i.Op i.Narrow i.Dst i.Src i.UseImm i.Off i.Imm i.Size m.Lo m.Hi k.Lo k.Hi c p.Live p.Bytes p.Least false true p.Regs=some (W l (zd4 (zm7 ps (a+1).toNat p) (jm9 w i m k true (a+1+i.Off))) a w,.inl ()):=by
 rw [gb9,we0 l ps a w p (by omega) (by omega) d b hq,z5];exact j2_v l _ a w i m k hi ha hl (by rw [jf5];exact hn) hr hb (wo2 hq _ d) ht hd hs hm hk n false
omit hm hk in
theorem j0_v (n x y) (f:UOk x) (j:UOk y): ∃w',kp8 (n+8) l a w.Live w.Bytes w.Least ps w.Regs i.Op i.Narrow i.Dst i.Src i.UseImm i.Off i.Imm i.Size x.Kind x.In_Lo x.In_Hi y.Kind y.In_Lo y.In_Hi=
  (let o:Out:=match yl8 w.Least x with
   | .inr e=>.inr e
   | .inl m=>match yl8 w.Least y with
    | .inr e=>.inr e
    | .inl n=>.inl (jm9 w i m n false (a+1)++jm9 w i m n true (a+1+i.Off))
  some (W l (zo7 ps o) a w',ja9 o)):=by
 have g: ∀(x:Known) (s:j5),UOk x->yl8 w.Least x=.inl s->q8 s.Lo/\q8 s.Hi:=by
  intro x s f h;unfold yl8 at h;split at h
  ·cases h
  ·split at h
   ·cases h;exact f
   ·split at h
    ·cases h;refine ⟨?_,by show q8 (65535:Int);decide⟩;show q8 (IntKind.u64.wrap w.Least);rw [v7];omega
    ·cases h
 refine ⟨w,?_⟩;rw [gb7,show (⟨x.Kind,x.In_Lo,x.In_Hi⟩:Known)=x from rfl,show (⟨y.Kind,y.In_Lo,y.In_Hi⟩:Known)=y from rfl,yn6,z5];simp only [yn6,z5];cases h1:yl8 w.Least x with
 |inr e=>rfl
 |inl m=>
  have hm:=g x m f h1;simp only [toS];cases h2:yl8 w.Least y with
  |inr e=>rfl
  |inl k=>
   have hk:=g y k j h2;simp only [zo7,ja9];rw [ws4 _ _ _ _ _ hm hk,z5,jh7]
   conv=>rhs;unfold jm9
   have q:=j2_v l ps a w i m k hi ha hl hn hr hb hq ht hd hs hm hk (n+1) false;generalize ifE i.Op i.Narrow false m k=r;dsimp only;cases hc:r.2.2 with
   |false=>rw [U6,j4,if_neg (by decide)];exact q
   |true=>
    rw [W9,z8,if_pos rfl,yg7 _ _ _ _ hr hb,z5];have c: ∀p:Pl,p.Regs.length=11->p.Bytes.length<=512->qq9 (n+6) 2 l a w.Live w.Bytes w.Least ps w.Regs i.Op i.Narrow i.Dst i.Src i.UseImm i.Off i.Imm i.Size m.Lo m.Hi k.Lo k.Hi false p.Live p.Bytes p.Least false true p.Regs=some (W l (zd4 (zd4 ps [(a+1,p)]) (jm9 w i m k true (a+1+i.Off))) a w,.inl ()):=fun p t u=>j3_v l ps a w i m k hi ha hl hn hr hb hq ht ha1 hd hs hm hk n p false t u;unfold vf8;by_cases b:i.UseImm=true
    ·rw [if_pos b,zk8 b,jm6 w i.Dst r.1 (by omega),z5];exact c (zl3 w i.Dst r.1) ((ze5 ..).1.trans hr) (by rw [(ze5 ..).2];exact hb)
    ·rw [if_neg b];have hs:=hs.resolve_left b;by_cases d:i.Src=i.Dst
     ·rw [if_pos d,show (i.Src != i.Dst)=false by rw [d];exact bne_self_eq_false _];rw [Bool.not_eq_true] at b;rw [z8,zn2 b];exact c w hr hb
     ·rw [if_neg d,show (i.Src != i.Dst)=true from bne_iff_ne.2 d];rw [Bool.not_eq_true] at b;rw [j4,zn2 b,jm6 w i.Dst r.1 (by omega),z5];have v:=(ze5 w i.Dst r.1).1;dsimp only;rw [jm6 (zl3 w i.Dst r.1) i.Src r.2.1 (by omega),z5];exact c (zl3 (zl3 w i.Dst r.1) i.Src r.2.1) ((ze5 ..).1.trans (v.trans hr)) (by rw [(ze5 ..).2,(ze5 ..).2];exact hb)
omit hm hk in
theorem qv8 (hu: ∀j,UOk (w.Regs.getD j j7)): ∃w',qg v3 l ps a w.Live w.Regs w.Bytes w.Least i=some (W l (zo7 ps (zr0 w i a)) a w',ja9 (zr0 w i a)):=by
 obtain ⟨n,e⟩: ∃n:Nat,(v3:Nat)=n+8:=⟨999999992,rfl⟩;rw [zao4,if_pos (by omega),jv6 l ps a w i hr hs,z5];have hp:=hu i.Dst.toNat;have hb':=qa9 hu i;unfold zr0;dsimp only;generalize w.Regs.getD i.Dst.toNat j7=p at hp⊢;generalize yl9 w.Regs i=b at hb'⊢;by_cases h0:p.Kind=0
 ·rw [show (p.Kind==0)=true from beq_iff_eq.2 h0,j4,yc8,z5,if_pos rfl,if_pos (c:=p.Kind=0\/b.Kind=0) (.inl h0)];exact ⟨w,rfl⟩
 rw [show (p.Kind==0)=false from beq_eq_false_iff_ne.2 h0,z8,yc8,z5];by_cases h1:b.Kind=0
 ·rw [if_pos (c:=p.Kind=0\/b.Kind=0) (.inr h1),show (b.Kind==0)=true from beq_iff_eq.2 h1];exact ⟨w,rfl⟩
 rw [if_neg (c:=p.Kind=0\/b.Kind=0) (fun h=>h.elim h0 h1),show (b.Kind==0)=false from beq_eq_false_iff_ne.2 h1];simp only [U1,if_false];rw [e];exact j0_v l ps a w i hi ha hl hn hr hb hq ht ha1 hd hs n p b hp hb'
end
end Go.Y
namespace Go.Y
open Go.RowKit Go.V Go.X Go.Proofs
def In (M:Int) (x:j5):Prop:=0<=x.Lo/\x.Lo<=x.Hi/\x.Hi<=M
def uf5 {M s n} (h:In M s):In M (woE s n):=by
 obtain ⟨a,b,c⟩:=h;unfold woE;split
 ·exact ⟨a,b,c⟩
 ·unfold In;dsimp only;split<;>split<;>omega
def qz1 {M op} (i:17<=op/\op<=22) {u v x y} (a:In M u) (b:In M v) (h:zy6 op u v=some (x,y)):In M x/\In M y:=by
 have c: ∀u v x y:j5,In M u->In M v->gtE u v=some (x,y)->In M x/\In M y:=by
  intro u v x y a b h;unfold In at a b;unfold gtE at h;split at h
  ·simp only [X0,X7] at h;obtain ⟨rfl,rfl⟩:=h;unfold In;dsimp only;omega
  ·cases h
 have d: ∀u v x y:j5,In M u->In M v->geE u v=some (x,y)->In M x/\In M y:=by
  intro u v x y a b h;unfold In at a b;unfold geE at h;split at h
  ·simp only [X0,X7] at h;obtain ⟨rfl,rfl⟩:=h;unfold In;dsimp only;omega
  ·cases h
 have f: ∀(o:Option (j5×j5)),(∀x y,o=some (x,y)->In M x/\In M y)-> ∀x y,jj8 o=some (x,y)->In M x/\In M y:=by
  intro o g x y h;cases o with
  |none=>cases h
  |some p=>
   simp only [jj8,Z8,X0,X7] at h;obtain ⟨rfl,rfl⟩:=h;exact ⟨(g p.1 p.2 rfl).2,(g p.1 p.2 rfl).1⟩
 have j:op=17\/op=18\/op=19\/op=20\/op=21\/op=22:=by omega
 rcases j with rfl|rfl|rfl|rfl|rfl|rfl
 ·have h:(if max u.Lo v.Lo<=min u.Hi v.Hi then some ((⟨max u.Lo v.Lo,min u.Hi v.Hi⟩:j5),(⟨max u.Lo v.Lo,min u.Hi v.Hi⟩:j5)) else none)=some (x,y):=h;unfold In at a b;split at h
  ·simp only [X0,X7] at h;obtain ⟨rfl,rfl⟩:=h;unfold In;dsimp only;omega
  ·cases h
 ·have h:(if u.Lo=u.Hi/\v.Lo=v.Hi/\u.Lo=v.Lo then none else some (woE u v,woE v u))=some (x,y):=h;split at h
  ·cases h
  ·simp only [X0,X7] at h;obtain ⟨rfl,rfl⟩:=h;exact ⟨uf5 a,uf5 b⟩
 ·exact c u v x y a b h
 ·exact d u v x y a b h
 ·exact f (gtE v u) (fun x y e=>c v u x y b a e) x y h
 ·exact f (geE v u) (fun x y e=>d v u x y b a e) x y h
def ug3 {M op} (d:17<=op/\op<=27) {nw yes u v x y} (b:In M u) (c:In M v) (h:qb1 nw op yes u v=some (x,y)):In M x/\In M y:=by
 have same:some (u,v)=some (x,y)->In M x/\In M y:=by
  intro e;simp only [X0,X7] at e;obtain ⟨rfl,rfl⟩:=e;exact ⟨b,c⟩
 unfold qb1 at h;by_cases a:op=27
 ·rw [if_pos a] at h;unfold zx6 at h;split at h
  ·split at h
   ·cases h
   ·exact same h
  ·split at h
   ·simp only [X0,X7] at h;obtain ⟨rfl,rfl⟩:=h;unfold In at b c⊢;dsimp only;omega
   ·cases h
 ·rw [if_neg a] at h;have f:=qd8 (op:=op) (by omega);have g:17<=(if yes=true then op else jg5 op)/\(if yes=true then op else jg5 op)<=26:=by split<;>omega
  generalize (if yes=true then op else jg5 op)=o at *;split at h
  ·unfold zr4 at h;split at h
   ·exact same h
   ·split at h
    ·exact qz1 (by omega) b c h
    ·split at h
     ·exact same h
     ·cases h
  ·exact qz1 (by omega) b c h
def zal0 (op nw yes) {a b} (c:q8 a.Lo/\q8 a.Hi) (d:q8 b.Lo/\q8 b.Hi):(q8 (ifE op nw yes a b).1.Lo/\q8 (ifE op nw yes a b).1.Hi)/\q8 (ifE op nw yes a b).2.1.Lo/\q8 (ifE op nw yes a b).2.1.Hi:=by
 unfold ifE;split
 ·rename_i h;have e:=zm0 (nw:=nw) c h.2.1;have f:=zm0 (nw:=nw) d h.2.2;have j:=zn3 nw;unfold finE;cases hx:qb1 nw op yes (qf a nw) (qf b nw) with
  |none=>exact ⟨⟨by show q8 (0:Int);decide,by show q8 (0:Int);decide⟩,by show q8 (0:Int);decide,by show q8 (0:Int);decide⟩
  |some x=>
   obtain ⟨x,y⟩:=x;obtain ⟨g,i⟩:=ug3 (M:=j9 nw) h.1 ⟨e.lo,e.le,e.hi⟩ ⟨f.lo,f.le,f.hi⟩ hx;unfold In at g i;dsimp only;constructor
   ·split
    ·exact c
    ·omega
   ·split
    ·exact d
    ·omega
 ·exact ⟨c,d⟩
structure PlOk (p:Pl):Prop where
 regs:p.Regs.length=11
 bytes:p.Bytes.length=512
 u: ∀k,UOk (p.Regs.getD k j7)
def AllOk (a:List Pl):Prop:= ∀k,(a.getD k j8).Live=true->PlOk (a.getD k j8)
def AllOk.q {a} (h:AllOk a):QOk a:=fun k b=>(h k b).regs
def yp3 (rs:List Known) (k j:Nat) (x:Known):(rs.set k x).getD j j7=if k=j/\j<rs.length then x else rs.getD j j7:=by
 rw [Y2,Y2,List.getElem?_set];by_cases h:k=j
 ·subst h;by_cases a:k<rs.length
  ·rw [if_pos rfl,if_pos a,if_pos ⟨rfl,a⟩];rfl
  ·rw [if_pos rfl,if_neg a,if_neg (fun h=>a h.2),Y5 (by omega)]
 ·rw [if_neg h,if_neg (fun b=>h b.1)]
def kr2 {rs:List Known} (h: ∀k,UOk (rs.getD k j7)) {x} (a:UOk x) (k:Nat): ∀j,UOk ((rs.set k x).getD j j7):=by
 intro j;rw [yp3];split
 ·exact a
 ·exact h j
def jr_u {q p} (c: ∀k,UOk (q.getD k j7)) (d: ∀k,UOk (p.getD k j7)): ∀n k,UOk ((jr q p n).getD k j7)
 |0,k=>c k
 |n+1,k=>by
  rw [jr];exact kr2 (jr_u c d n) (show UOk (km3 (q.getD n j7) (p.getD n j7)) from wh0 (a:=tk _) (b:=tk _) (c n) (d n)) n k
def kc2 {a b} (c:a.length=512) (d:b.length=512):(qa1 a b).length=512:=by
 unfold qa1;rw [if_pos ⟨c,d⟩,je1,Z9]
def jv8 {e} (h:AllOk e) (k) {p} (c:PlOk p):AllOk (zm7 e k p):=by
 intro j a;unfold zm7 at a⊢;split at a
 ·rename_i b;rw [if_pos b];rw [ze3] at a⊢;have q:=h k b;split
  ·exact ⟨(jk4 ..).trans q.regs,kc2 q.bytes c.bytes,jr_u q.u c.u 11⟩
  ·rename_i d;rw [if_neg d] at a;exact h j a
 ·rename_i b;rw [if_neg b];rw [ze3] at a⊢;split
  ·exact c
  ·rename_i d;rw [if_neg d] at a;exact h j a
def jn4 (a:List (Int×Pl)):Prop:= ∀x∈a,PlOk x.2
def yj7: ∀(ts) {a},AllOk a->jn4 ts->AllOk (zd4 a ts)
 | [],_,h,_=>h
 |x::r,_,h,b=>yj7 r (jv8 h _ (b x (by simp))) fun y c=>b y (by simp [c])
def yc4: ∀(ts a),(zd4 a ts).length=a.length
 | [],_=>rfl
 |x::r,a=>(yc4 r _).trans (jf5 ..)
def jw0 {p} (h:PlOk p) (r) {s} (a:q8 s.Lo/\q8 s.Hi):PlOk (zl3 p r s):=by
 refine ⟨(ze5 ..).1.trans h.regs,by rw [(ze5 ..).2];exact h.bytes,?_⟩;unfold zl3;split
 ·exact kr2 h.u (show UOk ⟨_,s.Lo,s.Hi⟩ from a) _
 ·exact h.u
def wf9 {w} (h:PlOk w) (i) {x y} (a:q8 x.Lo/\q8 x.Hi) (b:q8 y.Lo/\q8 y.Hi):PlOk (vf8 w i x y):=by
 unfold vf8;split
 ·exact jw0 h _ a
 ·split
  ·exact h
  ·exact jw0 (jw0 h _ a) _ b
def jk8 {a x s} (b:UOk x) (h:yl8 a x=.inl s):q8 s.Lo/\q8 s.Hi:=by
 unfold yl8 at h;split at h
 ·cases h
 ·split at h
  ·cases h;exact b
  ·split at h
   ·cases h;refine ⟨?_,by show q8 (65535:Int);decide⟩;show q8 (IntKind.u64.wrap a);rw [v7];omega
   ·cases h
def vu4 {w} (h:PlOk w) (i) {m n} (c:q8 m.Lo/\q8 m.Hi) (d:q8 n.Lo/\q8 n.Hi) (yes t):jn4 (jm9 w i m n yes t):=by
 have b:=zal0 i.Op i.Narrow yes c d;unfold jm9;split
 ·intro x a;rw [Q6] at a;subst a;exact wf9 h i b.1 b.2
 ·intro x a;cases a
def ka5 {w} (h:PlOk w) (i a) {c} (e:zr0 w i a=.inl c):jn4 c:=by
 unfold zr0 at e;dsimp only at e;split at e
 ·cases e
 ·split at e
  ·cases e
  ·rename_i m d;split at e
   ·cases e
   ·rename_i n f;cases e;intro x b;rw [X4] at b;rcases b with b|b
    ·exact vu4 h i (jk8 (h.u _) d) (jk8 (qa9 h.u i) f) _ _ x b
    ·exact vu4 h i (jk8 (h.u _) d) (jk8 (qa9 h.u i) f) _ _ x b
def wh5 {s} (h:zd0 s=true):UOk (yp8 s):=by
 unfold zd0 at h;simp only [V5,beq_iff_eq] at h;rcases h with rfl|rfl|rfl|rfl<;>exact ⟨by decide,by decide⟩
def wh7 {w} (h:PlOk w) (i a) (d:zd0 i.Size=true) {b} (e:yv2 w i a=.inl b):jn4 b:=by
 unfold yv2 at e;split at e
 ·cases e;intro x c;rw [Q6] at c;subst c;exact ⟨(Q3 ..).trans h.regs,h.bytes,kr2 h.u (wh5 d) _⟩
 ·cases e
def ge9 {b x z} (h:(yv6 b x z).2=0):(yv6 b x z).1.length=b.length:=by
 unfold yv6 at h⊢;split
 ·exact jd6 ..
 ·rename_i a;rw [if_neg a] at h;exact absurd h a
def uj9 {w} (h:PlOk w) (i a) {b} (e:qk9 w i a=.inl b):jn4 b:=by
 unfold qk9 at e;dsimp only at e;split at e
 ·cases e
 ·split at e
  ·cases e
  ·split at e
   ·cases e
   ·split at e
    ·cases e
    ·split at e
     ·rename_i d;cases e;intro x c;rw [Q6] at c;subst c;exact ⟨h.regs,(ge9 d).trans h.bytes,h.u⟩
     ·cases e
def zak0 {op nw x y} (c:UOk x) (d:UOk y):UOk (doK op nw x y).1:=zal6 (op:=op) (nw:=nw) (a:=tk x) (b:=tk y) c d
def kj5 {w} (h:PlOk w) (i a) {b} (e:zr2 w i a=.inl b):jn4 b:=by
 have g:UOk (if i.Op=13 then ⟨0,0,0⟩ else yl9 w.Regs i):=by
  split
  ·exact ⟨by show q8 (0:Int);decide,by show q8 (0:Int);decide⟩
  ·exact qa9 h.u i
 have c:=zak0 (op:=i.Op) (nw:=i.Narrow) (h.u i.Dst.toNat) g;unfold zr2 at e;dsimp only at e;generalize doK i.Op i.Narrow (w.Regs.getD i.Dst.toNat j7) (if i.Op=13 then ⟨0,0,0⟩ else yl9 w.Regs i)=r at e c;by_cases d:r.2=0
 ·rw [if_pos d] at e;cases e;intro x f;rw [Q6] at f;subst f;exact ⟨(Q3 ..).trans h.regs,h.bytes,kr2 h.u c _⟩
 ·rw [if_neg d] at e;cases e
def yw7 (w:Pl) (i:Ins) (a:Int):Out:=if i.Op=14 then yv2 w i a else if i.Op=15 then qk9 w i a else if i.Op=16 then km5 w i a else if i.Op=28 then ji8 w else if i.Op<=13 then zr2 w i a else zr0 w i a
def vn2 {w} (h:PlOk w) {i} (b:zg2 i=true) (a) {f} (e:yw7 w i a=.inl f):jn4 f:=by
 unfold yw7 at e;split at e
 ·rename_i d;refine wh7 h i a ?_ e;unfold zg2 at b;rw [if_neg (by omega),if_neg (by omega),if_pos d] at b;simp only [X3] at b;exact b.2.2.2.1
 ·split at e
  ·exact uj9 h i a e
  ·split at e
   ·cases e;intro x c;rw [Q6] at c;subst c;exact h
   ·split at e
    ·unfold ji8 at e;split at e
     ·cases e;intro x c;cases c
     ·cases e
    ·split at e
     ·exact kj5 h i a e
     ·exact ka5 h i a e
end Go.Y
namespace Go.Y
open Go.RowKit Go.V Go.X Go.Proofs
def zq9 (l:List Ins):Nat->Nat->List Pl->List Pl×Fault
 |0,_,a=>(a,⟨0,0⟩)
 |m+1,k,a=>if (a.getD k j8).Live=true then (match yw7 (a.getD k j8) (l.getD k v8) (k:Int) with
   | .inl b=>zq9 l m (k+1) (zd4 a b)
   | .inr e=>([],⟨e,(k:Int)⟩))
  else zq9 l m (k+1) a
def vd0 (a:List Pl) (k:Nat):a.set k (a.getD k j8)=a:=by
 apply R4;intro j;rw [List.getElem?_set];by_cases h:k=j
 ·subst h;by_cases b:k<a.length
  ·rw [if_pos rfl,if_pos b,Y2,Y0 b];rfl
  ·rw [if_pos rfl,if_neg b,Y5 (by omega)]
 ·rw [if_neg h]
def vr5 {i} (h:zk6 i=true):i.UseImm=true\/0<=i.Src/\i.Src<=10:=by
 unfold zk6 at h;split at h
 ·rename_i a;exact .inl a
 ·simp only [X3,yd5,decide_eq_true_eq] at h;exact .inr h.1
def jl9 {x m} (h:yd5 x m=true):0<=x/\x<=m:=by
 simp only [yd5,X3,decide_eq_true_eq] at h;exact h
structure InsOk (l:List Ins) (k:Nat) (i:Ins):Prop where
 op:1<=i.Op/\i.Op<=28
 dst:0<=i.Dst/\i.Dst<=10
 sec:i.Op≠14->i.UseImm=true\/0<=i.Src/\i.Src<=10
 src:i.Op=14->(0<=i.Src/\i.Src<=10)/\zd0 i.Size=true
 next:i.Op≠28->i.Op≠16->k+1<l.length
 far:i.Op=16\/(17<=i.Op/\i.Op<=27)->0<=i.Off/\(k:Int)+1+i.Off<l.length
def km2 {l} (h:Okay l) {k} (e:k<l.length):InsOk l k (l.getD k v8)/\zg2 (l.getD k v8)=true:=by
 have a:=yg6 (h.z1 k e);have j:=zy7 _ a;have b:=h.z2 k e;have d:=h.z3 k e;unfold c2 km4 at b;unfold c3 at d;generalize l.getD k v8=i at a j b d;refine ⟨⟨j.2.2,?_,?_,?_,?_,?_⟩,a⟩
 ·unfold zg2 at a;split at a
  ·simp only [X3] at a;have:=jl9 a.1;omega
  ·split at a
   ·simp only [X3] at a;have:=jl9 a.1;omega
   ·split at a
    ·simp only [X3] at a;have:=jl9 a.1;omega
    ·split at a
     ·simp only [X3] at a;exact jl9 a.1
     ·split at a
      ·simp only [X3,beq_iff_eq] at a;omega
      ·split at a
       ·simp only [X3] at a;exact jl9 a.1
       ·simp only [X3,beq_iff_eq] at a;omega
 ·intro c;unfold zg2 at a;split at a
  ·simp only [X3] at a;exact vr5 a.2.1
  ·split at a
   ·simp only [X3,beq_iff_eq] at a;omega
   ·split at a
    ·simp only [X3] at a;exact vr5 a.2.2.2.1
    ·split at a
     ·simp only [X3,beq_iff_eq] at a;omega
     ·split at a
      ·simp only [X3] at a;exact vr5 a.2.2.1
      ·simp only [X3,beq_iff_eq] at a;omega
 ·intro c;unfold zg2 at a;rw [if_neg (by omega),if_neg (by omega),if_pos c] at a;simp only [X3] at a;exact ⟨jl9 a.2.1,a.2.2.2.1⟩
 ·intro f g;by_cases m:k+1=l.length
  ·rw [if_pos ⟨m,f,g⟩] at d;exact absurd d (by decide)
  ·omega
 ·intro n;rw [if_pos (by simp only [X3,decide_eq_true_eq];omega)] at b;split at b
  ·exact absurd b (by decide)
  ·split at b
   ·exact absurd b (by decide)
   ·omega
def vg2 (x:List Pl×Fault):Option (Unit×(List Pl×Fault×Unit)):=some ((),(x.1,x.2,()))
def kw7 (n m l) (A:Okay l) (k) (H:k<l.length) (ps) (D:ps.length=l.length) (y:AllOk ps) (lv bs le rs)
  (E: ∀(x:List Pl) (w:Pl),x.length=l.length->AllOk x->zw8 n l 0 0 l (k:Int) w.Live w.Bytes w.Least [] x w.Regs=vg2 (zq9 l m (k+1) x)):
  qq6 (n+1) l 0 0 l (k:Int) lv bs le [] ps rs=vg2 (zq9 l (m+1) k ps):=by
 have F:=A.len;obtain ⟨h,j⟩:=km2 A H;rw [qf8,W6 (by omega),j4,if_pos (by omega),if_pos (by omega),Z1]
 conv=>rhs;rw [zq9]
 by_cases p:(ps.getD k j8).Live=true
 case neg=>
  rw [if_neg p,zn2 (by simpa using p)];exact E ps ⟨lv,rs,bs,le⟩ D y
 rw [if_pos p,zk8 p];have r:=y k p;have z:=vd0 ps k;rw [if_pos (by omega),if_pos (by omega)];generalize I:ps.getD k j8=w at r z p⊢;rw [yg7 _ _ _ _ r.regs (by rw [r.bytes];exact W8 _),z5,if_pos (by omega)];dsimp only;rw [show ps.set k (⟨w.Live,w.Regs,w.Bytes,w.Least⟩:Pl)=ps from z];generalize B:l.getD k v8=i at h j⊢;have s: ∀(o:Out) (c:Pl),(∀v,o=.inl v->jn4 v)->(match (((W l (zo7 ps o) (k:Int) c:PW),ja9 o):PW×(Unit⊕(Int×Unit))).2 with
   | .inl _=>(zw8 n l 0 0 (W l (zo7 ps o) (k:Int) c).1.1 (W l (zo7 ps o) (k:Int) c).1.2.2.1 (W l (zo7 ps o) (k:Int) c).1.2.2.2.1 (W l (zo7 ps o) (k:Int) c).1.2.2.2.2.2.1 (W l (zo7 ps o) (k:Int) c).1.2.2.2.2.2.2.1 [] (W l (zo7 ps o) (k:Int) c).2.1 (W l (zo7 ps o) (k:Int) c).2.2.1)
   | .inr J=>(z6 (qan (W l (zo7 ps o) (k:Int) c).1.1 (W l (zo7 ps o) (k:Int) c).2.1 (W l (zo7 ps o) (k:Int) c).1.2.2.1 (W l (zo7 ps o) (k:Int) c).1.2.2.2.1 (W l (zo7 ps o) (k:Int) c).2.2.1 (W l (zo7 ps o) (k:Int) c).1.2.2.2.2.2.1 (W l (zo7 ps o) (k:Int) c).1.2.2.2.2.2.2.1 [] 0 0 J.1) fun G=>
   some ((),(([]:List Pl),(⟨G.2.2.2.2.2.2.1.1,G.2.2.2.2.2.2.1.2.1⟩:Fault),()))))=vg2 (match o with| .inl v=>zq9 l m (k+1) (zd4 ps v)| .inr e=>([],⟨e,(k:Int)⟩)):=by
  intro o c K;cases o with
  |inl v=>exact E (zd4 ps v) c ((yc4 ..).trans D) (yj7 v y (K v rfl))
  |inr e=>
   show z6 (qan _ _ _ _ _ _ _ _ _ _ _) _=_;rw [gk9,z5];rfl
 have C:w.Bytes.length<=512:=by rw [r.bytes];exact W8 _
 have a: ∀v,yw7 w i (k:Int)=.inl v->jn4 v:=fun v=>vn2 r j (k:Int);unfold yw7 at a⊢;by_cases b:i.Op=14
 ·rw [if_pos b] at a⊢;rw [W6 b,j4,gp4,if_pos b,z5,if_pos (by omega)];obtain ⟨c,e⟩:=gj3 l ps (k:Int) w i (by have:=h.next (by omega) (by omega);omega) (by omega) r.regs C y.q h.dst (h.src b).1 (h.src b).2;rw [e,z5];exact s _ c a
 rw [if_neg b] at a⊢;rw [W7 b,z8];by_cases f:i.Op=15
 ·rw [if_pos f] at a⊢;rw [zk8 (by simp [f]),gp5,if_neg b,if_pos f,z5,if_pos (by omega)];obtain ⟨c,e⟩:=ws8 l ps (k:Int) w i (by have:=h.next (by omega) (by omega);omega) (by omega) r.regs C y.q h.dst (h.sec b);rw [e,z5];exact s _ c a
 rw [if_neg f] at a⊢;rw [zn2 (by simp [f])];by_cases d:i.Op=16
 ·rw [if_pos d] at a⊢;rw [zk8 (by simp [d]),gp6,if_neg b,if_neg f,if_pos d,z5,if_pos (by omega)];have L:=h.far (.inl d);rw [gj0 l ps (k:Int) w i (by rw [Z1];exact B) (by omega) (by omega) F (by omega) r.regs C y.q,z5];exact s (km5 w i (k:Int)) w a
 rw [if_neg d] at a⊢;rw [zn2 (by simp [d])];by_cases g:i.Op=28
 ·rw [if_pos g] at a⊢;rw [zk8 (by simp [g]),gp7,if_neg b,if_neg f,if_neg d,if_pos g,z5,if_pos (by omega),gh7 l ps (k:Int) w i r.regs,z5];exact s _ w a
 rw [if_neg g] at a⊢;rw [zn2 (by simp [g])];have M:=h.next g d;by_cases t:i.Op<=13
 ·rw [if_pos t] at a⊢;rw [zk8 (by simp [b,f,d,g,t]),gp8,if_neg b,if_neg f,if_neg d,if_neg g,W6 t,j4,z5,if_pos (by omega)];obtain ⟨c,e⟩:=vb9 l ps (k:Int) w i (by omega) (by omega) r.regs C y.q r.u h.dst (h.sec b);rw [e,z5];exact s _ c a
 rw [if_neg t] at a⊢;rw [zn2 (by simp [t]),gp9,if_neg b,if_neg f,if_neg d,if_neg g,W7 t,z8,z5,if_pos (by omega)];have L:=h.far (.inr (by have:=h.op;omega));obtain ⟨c,e⟩:=qv8 l ps (k:Int) w i (by rw [Z1];exact B) (by omega) F D r.regs C y.q (by omega) (by omega) h.dst (h.sec b) r.u;rw [e,z5];exact s _ c a
def wh2 (n m l) (A:Okay l) (k) (G:k<l.length) (ps) (D:ps.length=l.length) (z:AllOk ps) (lv le rs bs) (v:(ps.getD k j8).Live=true)
  (H: ∀(x:List Pl) (w:Pl),x.length=l.length->AllOk x->zw8 n l 0 0 l (k:Int) w.Live w.Bytes w.Least [] x w.Regs=vg2 (zq9 l m (k+1) x)):
  kp6 (n+1) l 0 0 l (k:Int) lv le ps [] rs bs=vg2 (zq9 l (m+1) k ps):=by
 have E:=A.len;obtain ⟨h,j⟩:=km2 A G;rw [gb6,W6 (by omega),j4,if_pos (by omega),if_pos (by omega),Z1]
 conv=>rhs;rw [zq9]
 rw [if_pos v,zk8 v];have p:=z k v;have y:=vd0 ps k;rw [if_pos (by omega),if_pos (by omega)];generalize I:ps.getD k j8=w at p y v⊢;rw [yg7 _ _ _ _ p.regs (by rw [p.bytes];exact W8 _),z5,if_pos (by omega)];dsimp only;rw [show ps.set k (⟨w.Live,w.Regs,w.Bytes,w.Least⟩:Pl)=ps from y];generalize B:l.getD k v8=i at h j⊢;have r: ∀(o:Out) (c:Pl),(∀t,o=.inl t->jn4 t)->(match (((W l (zo7 ps o) (k:Int) c:PW),ja9 o):PW×(Unit⊕(Int×Unit))).2 with
   | .inl _=>(zw8 n l 0 0 (W l (zo7 ps o) (k:Int) c).1.1 (W l (zo7 ps o) (k:Int) c).1.2.2.1 (W l (zo7 ps o) (k:Int) c).1.2.2.2.1 (W l (zo7 ps o) (k:Int) c).1.2.2.2.2.2.1 (W l (zo7 ps o) (k:Int) c).1.2.2.2.2.2.2.1 [] (W l (zo7 ps o) (k:Int) c).2.1 (W l (zo7 ps o) (k:Int) c).2.2.1)
   | .inr J=>(z6 (qan (W l (zo7 ps o) (k:Int) c).1.1 (W l (zo7 ps o) (k:Int) c).2.1 (W l (zo7 ps o) (k:Int) c).1.2.2.1 (W l (zo7 ps o) (k:Int) c).1.2.2.2.1 (W l (zo7 ps o) (k:Int) c).2.2.1 (W l (zo7 ps o) (k:Int) c).1.2.2.2.2.2.1 (W l (zo7 ps o) (k:Int) c).1.2.2.2.2.2.2.1 [] 0 0 J.1) fun F=>
   some ((),(([]:List Pl),(⟨F.2.2.2.2.2.2.1.1,F.2.2.2.2.2.2.1.2.1⟩:Fault),()))))=vg2 (match o with| .inl t=>zq9 l m (k+1) (zd4 ps t)| .inr e=>([],⟨e,(k:Int)⟩)):=by
  intro o c K;cases o with
  |inl t=>exact H (zd4 ps t) c ((yc4 ..).trans D) (yj7 t z (K t rfl))
  |inr e=>
   show z6 (qan _ _ _ _ _ _ _ _ _ _ _) _=_;rw [gk9,z5];rfl
 have C:w.Bytes.length<=512:=by rw [p.bytes];exact W8 _
 have a: ∀t,yw7 w i (k:Int)=.inl t->jn4 t:=fun t=>vn2 p j (k:Int);unfold yw7 at a⊢;by_cases b:i.Op=14
 ·rw [if_pos b] at a⊢;rw [W6 b,j4,gp4,if_pos b,z5,if_pos (by omega)];obtain ⟨c,e⟩:=gj3 l ps (k:Int) w i (by have:=h.next (by omega) (by omega);omega) (by omega) p.regs C z.q h.dst (h.src b).1 (h.src b).2;rw [e,z5];exact r _ c a
 rw [if_neg b] at a⊢;rw [W7 b,z8];by_cases f:i.Op=15
 ·rw [if_pos f] at a⊢;rw [zk8 (by simp [f]),gp5,if_neg b,if_pos f,z5,if_pos (by omega)];obtain ⟨c,e⟩:=ws8 l ps (k:Int) w i (by have:=h.next (by omega) (by omega);omega) (by omega) p.regs C z.q h.dst (h.sec b);rw [e,z5];exact r _ c a
 rw [if_neg f] at a⊢;rw [zn2 (by simp [f])];by_cases d:i.Op=16
 ·rw [if_pos d] at a⊢;rw [zk8 (by simp [d]),gp6,if_neg b,if_neg f,if_pos d,z5,if_pos (by omega)];have L:=h.far (.inl d);rw [gj0 l ps (k:Int) w i (by rw [Z1];exact B) (by omega) (by omega) E (by omega) p.regs C z.q,z5];exact r (km5 w i (k:Int)) w a
 rw [if_neg d] at a⊢;rw [zn2 (by simp [d])];by_cases g:i.Op=28
 ·rw [if_pos g] at a⊢;rw [zk8 (by simp [g]),gp7,if_neg b,if_neg f,if_neg d,if_pos g,z5,if_pos (by omega),gh7 l ps (k:Int) w i p.regs,z5];exact r _ w a
 rw [if_neg g] at a⊢;rw [zn2 (by simp [g])];have M:=h.next g d;by_cases s:i.Op<=13
 ·rw [if_pos s] at a⊢;rw [zk8 (by simp [b,f,d,g,s]),gp8,if_neg b,if_neg f,if_neg d,if_neg g,W6 s,j4,z5,if_pos (by omega)];obtain ⟨c,e⟩:=vb9 l ps (k:Int) w i (by omega) (by omega) p.regs C z.q p.u h.dst (h.sec b);rw [e,z5];exact r _ c a
 rw [if_neg s] at a⊢;rw [zn2 (by simp [s]),gp9,if_neg b,if_neg f,if_neg d,if_neg g,W7 s,z8,z5,if_pos (by omega)];have L:=h.far (.inr (by have:=h.op;omega));obtain ⟨c,e⟩:=qv8 l ps (k:Int) w i (by rw [Z1];exact B) (by omega) E D p.regs C z.q (by omega) (by omega) h.dst (h.sec b) p.u;rw [e,z5];exact r _ c a
def gj6 (l) (a:Okay l): ∀(m k n b c d e rs),k+m=l.length->2*m+1<=n->b.length=l.length->AllOk b->qq6 n l 0 0 l (k:Int) c d e [] b rs=vg2 (zq9 l m k b)
 |0,k,n,b,c,d,e,rs,i,o,g,h=>by
  obtain ⟨n,rfl⟩: ∃j,n=j+1:=⟨n-1,by omega⟩;rw [qf8,W7 (by omega),z8,ut5,z5];rfl
 |m+1,k,n,b,c,d,e,rs,i,o,g,h=>by
  obtain ⟨n,rfl⟩: ∃j,n=j+1+1:=⟨n-2,by omega⟩;have r:=a.len;refine kw7 (n+1) m l a k (by omega) b g h c d e rs fun f w p q=>?_;rw [va3,nx (k:=k) (len:=l.length) (by omega) (by omega)];exact gj6 l a m (k+1) n f w.Live w.Bytes w.Least w.Regs (by omega) (by omega) p q
def startP:Pl:=⟨true,[⟨0,0,0⟩,⟨2,0,0⟩,⟨4,0,0⟩,⟨0,0,0⟩,⟨0,0,0⟩,⟨0,0,0⟩,⟨0,0,0⟩,⟨0,0,0⟩,⟨0,0,0⟩,⟨0,0,0⟩,⟨3,0,0⟩],List.replicate 512 false,0⟩
def wn5:qdv v3=some ((),((startP.Live,startP.Regs,startP.Bytes,startP.Least,()),())):=by
 rw [ux5,zam4];kernel_rfl
def gf2:PlOk startP:=by
 refine ⟨rfl,Z9 ..,fun k=>?_⟩;unfold UOk startP;dsimp only;rcases Nat.lt_or_ge k 11 with h|h
 ·have:k=0\/k=1\/k=2\/k=3\/k=4\/k=5\/k=6\/k=7\/k=8\/k=9\/k=10:=by omega
  rcases this with rfl|rfl|rfl|rfl|rfl|rfl|rfl|rfl|rfl|rfl|rfl<;>decide
 ·rw [Y2,Y5 (by simpa using h)];decide
def zn1 (l:List Ins):List Pl:=(List.replicate l.length j8).set 0 startP
def zf3 (l:List Ins):List Pl×Fault:=if (zq3 l).Err=0 then zq9 l l.length 0 (zn1 l) else ([],zq3 l)
def qw7 (l):AllOk (zn1 l):=by
 intro k a;unfold zn1 at a⊢;rw [ze3] at a⊢;split
 ·exact gf2
 ·rename_i b;rw [if_neg b] at a;rw [Y2,List.getElem?_replicate] at a;split at a<;>exact absurd a (by decide)
def qy9 (l:List Ins):qd v3 l=vg2 (zf3 l):=by
 rw [zan6,vs9,z5];unfold zf3;by_cases he:(zq3 l).Err=0
 ·have hok:=qk4 he;have hl:=hok.len;have hp:=hok.pos;rw [if_pos he,show ((zq3 l).Err != 0)=false by rw [he];rfl,z8,if_pos (by omega),wn5,z5,Z1,if_pos (by rw [Z9];omega),if_pos (by rw [Z9];omega)];show kp6 v3 l 0 0 l ((0:Nat):Int) false 0 (zn1 l) [] [] []=_;obtain ⟨n,e⟩: ∃n:Nat,(v3:Nat)=n+1+1:=⟨999999998,rfl⟩;have hn:999999998=n:=by unfold v3 at e;omega
  obtain ⟨m,hm⟩: ∃m,l.length=m+1:=⟨l.length-1,by omega⟩;have hf:(zn1 l).length=l.length:=by unfold zn1;rw [Q3,Z9]
  rw [e,hm];refine wh2 (n+1) m l hok 0 hp (zn1 l) hf (qw7 l) false 0 [] [] ?_ fun ps2 w h1 h2=>?_
  ·unfold zn1;rw [ze3,if_pos ⟨rfl,by rw [Z9];exact hp⟩];rfl
  ·rw [va3,nx (k:=0) (len:=l.length) (by omega) (by omega)];exact gj6 l hok m 1 n ps2 w.Live w.Bytes w.Least w.Regs (by omega) (by omega) h1 h2
 ·rw [if_neg he,show ((zq3 l).Err != 0)=true from bne_iff_ne.2 he,j4];rfl
def qw6 (l):qdf v3 l=some (zf3 l).2:=by
 rw [uv4,qy9];rfl
end Go.Y
namespace Go.Y
open Go.RowKit Go.V Go.X Go.Proofs
def exL:List Ins:= [⟨12,false,0,0,true,0,0,0⟩,⟨20,false,2,0,true,1,14,0⟩,⟨28,false,0,0,false,0,0,0⟩,⟨14,false,0,1,false,12,0,2⟩,⟨28,false,0,0,false,0,0,0⟩]
def gw7:List Ins:= [⟨12,false,0,0,true,0,0,0⟩,⟨14,false,0,1,false,12,0,2⟩,⟨28,false,0,0,false,0,0,0⟩]
def ex_v:qdr v3=some exL:=by rw [uw8];rfl
def ex1:(zf3 exL).2.Err=0/\(zf3 exL).1.length=5/\((zf3 exL).1.getD 3 j8).Least=14/\((zf3 exL).1.getD 2 j8).Least=0/\((zf3 exL).1.getD 4 j8).Regs.length=11/\(((zf3 exL).1.getD 4 j8).Regs.getD 0 j7).Kind=1/\(((zf3 exL).1.getD 4 j8).Regs.getD 0 j7).In_Lo=0/\(((zf3 exL).1.getD 4 j8).Regs.getD 0 j7).In_Hi=65535:=by decide+kernel
def ex2:(zf3 gw7).2.Err=112/\(zf3 gw7).2.At=1:=by decide+kernel
def wf1:qbw v3=some true:=by
 obtain ⟨n,e⟩: ∃n:Nat,(v3:Nat)=n+1:=⟨999999999,rfl⟩;obtain ⟨a1,a2,a3,a4,a5,a6,a7,a8⟩:=ex1;rw [ur4,ex_v,z5,qy9,vg2,z5,z5,if_pos (by decide),if_pos (by decide),z5,if_pos (by decide),if_pos (by decide)];dsimp only;generalize zf3 exL=p at a1 a2 a3 a4 a5 a6 a7 a8⊢;rw [a1,show ((0:Int) != 0)=false from rfl,z8,a2,show (((5:Nat):Int) != 5)=false from rfl,z8,if_pos (by decide),a3,show ((14:Int) != 14)=false from rfl,z8,if_pos (by decide),a4,show ((0:Int) != 0)=false from rfl,z8,if_pos (by decide),a5,show (((11:Nat):Int) != 11)=false from rfl,e,ki6,z8];rw [show (([]:List Ins)++List.take 1 (List.drop 0 exL))++List.take (((exL.length:Nat):Int).toNat-3) (List.drop 3 exL)=gw7 from rfl,qw6,z5,ex2.1,ex2.2,show (((112:Int)==112)&&((1:Int)==1))=true from rfl,j4,a2,if_pos (by decide),a5,if_pos (by decide),a6,a7,a8];rfl
def uj1 {w i a e} (h:yw7 w i a=.inr e):e≠0:=by
 unfold yw7 at h;split at h
 ·unfold yv2 at h;split at h
  ·cases h
  ·rename_i c;cases h;exact c
 ·split at h
  ·unfold qk9 at h;dsimp only at h;split at h
   ·cases h;decide
   ·split at h
    ·cases h;decide
    ·split at h
     ·cases h;decide
     ·split at h
      ·rename_i b;cases h;exact jk7 b
      ·split at h
       ·cases h
       ·rename_i c;cases h;exact c
  ·split at h
   ·cases h
   ·split at h
    ·unfold ji8 at h;split at h
     ·cases h
     ·rename_i b;cases h;exact jk7 b
    ·split at h
     ·unfold zr2 at h;dsimp only at h;generalize doK i.Op i.Narrow (w.Regs.getD i.Dst.toNat j7) (if i.Op=13 then ⟨0,0,0⟩ else yl9 w.Regs i)=r at h;by_cases d:r.2=0
      ·rw [if_pos d] at h;cases h
      ·rw [if_neg d] at h;cases h;exact d
     ·unfold zr0 at h;dsimp only at h;split at h
      ·cases h;decide
      ·split at h
       ·rename_i b;cases h;exact jk7 b
       ·split at h
        ·rename_i b;cases h;exact jk7 b
        ·cases h
end Go.Y
