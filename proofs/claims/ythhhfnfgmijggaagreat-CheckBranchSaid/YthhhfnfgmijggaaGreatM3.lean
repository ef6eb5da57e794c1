import Derived.Test.YthhhfnfgmijggaaGreatId
import Derived.Test.YthhhfnfgmijggaaGreatM2
import Derived.Test.YthhhfnfgmijggaaGreatM1
import Derived.Test.YthhhfnfgmijggaaGreatIe
namespace Go.Y
open Go.RowKit Go.V Go.X Go.Proofs
def pP (o:Option (q9×q9)):Unit×((Span×Span×Unit)⊕(Unit×Unit)):=((),match o with|some p=>.inl (p.1,p.2,())|none=>.inr ((),()))
theorem wd2 (u v:q9):qbx v9 u v=some (if max u.Lo v.Lo<=min u.Hi v.Hi then ((⟨max u.Lo v.Lo,min u.Hi v.Hi⟩:Span),true) else ((⟨0,0⟩:Span),false)):=by
 rw [ws1,zc4,j4,zo7,yg8,zb9];unfold w5;by_cases h:max u.Lo v.Lo<=min u.Hi v.Hi
 ·rw [if_pos h,show decide ((⟨max u.Lo v.Lo,min u.Hi v.Hi⟩:q9).Lo<=(⟨max u.Lo v.Lo,min u.Hi v.Hi⟩:q9).Hi)=true from W3 h];rfl
 ·rw [if_neg h,show decide ((⟨max u.Lo v.Lo,min u.Hi v.Hi⟩:q9).Lo<=(⟨max u.Lo v.Lo,min u.Hi v.Hi⟩:q9).Hi)=false from W4 h];rfl
theorem jj4 {nw:Bool} (s t:q9) (hs:SpOk nw s):X.qq v9 s t=some (woE s t):=by
 obtain ⟨n,e⟩: ∃n:Nat,(v9:Nat)=n+1+1:=⟨999999998,rfl⟩;have h1:=hs.lo;have h2:=hs.le;have h3:=hs.hi;have h4:=jg8 nw;have j1: ∀l h:Int,X.kf5 (n+1) l h t.Lo t.Hi 0 0=some (if h=t.Lo then ⟨l,IntKind.u64.wrap (h-1)⟩ else ⟨l,h⟩):=fun l h=>by
  rw [X.kl3,zb9];simp only [beq_iff_eq]
 have jt:X.vc9 (n+1+1) true s.Lo s.Hi t.Lo t.Hi 0 0=some s:=by rw [X.qp5,j8]
 have jf: ¬s.Lo=s.Hi->t.Lo=t.Hi->X.vc9 (n+1+1) false s.Lo s.Hi t.Lo t.Hi 0 0=some (woE s t):=fun hh ht=>by
  rw [X.qp5,j6,j1,j1];unfold woE;rw [if_neg (c:=s.Lo=s.Hi\/t.Lo≠t.Hi) (fun h=>h.elim hh (fun h=>h ht))];by_cases hl:s.Lo=t.Lo
  ·rw [show (s.Lo==t.Lo)=true by simp [hl],j8,zk9 (x:=s.Lo+1) (by omega),if_neg (show ¬s.Hi=t.Lo by omega),if_pos hl,if_neg (show ¬s.Hi=t.Lo by omega)]
  ·rw [show (s.Lo==t.Lo)=false by simp [hl],j6,if_neg hl];by_cases hr:s.Hi=t.Lo
   ·rw [if_pos hr,if_pos hr,zk9 (x:=s.Hi-1) (by omega)]
   ·rw [if_neg hr,if_neg hr]
 rw [X.ux4,ju0,j4,ju0,j4,e,jt,yg7,yg7];by_cases hh:s.Lo=s.Hi
 ·rw [W3 hh,j8];unfold woE;rw [if_pos (.inl hh)]
 ·rw [W4 hh,j6];by_cases ht:t.Lo=t.Hi
  ·rw [W3 ht,Bool.not_true,jf hh ht]
  ·rw [W4 ht,Bool.not_false,jt];unfold woE;rw [if_pos (.inr ht)]
theorem qp9 (op:Int) {nw:Bool} (u v:q9) (hop:op=19\/op=20) (hu:SpOk nw u) (hv:SpOk nw v):X.qaq v9 (wW nw u v) op=some (pP (if op=19 then gtE u v else geE u v)):=by
 have h1:=hu.lo;have h2:=hu.le;have h3:=hu.hi;have h4:=jg8 nw;have g1:=hv.lo;have g2:=hv.le;have g3:=hv.hi;rcases hop with rfl|rfl
 ·rw [X.gb7,show ((19:Int)==17)=false from rfl,show ((19:Int)==18)=false from rfl,show ((19:Int)==19)=true from rfl,j6,j6,j8,zh2,j4,if_pos (show (19:Int)=19 from rfl),zo7,yg8];unfold gtE;by_cases h:u.Hi>v.Lo
  ·rw [if_pos h,show decide ((wW nw u v).a_Hi>(wW nw u v).b_Lo)=true from W3 h,show IntKind.u64.wrap ((wW nw u v).b_Lo+1)=v.Lo+1 from zk9 (x:=v.Lo+1) (by omega),show IntKind.u64.wrap ((wW nw u v).a_Hi-1)=u.Hi-1 from zk9 (x:=u.Hi-1) (by omega)];rfl
  ·rw [if_neg h,show decide ((wW nw u v).a_Hi>(wW nw u v).b_Lo)=false from W4 h];rfl
 ·rw [X.gb7,show ((20:Int)==17)=false from rfl,show ((20:Int)==18)=false from rfl,show ((20:Int)==19)=false from rfl,show ((20:Int)==20)=true from rfl,j6,j6,j6,j8,zh2,j4,if_neg (show ¬((20:Int)=19) by decide),zo7,yg8];unfold geE;by_cases h:u.Hi>=v.Lo
  ·rw [if_pos h,show decide ((wW nw u v).a_Hi>=(wW nw u v).b_Lo)=true from W3 h];rfl
  ·rw [if_neg h,show decide ((wW nw u v).a_Hi>=(wW nw u v).b_Lo)=false from W4 h];rfl
theorem wj0 (o:Option (q9×q9)):(match (pP o).2 with| .inl z=>some ((),.inl (z.2.1,z.1,()))| .inr _=>some ((),.inr ((),())))=some (pP (jd6 o)):=by cases o<;>rfl
theorem ki3 (o:Option (q9×q9)):(match (pP o).2 with| .inl z=>some ((),.inl (z.1,z.2.1,()))| .inr _=>some ((),.inr ((),())))=some (pP o):=by cases o<;>rfl
theorem ga9 (nw:Bool) (u v:q9):X.qbu v9 (wW nw u v)=some (wW nw v u):=by rw [X.ua4];rfl
end Go.Y
namespace Go.Y
open Go.RowKit Go.V Go.X Go.Proofs
theorem ky5 (nw:Bool) (u v:q9):qx (tW (wW nw u v))=decide (u.Lo=u.Hi/\v.Lo=v.Hi):=by
 rw [zy5,yv4];show (decide (u.Lo=u.Hi)&&decide (v.Lo=v.Hi))=_;by_cases a1:u.Lo=u.Hi
 ·by_cases a2:v.Lo=v.Hi
  ·rw [W3 a1,W3 a2,W3 (p:=u.Lo=u.Hi/\v.Lo=v.Hi) ⟨a1,a2⟩];rfl
  ·rw [W3 a1,W4 a2,W4 (p:=u.Lo=u.Hi/\v.Lo=v.Hi) (fun h=>a2 h.2)];rfl
 ·rw [W4 a1,W4 (p:=u.Lo=u.Hi/\v.Lo=v.Hi) (fun h=>a1 h.1)];rfl
theorem qw1 (op:Int) {nw:Bool} (u v:q9) (hop:17<=op/\op<=22) (hu:SpOk nw u) (hv:SpOk nw v):X.qah v9 (wW nw u v) op=some (pP (yp9 op u v)):=by
 obtain ⟨n,e⟩: ∃n:Nat,(v9:Nat)=n+1:=⟨999999999,rfl⟩;have h1:=hu.lo;have h2:=hu.le;have h3:=hu.hi;have h4:=jg8 nw;have g1:=hv.lo;have g2:=hv.le;have g3:=hv.hi;rw [X.wo8];unfold yp9;by_cases k1:op=17
 ·subst k1;have em:qbx v9 (⟨(wW nw u v).a_Lo,(wW nw u v).a_Hi⟩:Span) (⟨(wW nw u v).b_Lo,(wW nw u v).b_Hi⟩:Span)=_:=wd2 u v;rw [show ((17:Int)==17)=true from rfl,j8,em,j4,zh2,j4,if_pos (show (17:Int)=17 from rfl)];by_cases h:max u.Lo v.Lo<=min u.Hi v.Hi
  ·rw [if_pos h,if_pos h];rfl
  ·rw [if_neg h,if_neg h];rfl
 rw [show (op==17)=false by simpa using k1,j6,if_neg k1];by_cases k2:op=18
 ·subst k2;have wu:X.qq v9 (⟨u.Lo,u.Hi⟩:Span) (⟨v.Lo,v.Hi⟩:Span)=some (woE u v):=jj4 u v hu;have wv:X.qq v9 (⟨v.Lo,v.Hi⟩:Span) (⟨u.Lo,u.Hi⟩:Span)=some (woE v u):=jj4 v u hv;have j0:X.jr0 (n+1) (wW nw u v).a_Lo (wW nw u v).a_Hi (wW nw u v).b_Lo (wW nw u v).b_Hi (wW nw u v).narrow (wW nw u v).most (wW nw u v).size 0 0 0 0=some (pP (some (woE u v,woE v u))):=by
   show X.jr0 (n+1) u.Lo u.Hi v.Lo v.Hi nw (g9 nw) (if nw then 32 else 64) 0 0 0 0=_;rw [X.kd4,wu,j4,wv,j4];rfl
  rw [show ((18:Int)==18)=true from rfl,j8,js3,j4,zh2,j4,zh2,j4,e,j0,ky5,if_pos (show (18:Int)=18 from rfl)];by_cases a:u.Lo=u.Hi/\v.Lo=v.Hi
  ·rw [W3 a,Bool.not_true,j6];by_cases a3:u.Lo=v.Lo
   ·rw [if_pos (c:=u.Lo=u.Hi/\v.Lo=v.Hi/\u.Lo=v.Lo) ⟨a.1,a.2,a3⟩,
     show (!(((wW nw u v).a_Lo==(wW nw u v).b_Lo)&&((wW nw u v).a_Hi==(wW nw u v).b_Hi)))=false by
      show (!((u.Lo==v.Lo)&&(u.Hi==v.Hi)))=false;rw [show (u.Lo==v.Lo)=true by simp [a3],show (u.Hi==v.Hi)=true by simp;omega];rfl]
    rfl
   ·rw [if_neg (c:=u.Lo=u.Hi/\v.Lo=v.Hi/\u.Lo=v.Lo) (fun h=>a3 h.2.2),
     show (!(((wW nw u v).a_Lo==(wW nw u v).b_Lo)&&((wW nw u v).a_Hi==(wW nw u v).b_Hi)))=true by
      show (!((u.Lo==v.Lo)&&(u.Hi==v.Hi)))=true;rw [show (u.Lo==v.Lo)=false by simp [a3]];rfl]
    rfl
  ·rw [W4 a,Bool.not_false,j8,if_neg (c:=u.Lo=u.Hi/\v.Lo=v.Hi/\u.Lo=v.Lo) (fun h=>a ⟨h.1,h.2.1⟩)];rfl
 rw [show (op==18)=false by simpa using k2,j6,if_neg k2];by_cases k3:op=19
 ·subst k3;rw [show ((19:Int)==19)=true from rfl,j8,zh2,j4,if_pos (show (19:Int)=19 from rfl),zo7,yg8];unfold gtE;by_cases h:u.Hi>v.Lo
  ·rw [if_pos h,show decide ((wW nw u v).a_Hi>(wW nw u v).b_Lo)=true from W3 h,show IntKind.u64.wrap ((wW nw u v).b_Lo+1)=v.Lo+1 from zk9 (x:=v.Lo+1) (by omega),show IntKind.u64.wrap ((wW nw u v).a_Hi-1)=u.Hi-1 from zk9 (x:=u.Hi-1) (by omega)];rfl
  ·rw [if_neg h,show decide ((wW nw u v).a_Hi>(wW nw u v).b_Lo)=false from W4 h];rfl
 rw [show (op==19)=false by simpa using k3,j6,if_neg k3];by_cases k4:op=20
 ·subst k4;rw [show ((20:Int)==20)=true from rfl,j8,zh2,j4,if_pos (show (20:Int)=20 from rfl),zo7,yg8];unfold geE;by_cases h:u.Hi>=v.Lo
  ·rw [if_pos h,show decide ((wW nw u v).a_Hi>=(wW nw u v).b_Lo)=true from W3 h];rfl
  ·rw [if_neg h,show decide ((wW nw u v).a_Hi>=(wW nw u v).b_Lo)=false from W4 h];rfl
 rw [show (op==20)=false by simpa using k4,j6,if_neg k4];by_cases k5:op=21
 ·subst k5;rw [show ((21:Int)==21)=true from rfl,j8,ga9,j4,qp9 19 v u (.inl rfl) hv hu,j4,if_pos (show (21:Int)=21 from rfl)];exact wj0 _
 ·rw [show (op==21)=false by simpa using k5,j6,show (op==22)=true by simp;omega,j8,ga9,j4,qp9 20 v u (.inr rfl) hv hu,j4,if_neg k5];exact wj0 _
theorem wo2 (yes:Bool) {nw:Bool} (u v:q9) (hu:SpOk nw u) (hv:SpOk nw v):X.qaa v9 (wW nw u v) yes=some (pP (yc8 yes u v)):=by
 obtain ⟨n,e⟩: ∃n:Nat,(v9:Nat)=n+1:=⟨999999999,rfl⟩;have h1:=hu.lo;have h2:=hu.le;have g1:=hv.lo;have g2:=hv.le;have e0:(zb1 .u64 (wW nw u v).a_Lo (wW nw u v).b_Lo != (0:Int))= !(decide (u.Lo.toNat&&&v.Lo.toNat=0)):=by
  rw [show zb1 .u64 (wW nw u v).a_Lo (wW nw u v).b_Lo=((u.Lo.toNat&&&v.Lo.toNat:Nat):Int) from yd4 hu.u.1 hv.u.1];by_cases k:u.Lo.toNat&&&v.Lo.toNat=0
  ·rw [k];rfl
  ·rw [W4 k];simp;omega
 have j0:X.qh0 (n+1) (wW nw u v).a_Lo (wW nw u v).a_Hi (wW nw u v).b_Lo (wW nw u v).b_Hi (wW nw u v).narrow (wW nw u v).most (wW nw u v).size 0 0 0 0=some (pP (some (u,v))):=by rw [X.vx5];rfl
 have j1:X.jf7 (n+1) (wW nw u v).a_Lo (wW nw u v).a_Hi (wW nw u v).b_Lo (wW nw u v).b_Hi (wW nw u v).narrow (wW nw u v).most (wW nw u v).size 0 0 0 0=some (pP (some (⟨max u.Lo 1,u.Hi⟩,⟨max v.Lo 1,v.Hi⟩))):=by rw [X.kb5,zo7,zo7];rfl
 rw [X.ud3,js3,j4,zh2,j4,zh2,j4,zh2,j4,zh2,j4,e,j0,j1,e0,ky5];unfold yc8;cases yes with
 |false=>
  rw [Bool.not_false,j8,if_pos (show false=false from rfl)];by_cases a:u.Lo=u.Hi/\v.Lo=v.Hi
  ·rw [W3 a,Bool.not_true,j6];by_cases k:u.Lo.toNat&&&v.Lo.toNat=0
   ·rw [if_neg (c:=u.Lo=u.Hi/\v.Lo=v.Hi/\u.Lo.toNat&&&v.Lo.toNat≠0) (fun h=>h.2.2 k),W3 k];rfl
   ·rw [if_pos (c:=u.Lo=u.Hi/\v.Lo=v.Hi/\u.Lo.toNat&&&v.Lo.toNat≠0) ⟨a.1,a.2,k⟩,W4 k];rfl
  ·rw [W4 a,Bool.not_false,j8,if_neg (c:=u.Lo=u.Hi/\v.Lo=v.Hi/\u.Lo.toNat&&&v.Lo.toNat≠0) (fun h=>a ⟨h.1,h.2.1⟩)];rfl
 |true=>
  rw [Bool.not_true,j6,if_neg (show ¬(true=false) by decide)];by_cases k1:u.Hi>0
  ·rw [show decide ((wW nw u v).a_Hi>0)=true from W3 k1,j8];by_cases k2:v.Hi>0
   ·rw [show decide ((wW nw u v).b_Hi>0)=true from W3 k2,j8];by_cases a:u.Lo=u.Hi/\v.Lo=v.Hi
    ·rw [W3 a,Bool.not_true,j6];by_cases k:u.Lo.toNat&&&v.Lo.toNat=0
     ·rw [if_neg (c:=u.Hi>0/\v.Hi>0/\ ¬(u.Lo=u.Hi/\v.Lo=v.Hi/\u.Lo.toNat&&&v.Lo.toNat=0)) (fun h=>h.2.2 ⟨a.1,a.2,k⟩),W3 k];rfl
     ·rw [if_pos (c:=u.Hi>0/\v.Hi>0/\ ¬(u.Lo=u.Hi/\v.Lo=v.Hi/\u.Lo.toNat&&&v.Lo.toNat=0)) ⟨k1,k2,fun h=>k h.2.2⟩,W4 k];rfl
    ·rw [W4 a,Bool.not_false,j8,if_pos (c:=u.Hi>0/\v.Hi>0/\ ¬(u.Lo=u.Hi/\v.Lo=v.Hi/\u.Lo.toNat&&&v.Lo.toNat=0)) ⟨k1,k2,fun h=>a ⟨h.1,h.2.1⟩⟩];rfl
   ·rw [show decide ((wW nw u v).b_Hi>0)=false from W4 k2,j6,if_neg (c:=u.Hi>0/\v.Hi>0/\ ¬(u.Lo=u.Hi/\v.Lo=v.Hi/\u.Lo.toNat&&&v.Lo.toNat=0)) (fun h=>k2 h.2.1)];rfl
  ·rw [show decide ((wW nw u v).a_Hi>0)=false from W4 k1,j6,if_neg (c:=u.Hi>0/\v.Hi>0/\ ¬(u.Lo=u.Hi/\v.Lo=v.Hi/\u.Lo.toNat&&&v.Lo.toNat=0)) (fun h=>k1 h.1)];rfl
theorem uy7 (nw:Bool) (u v:q9) (x:Int) (h:0<=x/\x<=g9 nw):X.qz v9 (wW nw u v) x=some (zg4 nw x):=by rw [qb0,zy5,jp1 h];rfl
theorem pmix (nw:Bool) (u v s:q9) (hs:SpOk nw s):X.qao v9 (wW nw u v) s=some (zg4 nw s.Lo != zg4 nw s.Hi):=by rw [vo6,zy5,qn6 hs];rfl
theorem ka3 (op:Int) {nw:Bool} (u v:q9) (hop:23<=op/\op<=26) (hu:SpOk nw u) (hv:SpOk nw v):X.qam v9 (wW nw u v) op=some (pP (yx6 nw op u v)):=by
 obtain ⟨n,e⟩: ∃n:Nat,(v9:Nat)=n+1:=⟨999999999,rfl⟩;have h1:=hu.lo;have h2:=hu.le;have h3:=hu.hi;have h4:=jg8 nw;have g1:=hv.lo;have g2:=hv.le;have g3:=hv.hi;have mu:X.qao v9 (wW nw u v) (⟨(wW nw u v).a_Lo,(wW nw u v).a_Hi⟩:Span)=some (zg4 nw u.Lo != zg4 nw u.Hi):=pmix nw u v u hu;have mv:X.qao v9 (wW nw u v) (⟨(wW nw u v).b_Lo,(wW nw u v).b_Hi⟩:Span)=some (zg4 nw v.Lo != zg4 nw v.Hi):=pmix nw u v v hv;have bu:X.qz v9 (wW nw u v) u.Lo=some (zg4 nw u.Lo):=uy7 nw u v u.Lo (by omega);have bv:X.qz v9 (wW nw u v) v.Lo=some (zg4 nw v.Lo):=uy7 nw u v v.Lo (by omega);have jt:X.yt4 (n+1) op true u.Lo u.Hi v.Lo v.Hi nw (g9 nw) (wW nw u v).size 0 0 0 0=some (pP (some (u,v))):=by rw [X.jy7,j8];rfl
 have ew:IntKind.u8.wrap (IntKind.u8.wrap (op-23)+19)=op-4:=by rw [ym3,ym3];omega
 have jf:X.yt4 (n+1) op false u.Lo u.Hi v.Lo v.Hi nw (g9 nw) (wW nw u v).size 0 0 0 0=some (pP (if zg4 nw u.Lo=zg4 nw v.Lo then yp9 (op-4) u v else if (op=23\/op=24)↔zg4 nw v.Lo=true then some (u,v) else none)):=by
  have ep:X.qah v9 (wW nw u v) (op-4)=some (pP (yp9 (op-4) u v)):=qw1 (op-4) u v (by omega) hu hv;rw [X.jy7,j6,ew];show j7 (X.qz v9 (wW nw u v) u.Lo) (fun y1=>j7 (X.qz v9 (wW nw u v) v.Lo) (fun y2=>q7 (y1==y2) (j7 (X.qah v9 (wW nw u v) (op-4)) _) (q7 (op==23) (j7 (X.qz v9 (wW nw u v) v.Lo) _) (j7 (X.qz v9 (wW nw u v) v.Lo) _))))=_;rw [bu,j4,bv,j4,ep,j4,j4,j4];by_cases a3:zg4 nw u.Lo=zg4 nw v.Lo
  ·rw [show (zg4 nw u.Lo==zg4 nw v.Lo)=true by simp [a3],j8,if_pos a3];exact ki3 _
  ·rw [show (zg4 nw u.Lo==zg4 nw v.Lo)=false by simp [a3],j6,if_neg a3,zh2,j4,zh2,j4];by_cases k:op=23
   ·subst k;cases hx:zg4 nw v.Lo<;>rfl
   ·rw [show (op==23)=false by simpa using k,j6];by_cases k2:op=24
    ·subst k2;cases hx:zg4 nw v.Lo<;>rfl
    ·rw [show (op==24)=false by simpa using k2];cases hx:zg4 nw v.Lo with
     |true=>rw [if_neg (c:=(op=23\/op=24)↔true=true) (fun h=>by have:=h.2 rfl;omega)];rfl
     |false=>rw [if_pos (c:=(op=23\/op=24)↔false=true) ⟨fun h=>by omega,fun h=>by cases h⟩];rfl
 rw [X.wt7,mu,j4,mv,j4,e];show q7 _ (X.yt4 (n+1) op true u.Lo u.Hi v.Lo v.Hi nw (g9 nw) (wW nw u v).size 0 0 0 0) (X.yt4 (n+1) op _ u.Lo u.Hi v.Lo v.Hi nw (g9 nw) (wW nw u v).size 0 0 0 0)=_;rw [jt];unfold yx6;by_cases a1:zg4 nw u.Lo=zg4 nw u.Hi
 ·by_cases a2:zg4 nw v.Lo=zg4 nw v.Hi
  ·rw [show (zg4 nw u.Lo != zg4 nw u.Hi)=false by simp [a1],show (zg4 nw v.Lo != zg4 nw v.Hi)=false by simp [a2],j6,jf,if_neg (c:=zg4 nw u.Lo≠zg4 nw u.Hi\/zg4 nw v.Lo≠zg4 nw v.Hi) (fun h=>h.elim (fun h=>h a1) (fun h=>h a2))]
  ·rw [show (zg4 nw u.Lo != zg4 nw u.Hi)=false by simp [a1],show (zg4 nw v.Lo != zg4 nw v.Hi)=true by simp [a2],j6,jt,if_pos (.inr a2)]
 ·rw [show (zg4 nw u.Lo != zg4 nw u.Hi)=true by simp [a1],j8,if_pos (.inl a1)]
end Go.Y
namespace Go.Y
open Go.RowKit Go.V Go.X Go.Proofs
theorem ws0 (op:Int) (yes:Bool) {nw:Bool} (u v:q9) (hop:17<=op/\op<=27) (hu:SpOk nw u) (hv:SpOk nw v):X.qax v9 (wW nw u v) op yes=some (pP (kj1 nw op yes u v)):=by
 obtain ⟨n,e⟩: ∃n:Nat,(v9:Nat)=n+1:=⟨999999999,rfl⟩;have j0: ∀p:Int,17<=p/\p<=26->X.jr1 (n+1) p (wW nw u v).a_Lo (wW nw u v).a_Hi (wW nw u v).b_Lo (wW nw u v).b_Hi (wW nw u v).narrow (wW nw u v).most (wW nw u v).size 0 0 0 0=some (pP (if p>=23 then yx6 nw p u v else yp9 p u v)):=fun p hp=>by
  rw [X.vu7];show q7 (decide (p>=23)) (j7 (X.qam v9 (wW nw u v) p) _) (j7 (X.qah v9 (wW nw u v) p) _)=_;by_cases k:p>=23
  ·rw [W3 k,j8,ka3 p u v (by omega) hu hv,j4,if_pos k];exact ki3 _
  ·rw [W4 k,j6,qw1 p u v (by omega) hu hv,j4,if_neg k];exact ki3 _
 rw [X.ui1,e];unfold kj1;by_cases k:op=27
 ·rw [show (op==27)=true by simp [k],j8,<-e,wo2 yes u v hu hv,j4,if_pos k];exact ki3 _
 ·rw [show (op==27)=false by simp [k],j6,if_neg k];cases yes with
  |true=>rw [Bool.not_true,j6,j0 op (by omega)];rfl
  |false=>
   have ho:=kl9 (op:=op) (by omega);rw [Bool.not_false,j8,X.ud2,j4,if_pos (by omega)];have hg:([0,0,0,0,0,0,0,0,0,0,0,0,0,0,0,0,0,18,17,22,21,20,19,26,25,24,23,27]:List Int).getD op.toNat 0=jg7 op:=by
    have hh:op=17\/op=18\/op=19\/op=20\/op=21\/op=22\/op=23\/op=24\/op=25\/op=26:=by omega
    rcases hh with rfl|rfl|rfl|rfl|rfl|rfl|rfl|rfl|rfl|rfl<;>rfl
   show X.jr1 (n+1) (([0,0,0,0,0,0,0,0,0,0,0,0,0,0,0,0,0,18,17,22,21,20,19,26,25,24,23,27]:List Int).getD op.toNat 0) (wW nw u v).a_Lo (wW nw u v).a_Hi (wW nw u v).b_Lo (wW nw u v).b_Hi (wW nw u v).narrow (wW nw u v).most (wW nw u v).size 0 0 0 0=_;rw [hg,j0 _ (by omega)];rfl
theorem we4 (op:Int) (nw yes:Bool) (a b:q9) (ha:u9 a.Lo/\u9 a.Hi) (hb:u9 b.Lo/\u9 b.Hi):X.qai v9 op nw yes a b=some ((),((ifE op nw yes a b).1,(ifE op nw yes a b).2.1,(ifE op nw yes a b).2.2,())):=by
 obtain ⟨n,e⟩: ∃n:Nat,(v9:Nat)=n+1:=⟨999999999,rfl⟩;rw [X.wn6,zc4,j4,zc4,j4,zp7,j4,e];unfold ifE;by_cases h1:op<17
 ·rw [W3 h1,j8,if_neg (fun h=>by have:=h.1.1;omega)]
 rw [W4 h1,j6];by_cases h2:op>27
 ·rw [W3 h2,j8,if_neg (fun h=>by have:=h.1.2;omega)]
 rw [W4 h2,j6];by_cases h3:a.Lo<=a.Hi
 ·rw [show w5 a=true from W3 h3,Bool.not_true,j6];by_cases h4:b.Lo<=b.Hi
  ·rw [show w5 b=true from W3 h4,Bool.not_true,j6,if_pos ⟨by omega,h3,h4⟩,<-e,ws0 op yes _ _ (by omega) (zv7 ha h3) (zv7 hb h4),j4,e];cases kj1 nw op yes (qf a nw) (qf b nw) with
   |none=>show j7 (X.qez 0 0 0 0 false) _=_;rw [X.wp0,j4];rfl
   |some p=>
    have j0: ∀x:q9,X.je7 (n+1) x.Lo x.Hi p.2.Lo p.2.Hi false b.Lo b.Hi (qf a nw).Lo (qf a nw).Hi (qf b nw).Lo (qf b nw).Hi nw (g9 nw) (if nw then 32 else 64)=some ((),(x,if b.Hi>g9 nw then b else p.2,true,())):=fun x=>by
     rw [X.vw2,X.kz8,j4,X.kz8,j4];by_cases k:b.Hi>g9 nw
     ·rw [W3 k,if_pos k];rfl
     ·rw [W4 k,if_neg k];rfl
    show q7 (decide (a.Hi>g9 nw)) (X.je7 (n+1) a.Lo a.Hi p.2.Lo p.2.Hi false b.Lo b.Hi (qf a nw).Lo (qf a nw).Hi (qf b nw).Lo (qf b nw).Hi nw (g9 nw) (if nw then 32 else 64)) (X.je7 (n+1) p.1.Lo p.1.Hi p.2.Lo p.2.Hi false b.Lo b.Hi (qf a nw).Lo (qf a nw).Hi (qf b nw).Lo (qf b nw).Hi nw (g9 nw) (if nw then 32 else 64))=_;rw [j0,j0];unfold qa3;by_cases k:a.Hi>g9 nw
    ·rw [W3 k];simp only [if_pos k];rfl
    ·rw [W4 k];simp only [if_neg k];rfl
  ·rw [show w5 b=false from W4 h4,Bool.not_false,j8,if_neg (fun h=>h4 h.2.2)]
 ·rw [show w5 a=false from W4 h3,Bool.not_false,j8,if_neg (fun h=>h3 h.2.1)]
end Go.Y
namespace Go.Y
open Go.RowKit Go.V Go.X Go.Proofs
structure TKnown where
 Kind:Int
 In:q9
def zd7 (a0:TKnown):Bool:=(if (a0.Kind==(4:Int)) then ((a0.In.Lo==(0:Int))&&(a0.In.Hi==(0:Int))) else (if (a0.Kind==(0:Int)) then ((a0.In.Lo==(0:Int))&&(a0.In.Hi==(0:Int))) else (if (a0.Kind==(1:Int)) then (zc9 (w5 a0.In) fun x37=>x37) else (if (a0.Kind==(2:Int)) then (zc9 (w5 a0.In) fun x50=>x50) else ((a0.Kind==(3:Int))&&((a0.In.Lo==(zo6 a0.In.Lo).Lo)&&(a0.In.Hi==(zo6 a0.In.Lo).Hi)))))))
def qac (a0:TKnown):(q9×Bool):=(if (a0.Kind==(4:Int)) then ((⟨(0:Int),(65535:Int)⟩:q9),true) else (a0.In,(a0.Kind==(1:Int))))
def zq4 (a0:TKnown) (a1:TKnown):TKnown:=(zc9 (qac a0) fun x34=>(zc9 (qac a1) fun x59=>(zc9 (zd7 a0) fun x85=>(if ((!x85)||(!(zd7 a1))) then (⟨(0:Int),(⟨(0:Int),(0:Int)⟩:q9)⟩:TKnown) else (if ((a0.Kind==a1.Kind)&&((a0.In.Lo==a1.In.Lo)&&(a0.In.Hi==a1.In.Hi))) then a0 else (if (x34.2&&x59.2) then (zc9 (zv4 x34.1 x59.1) fun x134=>(⟨(1:Int),x134⟩:TKnown)) else (if ((a0.Kind==(2:Int))&&(a1.Kind==(2:Int))) then (zc9 (zv4 a0.In a1.In) fun x163=>(⟨(2:Int),x163⟩:TKnown)) else (⟨(0:Int),(⟨(0:Int),(0:Int)⟩:q9)⟩:TKnown))))))))
def qbp (a0:q9) (a1:Bool):Bool:=(zc9 (jm4 a0 (0:Int)) fun x13=>(x13||(a1&&(!(jc6 a0 (zi2 true))))))
def yf5 (a0:Int) (_a1:Bool) (_a2:TKnown) (_a3:TKnown) (v100:Int) (v101:Int) (v102:Int) (_v103:Int) (_v104:Int) (_v105:Int) (_x160:(q9×Bool)) (x185:(q9×Bool)) (v200:Bool):(TKnown×Int):=(if v200 then ((⟨v100,(span_Do a0 false (⟨v101,v102⟩:q9) x185.1)⟩:TKnown),(0:Int)) else ((⟨(0:Int),(⟨(0:Int),(0:Int)⟩:q9)⟩:TKnown),(114:Int)))
def zk6 (a0:Int) (a1:Bool) (a2:TKnown) (a3:TKnown) (v100:Int) (v101:Int) (v102:Int) (v103:Int) (v104:Int) (v105:Int):(TKnown×Int):=(zc9 (qac (⟨v100,(⟨v101,v102⟩:q9)⟩:TKnown)) fun x160=>(zc9 (qac (⟨v103,(⟨v104,v105⟩:q9)⟩:TKnown)) fun x185=>(if (((x160.2&&x185.2)&&((a0==(4:Int))||(a0==(5:Int))))&&(qbp x185.1 a1)) then ((⟨(0:Int),(⟨(0:Int),(0:Int)⟩:q9)⟩:TKnown),(113:Int)) else (if (x160.2&&x185.2) then (zc9 (span_Do a0 a1 x160.1 x185.1) fun x248=>((⟨(1:Int),x248⟩:TKnown),(0:Int))) else (if (((((a0==(1:Int))||(a0==(2:Int)))&&(!a1))&&x185.2)&&(v100==(2:Int))) then (yf5 a0 a1 a2 a3 v100 v101 v102 v103 v104 v105 x160 x185 true) else (yf5 a0 a1 a2 a3 v100 v101 v102 v103 v104 v105 x160 x185 ((((((a0==(1:Int))||(a0==(2:Int)))&&(!a1))&&x185.2)&&(v100==(3:Int)))&&(x185.1.Lo==x185.1.Hi))))))))
def ya5 (a0:Int) (a1:Bool) (a2:TKnown) (a3:TKnown):(TKnown×Int):=(if ((((decide (a0<(1:Int)))||(decide (a0>(13:Int))))||(!(zd7 a2)))||(!(zd7 a3))) then ((⟨(0:Int),(⟨(0:Int),(0:Int)⟩:q9)⟩:TKnown),(2:Int)) else (if (((a0 != (12:Int))&&(a2.Kind==(0:Int)))||((a0 != (13:Int))&&(a3.Kind==(0:Int)))) then ((⟨(0:Int),(⟨(0:Int),(0:Int)⟩:q9)⟩:TKnown),(110:Int)) else (if ((a0==(12:Int))&&(!a1)) then (a3,(0:Int)) else (if (a0==(12:Int)) then (zk6 a0 a1 a2 a3 a3.Kind a3.In.Lo a3.In.Hi a3.Kind a3.In.Lo a3.In.Hi) else (if (a0==(13:Int)) then (zk6 a0 a1 a2 a3 a2.Kind a2.In.Lo a2.In.Hi a2.Kind a2.In.Lo a2.In.Hi) else (zk6 a0 a1 a2 a3 a2.Kind a2.In.Lo a2.In.Hi a3.Kind a3.In.Lo a3.In.Hi))))))
def tk (k:Known):TKnown:=⟨k.Kind,⟨k.In_Lo,k.In_Hi⟩⟩
def ofT (t:TKnown):Known:=⟨t.Kind,t.In.Lo,t.In.Hi⟩
theorem uw2 (s:q9) (x:Int):qde v9 s x=some (jm4 s x):=by rw [ug1,zv5];rfl
theorem kv0 (s t:q9):qdf v9 s t=some (jc6 s t):=by rw [ua0,zv5];rfl
theorem gn6 (s t:q9):qcn v9 s t=some (zv4 s t):=by rw [ug5];rfl
theorem yw7 (k:Known):qw v9 k=some (zd7 (tk k)):=by
 obtain ⟨n,e⟩: ∃n:Nat,(v9:Nat)=n+1:=⟨999999999,rfl⟩;have h:qw (n+1) k=some (zd7 (tk k)):=by
  rw [un9,kk7,kp4,zc4,kx3,j4,j4];simp only [zb9];congr 1;simp only [zd7,zc9,tk,w5,zo6];by_cases h4:k.Kind=4
  ·simp [h4]
  by_cases h3:k.Kind=3
  ·simp [h3]
  by_cases h0:k.Kind=0
  ·simp [h0]
  by_cases h1:k.Kind=1
  ·simp [h1];rfl
  by_cases h2:k.Kind=2
  ·simp [h2];rfl
  simp [h0,h1,h2,h3,h4]
 rw [e];exact h
theorem yk8 (k:Known):X.qac v9 k=some (qac (tk k)):=by
 rw [X.wr9,zb9];congr 1
theorem vo5 (a b:Known):qp v9 a b=some (ofT (zq4 (tk a) (tk b))):=by
 obtain ⟨n,e⟩: ∃n:Nat,(v9:Nat)=n+1+1+1:=⟨999999997,rfl⟩;have h:qp (n+1+1+1) a b=some (ofT (zq4 (tk a) (tk b))):=by
  rw [ut4,yk8,j4,yk8,j4,yw7,j4,yw7,j4];unfold zq4;simp only [zc9];generalize zd7 (tk a)=ra;generalize zd7 (tk b)=rb;simp only [kt4,kk0,kr2,gn6,j4,zb9];congr 1;cases ra with
  |false=>rfl
  |true=>
   cases rb with
   |false=>rfl
   |true=>
    simp only [Bool.not_true,Bool.or_self,Bool.false_eq_true,if_false];by_cases he:((a.Kind==b.Kind)&&((a.In_Lo==b.In_Lo)&&(a.In_Hi==b.In_Hi)))=true
    ·rw [if_pos he,if_pos (show ((tk a).Kind==(tk b).Kind&&((tk a).In.Lo==(tk b).In.Lo&&(tk a).In.Hi==(tk b).In.Hi))=true from he)];rfl
    ·rw [if_neg he,if_neg (show ¬((tk a).Kind==(tk b).Kind&&((tk a).In.Lo==(tk b).In.Lo&&(tk a).In.Hi==(tk b).In.Hi))=true from he)];show _=ofT (if ((qac (tk a)).2&&(qac (tk b)).2)=true then _ else if ((a.Kind==2)&&(b.Kind==2))=true then _ else _);generalize qac (tk a)=na;generalize qac (tk b)=nb;obtain ⟨sa,ca⟩:=na;obtain ⟨sb,cb⟩:=nb;cases ca<;>cases cb<;>cases (a.Kind==2)<;>cases (b.Kind==2)<;>rfl
 rw [e];exact h
theorem ka4 (s:q9) (nw:Bool):X.qbp v9 s nw=some (qbp s nw):=by
 rw [X.uc0,uw2,j4,zw2,j4,kv0,j4];simp only [zb9];congr 1;unfold qbp;simp only [zc9];cases jm4 s 0<;>cases nw<;>rfl
theorem qg0 {a:TKnown} (h:u9 a.In.Lo/\u9 a.In.Hi):u9 (qac a).1.Lo/\u9 (qac a).1.Hi:=by
 unfold qac;split
 ·exact ⟨by decide,by decide⟩
 ·exact h
def pk (x:TKnown×Int):Known×Int:=(ofT x.1,x.2)
theorem vm1 (n:Nat) (op:Int) (nw:Bool) (p q:TKnown) (x y:Known) (hx:u9 x.In_Lo/\u9 x.In_Hi) (hy:u9 y.In_Lo/\u9 y.In_Hi) (z0 z1 z2:Int) (hz:z0=0/\z1=0/\z2=0):
  vf8 (n+1+1+1+1+1+1) op nw x.Kind x.In_Lo x.In_Hi y.Kind y.In_Lo y.In_Hi z0 z1 z2=some (pk (zk6 op nw p q x.Kind x.In_Lo x.In_Hi y.Kind y.In_Lo y.In_Hi)):=by
 obtain ⟨rfl,rfl,rfl⟩:=hz;have nx:=qg0 (a:=tk x) hx;have ny:=qg0 (a:=tk y) hy;rw [kr4,show (⟨x.Kind,x.In_Lo,x.In_Hi⟩:Known)=x from rfl,show (⟨y.Kind,y.In_Lo,y.In_Hi⟩:Known)=y from rfl,yk8,j4,yk8,j4];unfold zk6;simp only [zc9];rw [show (⟨x.Kind,⟨x.In_Lo,x.In_Hi⟩⟩:TKnown)=tk x from rfl,show (⟨y.Kind,⟨y.In_Lo,y.In_Hi⟩⟩:TKnown)=tk y from rfl];generalize qac (tk x)=na at nx⊢;generalize qac (tk y)=nb at ny⊢;obtain ⟨⟨sl,sh⟩,c1⟩:=na;obtain ⟨⟨tl,th⟩,c2⟩:=nb;have hd1:=do_v op nw ⟨sl,sh⟩ ⟨tl,th⟩ nx ny;have hd2:=do_v op false ⟨x.In_Lo,x.In_Hi⟩ ⟨tl,th⟩ hx ny;simp only [kr9,kp1,km6,kl1,ko3,ka4,j4,hd1,hd2,zb9];refine congrArg some ?_;unfold yf5;generalize qbp ⟨tl,th⟩ nw=nt;generalize (tl==th)=et;generalize (x.Kind==2)=k2;generalize (x.Kind==3)=k3;generalize (op==1)=o1;generalize (op==2)=o2;generalize (op==4)=o4;generalize (op==5)=o5;clear hd1 hd2;cases c1 with
 |true=>cases c2 with
  |true=>cases o4<;>cases o5<;>cases nt<;>cases o1<;>cases o2<;>cases nw<;>rfl
  |false=>cases o1<;>cases o2<;>cases nw<;>rfl
 |false=>cases c2 with
  |true=>cases o1<;>cases o2<;>cases nw<;>cases k2<;>cases k3<;>cases et<;>rfl
  |false=>cases o1<;>cases o2<;>cases nw<;>rfl
theorem uu4 (op:Int) (nw:Bool) (a b:Known) (ha:u9 a.In_Lo/\u9 a.In_Hi) (hb:u9 b.In_Lo/\u9 b.In_Hi):qb v9 op nw a b=some (pk (ya5 op nw (tk a) (tk b))):=by
 obtain ⟨n,e⟩: ∃n:Nat,(v9:Nat)=n+1+1+1+1+1+1+1+1+1:=⟨999999991,rfl⟩;have h:qb (n+1+1+1+1+1+1+1+1+1) op nw a b=some (pk (ya5 op nw (tk a) (tk b))):=by
  have e1:=vm1 n op nw (tk a) (tk b) b b hb hb 0 0 0 ⟨rfl,rfl,rfl⟩;have e2:=vm1 n op nw (tk a) (tk b) a a ha ha 0 0 0 ⟨rfl,rfl,rfl⟩;have e3:=vm1 n op nw (tk a) (tk b) a b ha hb 0 0 0 ⟨rfl,rfl,rfl⟩;rw [uw7,yw7,j4,yw7,j4];unfold ya5;generalize zd7 (tk a)=ra;generalize zd7 (tk b)=rb;simp only [kv1,kl4,kw0,e1,e2,e3,zb9];refine congrArg some ?_;simp only [tk];by_cases h1:op<1
  ·simp [h1,pk,ofT]
  by_cases h2:op>13
  ·simp [h1,h2,pk,ofT]
  simp only [W4 h1,W4 h2,Bool.false_eq_true,if_false,Bool.false_or];cases ra with
  |false=>rfl
  |true=>
   cases rb with
   |false=>rfl
   |true=>
    by_cases h12:op=12
    ·subst h12;by_cases hb0:b.Kind=0<;>cases nw<;>simp [hb0,pk,ofT]
    ·by_cases h13:op=13
     ·subst h13;by_cases ha0:a.Kind=0<;>simp [ha0,pk,ofT]
     ·simp only [show (op==12)=false from beq_eq_false_iff_ne.2 h12,show (op==13)=false from beq_eq_false_iff_ne.2 h13,show (op != 12)=true from bne_iff_ne.2 h12,show (op != 13)=true from bne_iff_ne.2 h13];by_cases ha0:a.Kind=0<;>by_cases hb0:b.Kind=0<;>simp [ha0,hb0,pk,ofT]
 rw [e];exact h
theorem un8 {op:Int} {nw:Bool} {a b:TKnown} (ha:u9 a.In.Lo/\u9 a.In.Hi) (hb:u9 b.In.Lo/\u9 b.In.Hi):u9 (ya5 op nw a b).1.In.Lo/\u9 (ya5 op nw a b).1.In.Hi:=by
 have z:u9 (0:Int)/\u9 (0:Int):=⟨by decide,by decide⟩;have sp: ∀(nw:Bool) (s t:q9),u9 s.Lo/\u9 s.Hi->u9 t.Lo/\u9 t.Hi->u9 (span_Do op nw s t).Lo/\u9 (span_Do op nw s t).Hi:=by
  intro nw s t hs ht;rw [zw5];split
  ·rename_i h;have:=(kk8 h.1 (nw:=nw) hs ht h.2.1 h.2.2).1;rw [zw5,if_pos h] at this;exact this.u
  ·cases nw<;>exact ⟨by decide,by decide⟩
 have j0: ∀(x y:TKnown),u9 x.In.Lo/\u9 x.In.Hi->u9 y.In.Lo/\u9 y.In.Hi->u9 (zk6 op nw a b x.Kind x.In.Lo x.In.Hi y.Kind y.In.Lo y.In.Hi).1.In.Lo/\u9 (zk6 op nw a b x.Kind x.In.Lo x.In.Hi y.Kind y.In.Lo y.In.Hi).1.In.Hi:=by
  intro x y hx hy;have nx:=qg0 hx;have ny:=qg0 hy;unfold zk6;simp only [zc9];rw [show (⟨x.Kind,⟨x.In.Lo,x.In.Hi⟩⟩:TKnown)=x from rfl,show (⟨y.Kind,⟨y.In.Lo,y.In.Hi⟩⟩:TKnown)=y from rfl];unfold yf5;split
  ·exact z
  ·split
   ·exact sp _ _ _ nx ny
   ·split
    ·exact sp _ _ _ hx ny
    ·split
     ·exact sp _ _ _ hx ny
     ·exact z
 unfold ya5;split
 ·exact z
 ·split
  ·exact z
  ·split
   ·exact hb
   ·split
    ·exact j0 _ _ hb hb
    ·split
     ·exact j0 _ _ ha ha
     ·exact j0 _ _ ha hb
theorem gs6 {a b:TKnown} (ha:u9 a.In.Lo/\u9 a.In.Hi) (hb:u9 b.In.Lo/\u9 b.In.Hi):u9 (zq4 a b).In.Lo/\u9 (zq4 a b).In.Hi:=by
 have z:u9 (0:Int)/\u9 (0:Int):=⟨by decide,by decide⟩;have sj: ∀(s t:q9),u9 s.Lo/\u9 s.Hi->u9 t.Lo/\u9 t.Hi->u9 (zv4 s t).Lo/\u9 (zv4 s t).Hi:=by
  intro s t hs ht;unfold zv4 yj2 zk5;constructor
  ·show u9 (if _ then _ else _);split
   ·exact ht.1
   ·exact hs.1
  ·show u9 (if _ then _ else _);split
   ·exact ht.2
   ·exact hs.2
 have nx:=qg0 ha;have ny:=qg0 hb;unfold zq4;simp only [zc9];split
 ·exact z
 ·split
  ·exact ha
  ·split
   ·exact sj _ _ nx ny
   ·split
    ·exact sj _ _ ha hb
    ·exact z
end Go.Y
namespace Go.Y
open Go.RowKit Go.V Go.X Go.Proofs
abbrev Pl:=Go.X.Place
abbrev PW:=(List Ins×Unit×Int×Bool×Unit×List Bool×Int×Unit)×List Pl×List Known×Unit
def W (l:List Ins) (ps:List Pl) (a:Int) (w:Pl):PW:=((l,(),a,w.Live,(),w.Bytes,w.Least,()),ps,w.Regs,())
def toS {α:Type} (x:α⊕Int):(α×Unit)⊕(Int×Unit):=match x with| .inl a=>.inl (a,())| .inr e=>.inr (e,())
theorem zz7 (c:Bool) (e:Int):qad v9 c e=some ((),if c=true then .inr (e,()) else .inl ()):=by rw [wv7];cases c<;>rfl
theorem qb5 (e:Int):qbq v9 e=some ((),if e=0 then .inl () else .inr (e,())):=by
 rw [ww2,zz7,j4];by_cases h:e=0
 ·subst h;rfl
 ·rw [if_neg h,show (e != 0)=true from bne_iff_ne.2 h];rfl
def yk3 (least:Int) (k:Known):q9⊕Int:=if k.Kind=0 then .inr 110 else if k.Kind=1 then .inl ⟨k.In_Lo,k.In_Hi⟩ else if k.Kind=4 then .inl ⟨IntKind.u64.wrap least,65535⟩ else .inr 111
theorem yj6 (l:List Ins) (ps:List Pl) (a:Int) (w:Pl) (k:Known):qt v9 l ps a w.Live w.Regs w.Bytes w.Least k=some (W l ps a w,toS (yk3 w.Least k)):=by
 rw [wi3];simp only [zz7,j4,zo4];unfold yk3;by_cases h0:k.Kind=0
 ·simp [h0];exact ⟨rfl,rfl⟩
 by_cases h1:k.Kind=1
 ·simp [h1];exact ⟨rfl,rfl⟩
 by_cases h4:k.Kind=4
 ·simp [h4];exact ⟨rfl,rfl⟩
 ·simp [h0,h1,h4];exact ⟨rfl,rfl⟩
def jg0 (regs:List Known) (i:Ins):Known:=if i.UseImm=true then ⟨1,IntKind.u64.wrap i.Imm,IntKind.u64.wrap i.Imm⟩ else regs.getD i.Src.toNat v8
theorem jo6 (l:List Ins) (ps:List Pl) (a:Int) (w:Pl) (i:Ins) (hr:w.Regs.length=11) (hs:i.UseImm=true\/0<=i.Src/\i.Src<=10):qae v9 l ps a w.Live w.Regs w.Bytes w.Least i=some (W l ps a w,(jg0 w.Regs i,())):=by
 rw [gc5,kx3,j4];unfold jg0;by_cases h:i.UseImm=true
 ·rw [h,j8];rfl
 ·rw [Bool.not_eq_true] at h;have hs:=hs.resolve_left (by rw [h];decide);rw [h,j6,if_pos (by omega)];rfl
theorem ye1 (lv:Bool) (rs:List Known) (bs:List Bool) (n:Int) (hr:rs.length=11) (hb:bs.length<=512):qaz v9 lv rs bs n=some ((rs,()),((lv,rs,bs,n,()),())):=by
 have e1:qdj v9 rs=some rs:=by
  rw [wq4,if_pos (by rw [hr];decide),List.nil_append];cases rs with
  |nil=>exact jx2 _ _
  |cons x r=>rfl
 have e2:qdk v9 bs=some bs:=by
  rw [uj4,if_pos (by omega),List.nil_append];cases bs with
  |nil=>exact jx2 _ _
  |cons x r=>rfl
 rw [wu1,e1,j4,e2,j4]
def gf2 (a b:Known):Known:=ofT (zq4 (tk a) (tk b))
def jr (q p:List Known):Nat->List Known
 |0=>q
 |k+1=>(jr q p k).set k (gf2 (q.getD k v8) (p.getD k v8))
theorem je1 (q p:List Known): ∀k,(jr q p k).length=q.length
 |0=>rfl
 |k+1=>by rw [jr,Q1,je1 q p k]
theorem wj9 (q p:List Known) (j:Nat): ∀k,(jr q p k)[j]?=if j<k/\j<q.length then some (gf2 (q.getD j v8) (p.getD j v8)) else q[j]?
 |0=>by rw [jr,if_neg (by omega)]
 |k+1=>by
  rw [jr,List.getElem?_set,je1,wj9 q p j k];by_cases hk:k=j
  ·subst hk;rw [if_pos rfl];by_cases hl:k<q.length
   ·rw [if_pos hl,if_pos ⟨by omega,hl⟩]
   ·rw [if_neg hl,if_neg (by omega),Y5 (by omega)]
  ·rw [if_neg hk];by_cases h:j<k/\j<q.length
   ·rw [if_pos h,if_pos (by omega)]
   ·rw [if_neg h,if_neg (by omega)]
theorem kx7 (q p:List Known) (k:Nat):(jr q p k).getD k v8=q.getD k v8:=by
 rw [Y2,wj9,if_neg (by omega),<-Y2]
def zu5 (ps:List Pl) (k:Nat) (p:Pl):List Pl:=if (ps.getD k v6).Live=true then ps.set k ⟨true,jr (ps.getD k v6).Regs p.Regs 11,vh1 (ps.getD k v6).Bytes p.Bytes,yj2 (ps.getD k v6).Least p.Least⟩ else ps.set k p
theorem vo9 (l:List Ins) (ps:List Pl) (a:Int) (w:Pl) (t:Int) (ht:0<=t/\t<(ps.length:Int)) (hr:w.Regs.length=11) (hb:w.Bytes.length<=512) (hq:(ps.getD t.toNat v6).Live=true->(ps.getD t.toNat v6).Regs.length=11):
  qy v9 l ps a w.Live w.Regs w.Bytes w.Least t w.Live w.Bytes w.Least=some (W l (zu5 ps t.toNat w) a w,()):=by
 rw [up2,if_pos ht,if_pos (by omega)];unfold zu5;cases hl:(ps.getD t.toNat v6).Live with
 |false=>rw [Bool.not_false,j8,ye1 _ _ _ _ hr hb,j4,if_pos (by omega),if_neg (by decide)];rfl
 |true=>
  rw [Bool.not_true,j6,if_pos (by omega),if_pos rfl];have hq:=hq hl;refine ve7 (fun n k=>ju1 n t.toNat (((ps.getD t.toNat v6).Regs.length:Nat):Int) (k:Int) l a w.Live w.Bytes w.Least ps t.toNat true (ps.getD t.toNat v6).Bytes (ps.getD t.toNat v6).Least w.Regs w.Live w.Bytes w.Least (jr (ps.getD t.toNat v6).Regs w.Regs k)) 1 11 _ (fun n k hk=>?_) (fun n=>?_) v9 (by unfold v9;omega)
  ·show ju1 (n+1) _ _ (k:Int) _ _ _ _ _ _ _ _ _ _ _ _ _ _ _=ju1 n _ _ ((k+1:Nat):Int) _ _ _ _ _ _ _ _ _ _ _ _ _ _ (jr _ _ (k+1));rw [qy3,W3 (by omega),j8,if_pos rfl,if_pos rfl,je1,hq,hr,if_pos (by omega),if_pos (by omega),Z1,kx7,vo5,j4,if_pos (by omega),nx hk (by omega)];rfl
  ·show ju1 (n+1) _ _ ((11:Nat):Int) _ _ _ _ _ _ _ _ _ _ _ _ _ _ _=_;rw [qy3,hq,W4 (by omega),j6,if_pos rfl,wf2,j4,if_pos rfl,if_pos rfl,if_pos rfl];rfl
theorem vq4 (l:List Ins) (ps:List Pl) (a:Int) (w p:Pl) (t:Int) (ht:0<=t/\t<(ps.length:Int)) (hr:p.Regs.length=11) (hb:p.Bytes.length<=512) (hq:(ps.getD t.toNat v6).Live=true->(ps.getD t.toNat v6).Regs.length=11):
  qaj v9 l ps a w.Live w.Regs w.Bytes w.Least t p.Live p.Regs p.Bytes p.Least=some (((l,(),a,w.Live,(),w.Bytes,w.Least,()),zu5 ps t.toNat p,w.Regs,p.Regs,()),()):=by
 rw [wz4,if_pos ht,if_pos (by omega)];unfold zu5;cases hl:(ps.getD t.toNat v6).Live with
 |false=>rw [Bool.not_false,j8,ye1 _ _ _ _ hr hb,j4,if_pos (by omega),if_neg (by decide)]
 |true=>
  rw [Bool.not_true,j6,if_pos (by omega),if_pos rfl];have hq:=hq hl;refine ve7 (fun n k=>yt0 n t.toNat (((ps.getD t.toNat v6).Regs.length:Nat):Int) (k:Int) l a w.Live w.Bytes w.Least ps t.toNat true (ps.getD t.toNat v6).Bytes (ps.getD t.toNat v6).Least w.Regs p.Regs p.Live p.Bytes p.Least (jr (ps.getD t.toNat v6).Regs p.Regs k)) 1 11 _ (fun n k hk=>?_) (fun n=>?_) v9 (by unfold v9;omega)
  ·show yt0 (n+1) _ _ (k:Int) _ _ _ _ _ _ _ _ _ _ _ _ _ _ _ _=yt0 n _ _ ((k+1:Nat):Int) _ _ _ _ _ _ _ _ _ _ _ _ _ _ _ (jr _ _ (k+1));rw [jv8,W3 (by omega),j8,if_pos rfl,if_pos rfl,je1,hq,hr,if_pos (by omega),if_pos (by omega),Z1,kx7,vo5,j4,if_pos (by omega),nx hk (by omega)];rfl
  ·show yt0 (n+1) _ _ ((11:Nat):Int) _ _ _ _ _ _ _ _ _ _ _ _ _ _ _ _=_;rw [jv8,hq,W4 (by omega),j6,if_pos rfl,wf2,j4,if_pos rfl,if_pos rfl,if_pos rfl]
end Go.Y
namespace Go.Y
open Go.RowKit Go.V Go.X Go.Proofs
abbrev Out:=List (Int×Pl)⊕Int
def zf9 (ps:List Pl):List (Int×Pl)->List Pl
 | []=>ps
 |x::r=>zf9 (zu5 ps x.1.toNat x.2) r
def zm8 (ps:List Pl) (o:Out):List Pl:=match o with| .inl ts=>zf9 ps ts| .inr _=>ps
def yv6 (o:Out):Unit⊕(Int×Unit):=match o with| .inl _=>.inl ()| .inr e=>.inr (e,())
def QOk (ps:List Pl):Prop:= ∀k,(ps.getD k v6).Live=true->(ps.getD k v6).Regs.length=11
theorem zv3 (ps:List Pl) (k j:Nat) (p:Pl):(ps.set k p).getD j v6=if k=j/\j<ps.length then p else ps.getD j v6:=by
 rw [Y2,Y2,List.getElem?_set];by_cases h:k=j
 ·subst h;by_cases hl:k<ps.length
  ·rw [if_pos rfl,if_pos hl,if_pos ⟨rfl,hl⟩];rfl
  ·rw [if_pos rfl,if_neg hl,if_neg (fun h=>hl h.2),Y5 (by omega)]
 ·rw [if_neg h,if_neg (fun h2=>h h2.1)]
theorem jy6 (ps:List Pl) (k:Nat) (p:Pl):(zu5 ps k p).length=ps.length:=by unfold zu5;split<;>rw [Q1]
theorem gr9 {ps:List Pl} (h:QOk ps) (k:Nat) {p:Pl} (hp:p.Regs.length=11):QOk (zu5 ps k p):=by
 intro j hj;unfold zu5 at hj⊢;split at hj
 ·rename_i hl;rw [if_pos hl];rw [zv3] at hj⊢;split
  ·rw [je1];exact h k hl
  ·rename_i hn;rw [if_neg hn] at hj;exact h j hj
 ·rename_i hl;rw [if_neg hl];rw [zv3] at hj⊢;split
  ·exact hp
  ·rename_i hn;rw [if_neg hn] at hj;exact h j hj
theorem qc5 (l:List Ins) (ps:List Pl) (a:Int) (lv:Bool) (rs:List Known) (bs:List Bool) (n:Int) (ha:0<=a/\a+1<(ps.length:Int)) (hn:ps.length<=4096) (hr:rs.length=11) (hb:bs.length<=512) (hq:QOk ps):
  qbi v9 l ps a lv rs bs n lv bs n=some (W l (zu5 ps (a+1).toNat ⟨lv,rs,bs,n⟩) a ⟨lv,rs,bs,n⟩,()):=by
 rw [wu5,ze0 (by omega)];have h:=vo9 l ps a ⟨lv,rs,bs,n⟩ (a+1) (by omega) hr hb (hq _);dsimp only at h;rw [h,j4]
 try rfl
theorem ub7 (l:List Ins) (ps:List Pl) (a:Int) (lv:Bool) (rs:List Known) (bs:List Bool) (n:Int) (ha:0<=a/\a<(l.length:Int)) (ht:0<=a+1+(l.getD a.toNat zb2).Off/\a+1+(l.getD a.toNat zb2).Off<(ps.length:Int)) (hl:l.length<=4096) (hn:ps.length<=4096) (hr:rs.length=11) (hb:bs.length<=512) (hq:QOk ps):
  qck v9 l ps a lv rs bs n lv bs n=some (W l (zu5 ps (a+1+(l.getD a.toNat zb2).Off).toNat ⟨lv,rs,bs,n⟩) a ⟨lv,rs,bs,n⟩,()):=by
 rw [ub6,if_pos ha,ze0 (x:=a+1) (by omega),ze0 (by omega)];have h:=vo9 l ps a ⟨lv,rs,bs,n⟩ (a+1+(l.getD a.toNat zb2).Off) (by omega) hr hb (hq _);dsimp only at h;rw [h,j4]
 try rfl
theorem gk2 (l:List Ins) (ps:List Pl) (a:Int) (w p:Pl) (ha:0<=a/\a+1<(ps.length:Int)) (hn:ps.length<=4096) (hr:p.Regs.length=11) (hb:p.Bytes.length<=512) (hq:QOk ps):
  qdl v9 l ps a w.Live w.Regs w.Bytes w.Least p.Live p.Regs p.Bytes p.Least=some (((l,(),a,w.Live,(),w.Bytes,w.Least,()),zu5 ps (a+1).toNat p,w.Regs,p.Regs,()),()):=by
 rw [wp2,ze0 (by omega),vq4 l ps a w p (a+1) (by omega) hr hb (hq _),j4]
theorem ww6 (l:List Ins) (ps:List Pl) (a:Int) (w p:Pl) (ha:0<=a/\a<(l.length:Int)) (ht:0<=a+1+(l.getD a.toNat zb2).Off/\a+1+(l.getD a.toNat zb2).Off<(ps.length:Int)) (hl:l.length<=4096) (hn:ps.length<=4096) (hr:p.Regs.length=11) (hb:p.Bytes.length<=512) (hq:QOk ps):
  qdm v9 l ps a w.Live w.Regs w.Bytes w.Least p.Live p.Regs p.Bytes p.Least=some (((l,(),a,w.Live,(),w.Bytes,w.Least,()),zu5 ps (a+1+(l.getD a.toNat zb2).Off).toNat p,w.Regs,p.Regs,()),()):=by
 rw [wr2,if_pos ha,ze0 (x:=a+1) (by omega),ze0 (by omega),vq4 l ps a w p (a+1+(l.getD a.toNat zb2).Off) (by omega) hr hb (hq _),j4]
def yp0 (k:Known) (i:Ins):Int:=IntKind.i64.wrap (IntKind.u64.wrap (k.In_Lo+IntKind.u64.wrap i.Off))
theorem vu5 (k:Known) (i:Ins):X.qcb v9 k i=some (yp0 k i):=by rw [X.wy8];rfl
def jt7 (w:Pl):Out:=match yk3 w.Least (w.Regs.getD 0 v8) with| .inl _=>.inl []| .inr e=>.inr e
theorem ge7 (l:List Ins) (ps:List Pl) (a:Int) (w:Pl) (i:Ins) (hr:w.Regs.length=11):qcw v9 l ps a w.Live w.Regs w.Bytes w.Least i=some (W l (zm8 ps (jt7 w)) a w,yv6 (jt7 w)):=by
 rw [ub1,if_pos (by omega),yj6,j4];unfold jt7;cases yk3 w.Least (w.Regs.getD 0 v8)<;>rfl
def kh6 (w:Pl) (i:Ins) (a:Int):Out:=.inl [(a+1+i.Off,w)]
theorem ky8 (l:List Ins) (ps:List Pl) (a:Int) (w:Pl) (i:Ins) (hi:l.getD a.toNat zb2=i) (ha:0<=a/\a<(l.length:Int)) (ht:0<=a+1+i.Off/\a+1+i.Off<(ps.length:Int)) (hl:l.length<=4096) (hn:ps.length<=4096) (hr:w.Regs.length=11) (hb:w.Bytes.length<=512) (hq:QOk ps):
  qcv v9 l ps a w.Live w.Regs w.Bytes w.Least i=some (W l (zm8 ps (kh6 w i a)) a w,()):=by
 subst hi;rw [ub2,ub7 l ps a w.Live w.Regs w.Bytes w.Least ha ht hl hn hr hb hq,j4];rfl
def doK (op:Int) (nw:Bool) (a b:Known):Known×Int:=pk (ya5 op nw (tk a) (tk b))
theorem ur1 (op:Int) (nw:Bool) (a b:Known) (ha:u9 a.In_Lo/\u9 a.In_Hi) (hb:u9 b.In_Lo/\u9 b.In_Hi):qb v9 op nw a b=some (doK op nw a b):=uu4 op nw a b ha hb
def zs2 (w:Pl) (i:Ins) (a:Int):Out:=
 let r:=doK i.Op i.Narrow (w.Regs.getD i.Dst.toNat v8) (if i.Op=13 then ⟨0,0,0⟩ else jg0 w.Regs i)
 if r.2=0 then .inl [(a+1,⟨w.Live,w.Regs.set i.Dst.toNat r.1,w.Bytes,w.Least⟩)] else .inr r.2
def UOk (k:Known):Prop:=u9 k.In_Lo/\u9 k.In_Hi
theorem vh9 {rs:List Known} (h: ∀k,UOk (rs.getD k v8)) (i:Ins):UOk (jg0 rs i):=by
 unfold jg0;split
 ·refine ⟨?_,?_⟩<;>(show u9 (IntKind.u64.wrap i.Imm);rw [za4];omega)
 ·exact h _
theorem qs7 (l:List Ins) (ps:List Pl) (a:Int) (w:Pl) (i:Ins) (ha:0<=a/\a+1<(ps.length:Int)) (hn:ps.length<=4096) (hr:w.Regs.length=11) (hb:w.Bytes.length<=512) (hq:QOk ps) (hu: ∀k,UOk (w.Regs.getD k v8)) (hd:0<=i.Dst/\i.Dst<=10) (hs:i.UseImm=true\/0<=i.Src/\i.Src<=10):
  ∃w',qaw v9 l ps a w.Live w.Regs w.Bytes w.Least i=some (W l (zm8 ps (zs2 w i a)) a w',yv6 (zs2 w i a)):=by
 obtain ⟨n,e⟩: ∃n:Nat,(v9:Nat)=n+1:=⟨999999999,rfl⟩;have j0: ∀b:Known,UOk b-> ∃w',qh3 (n+1) l a w.Live w.Bytes w.Least ps w.Regs i.Op i.Narrow i.Dst i.Src i.UseImm i.Off i.Imm i.Size b.Kind b.In_Lo b.In_Hi=some (W l (zm8 ps (if (doK i.Op i.Narrow (w.Regs.getD i.Dst.toNat v8) b).2=0 then .inl [(a+1,⟨w.Live,w.Regs.set i.Dst.toNat (doK i.Op i.Narrow (w.Regs.getD i.Dst.toNat v8) b).1,w.Bytes,w.Least⟩)] else .inr (doK i.Op i.Narrow (w.Regs.getD i.Dst.toNat v8) b).2)) a w',yv6 (if (doK i.Op i.Narrow (w.Regs.getD i.Dst.toNat v8) b).2=0 then .inl [(a+1,⟨w.Live,w.Regs.set i.Dst.toNat (doK i.Op i.Narrow (w.Regs.getD i.Dst.toNat v8) b).1,w.Bytes,w.Least⟩)] else .inr (doK i.Op i.Narrow (w.Regs.getD i.Dst.toNat v8) b).2)):=by
  intro b hbu;rw [kb9,if_pos (by omega),show (⟨b.Kind,b.In_Lo,b.In_Hi⟩:Known)=b from rfl,ur1 _ _ _ _ (hu _) hbu,j4,qb5,j4];generalize doK i.Op i.Narrow (w.Regs.getD i.Dst.toNat v8) b=r;by_cases h:r.2=0
  ·refine ⟨⟨w.Live,w.Regs.set i.Dst.toNat r.1,w.Bytes,w.Least⟩,?_⟩;simp only [if_pos h];rw [if_pos (by omega)];show j7 (qbi v9 l ps a w.Live (w.Regs.set i.Dst.toNat r.1) w.Bytes w.Least w.Live w.Bytes w.Least) _=_;rw [qc5 l ps a w.Live (w.Regs.set i.Dst.toNat r.1) w.Bytes w.Least ha hn (by rw [Q1];exact hr) hb hq,j4];rfl
  ·refine ⟨w,?_⟩;simp only [if_neg h];rfl
 rw [wr1,jo6 l ps a w i hr hs,j4,e];unfold zs2;dsimp only;by_cases h13:i.Op=13
 ·rw [if_pos h13,show (i.Op==13)=true from beq_iff_eq.2 h13,j8];exact j0 ⟨0,0,0⟩ ⟨by decide,by decide⟩
 ·rw [if_neg h13,show (i.Op==13)=false from beq_eq_false_iff_ne.2 h13,j6];exact j0 _ (vh9 hu i)
end Go.Y
namespace Go.Y
open Go.RowKit Go.V Go.X Go.Proofs
def vj1 (w:Pl) (i:Ins):Int:=
 let p:=w.Regs.getD i.Src.toNat v8
 if p.Kind=3 then ki5 w.Bytes (yp0 p i) i.Size
 else if p.Kind=2 then (if p.In_Hi>65535 then 112 else if IntKind.i64.wrap (IntKind.i64.wrap p.In_Lo+i.Off)<0 then 112 else if IntKind.i64.wrap (IntKind.i64.wrap (IntKind.i64.wrap p.In_Hi+i.Off)+i.Size)>w.Least then 112 else 0)
 else match yk3 w.Least p with| .inl _=>111| .inr e=>e
def jd4 (size:Int):Known:=⟨1,0,zc0 .u64 18446744073709551615 (IntKind.i64.wrap (64-IntKind.i64.wrap (8*size)))⟩
def jh9 (w:Pl) (i:Ins) (a:Int):Out:=if vj1 w i=0 then .inl [(a+1,⟨w.Live,w.Regs.set i.Dst.toNat (jd4 i.Size),w.Bytes,w.Least⟩)] else .inr (vj1 w i)
theorem kn0 {s:Int} (h:zg6 s=true): ¬IntKind.i64.wrap (64-IntKind.i64.wrap (8*s))<0:=by
 unfold zg6 at h;simp only [Bool.or_eq_true,beq_iff_eq] at h;rcases h with rfl|rfl|rfl|rfl<;>decide
theorem wv6 {n:Int} {k:Known} {e:Int} (h:yk3 n k=.inr e):e≠0:=by
 unfold yk3 at h;split at h
 ·cases h;decide
 ·split at h
  ·cases h
  ·split at h
   ·cases h
   ·cases h;decide
theorem gd2 (l:List Ins) (ps:List Pl) (a:Int) (w:Pl) (i:Ins) (ha:0<=a/\a+1<(ps.length:Int)) (hn:ps.length<=4096) (hr:w.Regs.length=11) (hb:w.Bytes.length<=512) (hq:QOk ps) (hd:0<=i.Dst/\i.Dst<=10) (hs:0<=i.Src/\i.Src<=10) (hz:zg6 i.Size=true):
  ∃w',qap v9 l ps a w.Live w.Regs w.Bytes w.Least i=some (W l (zm8 ps (jh9 w i a)) a w',yv6 (jh9 w i a)):=by
 obtain ⟨n,e⟩: ∃n:Nat,(v9:Nat)=n+1:=⟨999999999,rfl⟩;have j0:js4 (n+1) l a w.Live w.Bytes w.Least ps w.Regs i.Op i.Narrow i.Dst i.Src i.UseImm i.Off i.Imm i.Size=some (W l (zu5 ps (a+1).toNat ⟨w.Live,w.Regs.set i.Dst.toNat (jd4 i.Size),w.Bytes,w.Least⟩) a ⟨w.Live,w.Regs.set i.Dst.toNat (jd4 i.Size),w.Bytes,w.Least⟩,.inl ()):=by
  rw [vw8,if_neg (kn0 hz),if_pos (by omega)];show j7 (qbi v9 l ps a w.Live (w.Regs.set i.Dst.toNat (jd4 i.Size)) w.Bytes w.Least w.Live w.Bytes w.Least) _=_;rw [qc5 l ps a w.Live (w.Regs.set i.Dst.toNat (jd4 i.Size)) w.Bytes w.Least ha hn (by rw [Q1];exact hr) hb hq,j4]
  try rfl
 rw [<-e] at j0;rw [wl3,if_pos (by omega)];unfold jh9 vj1;dsimp only;generalize w.Regs.getD i.Src.toNat v8=p;by_cases h3:p.Kind=3
 ·rw [show (p.Kind==3)=true from beq_iff_eq.2 h3,j8,vu5,j4,uu0,j4,qb5,j4];simp only [if_pos h3];generalize ki5 w.Bytes (yp0 p i) i.Size=r;by_cases hr0:r=0
  ·simp only [if_pos hr0,j0];exact ⟨_,rfl⟩
  ·simp only [if_neg hr0];exact ⟨w,rfl⟩
 ·rw [show (p.Kind==3)=false from beq_eq_false_iff_ne.2 h3,j6];simp only [if_neg h3];by_cases h2:p.Kind=2
  ·rw [show (p.Kind==2)=true from beq_iff_eq.2 h2,j8,zz7,j4];simp only [if_pos h2,decide_eq_true_eq];by_cases c1:p.In_Hi>65535
   ·simp only [if_pos c1];exact ⟨w,rfl⟩
   ·simp only [if_neg c1];by_cases c2:IntKind.i64.wrap (IntKind.i64.wrap p.In_Lo+i.Off)<0
    ·simp only [if_pos c2,W3 c2,j8,zz7,j4];exact ⟨w,rfl⟩
    ·simp only [if_neg c2,W4 c2,j6,zz7,j4,decide_eq_true_eq];by_cases c3:IntKind.i64.wrap (IntKind.i64.wrap (IntKind.i64.wrap p.In_Hi+i.Off)+i.Size)>w.Least
     ·simp only [if_pos c3];exact ⟨w,rfl⟩
     ·simp only [if_neg c3,j0];exact ⟨_,rfl⟩
  ·rw [show (p.Kind==2)=false from beq_eq_false_iff_ne.2 h2,j6,yj6,j4];simp only [if_neg h2];cases hx:yk3 w.Least p with
   |inl s=>exact ⟨w,rfl⟩
   |inr x=>
    have:=wv6 hx;simp only [if_neg this];exact ⟨w,rfl⟩
def kx5 (w:Pl) (i:Ins) (a:Int):Out:=
 let p:=w.Regs.getD i.Dst.toNat v8
 let b:=jg0 w.Regs i
 if p.Kind=0\/b.Kind=0 then .inr 110 else if p.Kind=2 then .inr 114 else if p.Kind≠3 then .inr 111
 else match yk3 w.Least b with
  | .inr e=>.inr e
  | .inl _=>if (qb3 w.Bytes (yp0 p i) i.Size).2=0 then .inl [(a+1,⟨w.Live,w.Regs,(qb3 w.Bytes (yp0 p i) i.Size).1,w.Least⟩)] else .inr (qb3 w.Bytes (yp0 p i) i.Size).2
theorem gr0 (b:List Bool) (x z:Int):(qb3 b x z).1.length<=b.length:=by
 unfold qb3;split
 ·rw [yz0];exact Nat.le_refl _
 ·exact Nat.zero_le _
theorem wg2 (l:List Ins) (ps:List Pl) (a:Int) (w:Pl) (i:Ins) (ha:0<=a/\a+1<(ps.length:Int)) (hn:ps.length<=4096) (hr:w.Regs.length=11) (hb:w.Bytes.length<=512) (hq:QOk ps) (hd:0<=i.Dst/\i.Dst<=10) (hs:i.UseImm=true\/0<=i.Src/\i.Src<=10):
  ∃w',qba v9 l ps a w.Live w.Regs w.Bytes w.Least i=some (W l (zm8 ps (kx5 w i a)) a w',yv6 (kx5 w i a)):=by
 obtain ⟨n,e⟩: ∃n:Nat,(v9:Nat)=n+1:=⟨999999999,rfl⟩;rw [uh7,if_pos (by omega),jo6 l ps a w i hr hs,j4];unfold kx5;dsimp only;generalize w.Regs.getD i.Dst.toNat v8=p;generalize jg0 w.Regs i=b;by_cases h0:p.Kind=0
 ·rw [show (p.Kind==0)=true from beq_iff_eq.2 h0,j8,zz7,j4,if_pos rfl,if_pos (c:=p.Kind=0\/b.Kind=0) (.inl h0)];exact ⟨w,rfl⟩
 rw [show (p.Kind==0)=false from beq_eq_false_iff_ne.2 h0,j6,zz7,j4];by_cases h1:b.Kind=0
 ·rw [if_pos (c:=p.Kind=0\/b.Kind=0) (.inr h1),show (b.Kind==0)=true from beq_iff_eq.2 h1];exact ⟨w,rfl⟩
 rw [if_neg (c:=p.Kind=0\/b.Kind=0) (fun h=>h.elim h0 h1),show (b.Kind==0)=false from beq_eq_false_iff_ne.2 h1];simp only [Bool.false_eq_true,if_false];rw [e,vz6,zz7,j4];by_cases h2:p.Kind=2
 ·rw [if_pos h2,show (p.Kind==2)=true from beq_iff_eq.2 h2];exact ⟨w,rfl⟩
 rw [if_neg h2,show (p.Kind==2)=false from beq_eq_false_iff_ne.2 h2];simp only [Bool.false_eq_true,if_false,zz7,j4];by_cases h3:p.Kind=3
 ·rw [if_neg (c:=p.Kind≠3) (fun h=>h h3),show (p.Kind != 3)=false by rw [h3];rfl];simp only [Bool.false_eq_true,if_false,yj6,j4];rw [show (⟨b.Kind,b.In_Lo,b.In_Hi⟩:Known)=b from rfl];cases hx:yk3 w.Least b with
  |inr x=>exact ⟨w,rfl⟩
  |inl s=>
   simp only [toS];rw [show (⟨p.Kind,p.In_Lo,p.In_Hi⟩:Known)=p from rfl,show (⟨i.Op,i.Narrow,i.Dst,i.Src,i.UseImm,i.Off,i.Imm,i.Size⟩:Ins)=i from rfl,vu5,j4,ur3,j4,qb5,j4];have hle:=gr0 w.Bytes (yp0 p i) i.Size;generalize qb3 w.Bytes (yp0 p i) i.Size=r at hle⊢;by_cases hr0:r.2=0
   ·simp only [if_pos hr0];rw [qc5 l ps a w.Live w.Regs r.1 w.Least ha hn hr (by omega) hq,j4];exact ⟨⟨w.Live,w.Regs,r.1,w.Least⟩,rfl⟩
   ·simp only [if_neg hr0];exact ⟨w,rfl⟩
 ·rw [if_pos (c:=p.Kind≠3) h3,show (p.Kind != 3)=true from bne_iff_ne.2 h3];exact ⟨w,rfl⟩
end Go.Y
namespace Go.Y
open Go.RowKit Go.V Go.X Go.Proofs
theorem zk1 {R:Type} {c:Bool} (h:c=true) (x y:Option R):q7 c x y=x:=by rw [h];rfl
theorem zl6 {R:Type} {c:Bool} (h:c=false) (x y:Option R):q7 c x y=y:=by rw [h];rfl
def zo2 (p:Pl) (r:Int) (s:q9):Pl:=if (p.Regs.getD r.toNat v8).Kind=1 then ⟨p.Live,p.Regs.set r.toNat ⟨(p.Regs.getD r.toNat v8).Kind,s.Lo,s.Hi⟩,p.Bytes,p.Least⟩ else ⟨p.Live,p.Regs,p.Bytes,zk5 p.Least (IntKind.i64.wrap s.Lo)⟩
def qe3 (w:Pl) (i:Ins) (x y:q9):Pl:=if i.UseImm=true then zo2 w i.Dst x else if i.Src=i.Dst then w else zo2 (zo2 w i.Dst x) i.Src y
def ys6 (w:Pl) (i:Ins) (m n:q9) (yes:Bool) (t:Int):List (Int×Pl):=if (ifE i.Op i.Narrow yes m n).2.2=true then [(t,qe3 w i (ifE i.Op i.Narrow yes m n).1 (ifE i.Op i.Narrow yes m n).2.1)] else []
def ya0 (w:Pl) (i:Ins) (a:Int):Out:=
 let p:=w.Regs.getD i.Dst.toNat v8
 let b:=jg0 w.Regs i
 if p.Kind=0\/b.Kind=0 then .inr 110 else match yk3 w.Least p with
  | .inr e=>.inr e
  | .inl m=>match yk3 w.Least b with
   | .inr e=>.inr e
   | .inl n=>.inl (ys6 w i m n false (a+1)++ys6 w i m n true (a+1+i.Off))
theorem jb8 (y:List (Int×Pl)): ∀(x:List (Int×Pl)) (ps:List Pl),zf9 ps (x++y)=zf9 (zf9 ps x) y
 | [],ps=>rfl
 |z::r,ps=>by rw [List.cons_append,zf9,jb8 y r,zf9]
theorem zf4 (p:Pl) (r:Int) (s:q9):(zo2 p r s).Regs.length=p.Regs.length/\(zo2 p r s).Bytes=p.Bytes:=by
 unfold zo2;split
 ·exact ⟨Q1 ..,rfl⟩
 ·exact ⟨rfl,rfl⟩
theorem jf5 (p:Pl) (r:Int) (s:q9) (hr:0<=r/\r<(p.Regs.length:Int)):qbv v9 p.Live p.Regs p.Bytes p.Least r s=some ((((zo2 p r s).Live,(),(zo2 p r s).Bytes,(zo2 p r s).Least,()),(zo2 p r s).Regs,()),()):=by
 rw [wm3,if_pos hr];unfold zo2;by_cases h:(p.Regs.getD r.toNat v8).Kind=1
 ·rw [if_pos h,show ((p.Regs.getD r.toNat v8).Kind==1)=true from beq_iff_eq.2 h,j8]
 ·rw [if_neg h,show ((p.Regs.getD r.toNat v8).Kind==1)=false from beq_eq_false_iff_ne.2 h,j6]
section
variable (l:List Ins) (ps:List Pl) (a:Int) (w:Pl) (i:Ins) (m k:q9)
theorem wi1 (n:Nat) (c d:Bool):qg5 (n+2) 2 l a w.Live w.Bytes w.Least ps w.Regs i.Op i.Narrow i.Dst i.Src i.UseImm i.Off i.Imm i.Size m.Lo m.Hi k.Lo k.Hi c d=some (W l ps a w,.inl ()):=by
 rw [vy7,W4 (by omega),j6];rfl
variable (hi:l.getD a.toNat zb2=i) (ha:0<=a/\a<(l.length:Int)) (hl:l.length<=4096) (hn:ps.length=l.length) (hr:w.Regs.length=11) (hb:w.Bytes.length<=512) (hq:QOk ps)
variable (ht:0<=a+1+i.Off/\a+1+i.Off<(l.length:Int)) (ha1:a+1<(l.length:Int)) (hd:0<=i.Dst/\i.Dst<=10) (hs:i.UseImm=true\/0<=i.Src/\i.Src<=10)
variable (hm:u9 m.Lo/\u9 m.Hi) (hk:u9 k.Lo/\u9 k.Hi)
include hi ha hl hn hq ht
theorem up5 (n:Nat) (p:Pl) (c d e:Bool) (hp:p.Regs.length=11) (hpb:p.Bytes.length<=512):je6 (n+3) 2 l a w.Live w.Bytes w.Least ps w.Regs i.Op i.Narrow i.Dst i.Src i.UseImm i.Off i.Imm i.Size m.Lo m.Hi k.Lo k.Hi c p.Live p.Bytes p.Least d e p.Regs=some (W l (zu5 ps (a+1+i.Off).toNat p) a w,.inl ()):=by
 subst hi;rw [kb2,ww6 l ps a w p ha (by omega) hl (by omega) hp hpb hq,j4];exact wi1 l _ a w _ m k n d e
include hr hb hd hs hm hk
theorem uy6 (n:Nat) (c:Bool):kg2 (n+5) 2 l a w.Live w.Bytes w.Least ps w.Regs i.Op i.Narrow i.Dst i.Src i.UseImm i.Off i.Imm i.Size m.Lo m.Hi k.Lo k.Hi c true=some (W l (zf9 ps (ys6 w i m k true (a+1+i.Off))) a w,.inl ()):=by
 rw [ko7,W3 (by omega),j8,show (⟨m.Lo,m.Hi⟩:Span)=m from rfl,show (⟨k.Lo,k.Hi⟩:Span)=k from rfl,we4 _ _ _ _ _ hm hk,j4];unfold ys6;generalize ifE i.Op i.Narrow true m k=r;dsimp only;cases hc:r.2.2 with
 |false=>rw [Bool.not_false,j8,if_neg (by decide)];exact wi1 l ps a w i m k _ _ _
 |true=>
  rw [Bool.not_true,j6,if_pos rfl,ye1 _ _ _ _ hr hb,j4];have fin: ∀p:Pl,p.Regs.length=11->p.Bytes.length<=512->je6 (n+3) 2 l a w.Live w.Bytes w.Least ps w.Regs i.Op i.Narrow i.Dst i.Src i.UseImm i.Off i.Imm i.Size m.Lo m.Hi k.Lo k.Hi true p.Live p.Bytes p.Least c true p.Regs=some (W l (zf9 ps [(a+1+i.Off,p)]) a w,.inl ()):=fun p h1 h2=>up5 l ps a w i m k hi ha hl hn hq ht n p true c true h1 h2;unfold qe3;by_cases hu:i.UseImm=true
  ·rw [if_pos hu,zk1 hu,jf5 w i.Dst r.1 (by omega),j4];exact fin (zo2 w i.Dst r.1) ((zf4 ..).1.trans hr) (by rw [(zf4 ..).2];exact hb)
  ·rw [if_neg hu];have hs:=hs.resolve_left hu;by_cases he:i.Src=i.Dst
   ·rw [if_pos he,show (i.Src != i.Dst)=false by rw [he];exact bne_self_eq_false _];rw [Bool.not_eq_true] at hu;rw [j6,zl6 hu];exact fin w hr hb
   ·rw [if_neg he,show (i.Src != i.Dst)=true from bne_iff_ne.2 he];rw [Bool.not_eq_true] at hu;rw [j8,zl6 hu,jf5 w i.Dst r.1 (by omega),j4];have l1:=(zf4 w i.Dst r.1).1;dsimp only;rw [jf5 (zo2 w i.Dst r.1) i.Src r.2.1 (by omega),j4];exact fin (zo2 (zo2 w i.Dst r.1) i.Src r.2.1) ((zf4 ..).1.trans (l1.trans hr)) (by rw [(zf4 ..).2,(zf4 ..).2];exact hb)
include ha1
theorem j3_v (n:Nat) (p:Pl) (c:Bool) (hp:p.Regs.length=11) (hpb:p.Bytes.length<=512):qh8 (n+6) 2 l a w.Live w.Bytes w.Least ps w.Regs i.Op i.Narrow i.Dst i.Src i.UseImm i.Off i.Imm i.Size m.Lo m.Hi k.Lo k.Hi c p.Live p.Bytes p.Least false true p.Regs=some (W l (zf9 (zu5 ps (a+1).toNat p) (ys6 w i m k true (a+1+i.Off))) a w,.inl ()):=by
 rw [kp6,gk2 l ps a w p (by omega) (by omega) hp hpb hq,j4];exact uy6 l _ a w i m k hi ha hl (by rw [jy6];exact hn) hr hb (gr9 hq _ hp) ht hd hs hm hk n false
omit hm hk in
theorem j0_v (n:Nat) (x y:Known) (hx:UOk x) (hy:UOk y): ∃w',kg5 (n+8) l a w.Live w.Bytes w.Least ps w.Regs i.Op i.Narrow i.Dst i.Src i.UseImm i.Off i.Imm i.Size x.Kind x.In_Lo x.In_Hi y.Kind y.In_Lo y.In_Hi=
  (let o:Out:=match yk3 w.Least x with
   | .inr e=>.inr e
   | .inl m=>match yk3 w.Least y with
    | .inr e=>.inr e
    | .inl n=>.inl (ys6 w i m n false (a+1)++ys6 w i m n true (a+1+i.Off))
  some (W l (zm8 ps o) a w',yv6 o)):=by
 have nu: ∀(x:Known) (s:q9),UOk x->yk3 w.Least x=.inl s->u9 s.Lo/\u9 s.Hi:=by
  intro x s hx h;unfold yk3 at h;split at h
  ·cases h
  ·split at h
   ·cases h;exact hx
   ·split at h
    ·cases h;refine ⟨?_,by show u9 (65535:Int);decide⟩;show u9 (IntKind.u64.wrap w.Least);rw [za4];omega
    ·cases h
 refine ⟨w,?_⟩;rw [kt2,show (⟨x.Kind,x.In_Lo,x.In_Hi⟩:Known)=x from rfl,show (⟨y.Kind,y.In_Lo,y.In_Hi⟩:Known)=y from rfl,yj6,j4];simp only [yj6,j4];cases h1:yk3 w.Least x with
 |inr e=>rfl
 |inl m=>
  have hm:=nu x m hx h1;simp only [toS];cases h2:yk3 w.Least y with
  |inr e=>rfl
  |inl k=>
   have hk:=nu y k hy h2;simp only [zm8,yv6];rw [we4 _ _ _ _ _ hm hk,j4,jb8]
   conv=>rhs;unfold ys6
   have j2:=uy6 l ps a w i m k hi ha hl hn hr hb hq ht hd hs hm hk (n+1) false;generalize ifE i.Op i.Narrow false m k=r;dsimp only;cases hc:r.2.2 with
   |false=>rw [Bool.not_false,j8,if_neg (by decide)];exact j2
   |true=>
    rw [Bool.not_true,j6,if_pos rfl,ye1 _ _ _ _ hr hb,j4];have fin: ∀p:Pl,p.Regs.length=11->p.Bytes.length<=512->qh8 (n+6) 2 l a w.Live w.Bytes w.Least ps w.Regs i.Op i.Narrow i.Dst i.Src i.UseImm i.Off i.Imm i.Size m.Lo m.Hi k.Lo k.Hi false p.Live p.Bytes p.Least false true p.Regs=some (W l (zf9 (zf9 ps [(a+1,p)]) (ys6 w i m k true (a+1+i.Off))) a w,.inl ()):=fun p q1 q2=>j3_v l ps a w i m k hi ha hl hn hr hb hq ht ha1 hd hs hm hk n p false q1 q2;unfold qe3;by_cases hu:i.UseImm=true
    ·rw [if_pos hu,zk1 hu,jf5 w i.Dst r.1 (by omega),j4];exact fin (zo2 w i.Dst r.1) ((zf4 ..).1.trans hr) (by rw [(zf4 ..).2];exact hb)
    ·rw [if_neg hu];have hs:=hs.resolve_left hu;by_cases he:i.Src=i.Dst
     ·rw [if_pos he,show (i.Src != i.Dst)=false by rw [he];exact bne_self_eq_false _];rw [Bool.not_eq_true] at hu;rw [j6,zl6 hu];exact fin w hr hb
     ·rw [if_neg he,show (i.Src != i.Dst)=true from bne_iff_ne.2 he];rw [Bool.not_eq_true] at hu;rw [j8,zl6 hu,jf5 w i.Dst r.1 (by omega),j4];have l1:=(zf4 w i.Dst r.1).1;dsimp only;rw [jf5 (zo2 w i.Dst r.1) i.Src r.2.1 (by omega),j4];exact fin (zo2 (zo2 w i.Dst r.1) i.Src r.2.1) ((zf4 ..).1.trans (l1.trans hr)) (by rw [(zf4 ..).2,(zf4 ..).2];exact hb)
omit hm hk in
theorem qx7 (hu: ∀j,UOk (w.Regs.getD j v8)): ∃w',qg v9 l ps a w.Live w.Regs w.Bytes w.Least i=some (W l (zm8 ps (ya0 w i a)) a w',yv6 (ya0 w i a)):=by
 obtain ⟨n,e⟩: ∃n:Nat,(v9:Nat)=n+8:=⟨999999992,rfl⟩;rw [un7,if_pos (by omega),jo6 l ps a w i hr hs,j4];have hp:=hu i.Dst.toNat;have hb':=vh9 hu i;unfold ya0;dsimp only;generalize w.Regs.getD i.Dst.toNat v8=p at hp⊢;generalize jg0 w.Regs i=b at hb'⊢;by_cases h0:p.Kind=0
 ·rw [show (p.Kind==0)=true from beq_iff_eq.2 h0,j8,zz7,j4,if_pos rfl,if_pos (c:=p.Kind=0\/b.Kind=0) (.inl h0)];exact ⟨w,rfl⟩
 rw [show (p.Kind==0)=false from beq_eq_false_iff_ne.2 h0,j6,zz7,j4];by_cases h1:b.Kind=0
 ·rw [if_pos (c:=p.Kind=0\/b.Kind=0) (.inr h1),show (b.Kind==0)=true from beq_iff_eq.2 h1];exact ⟨w,rfl⟩
 rw [if_neg (c:=p.Kind=0\/b.Kind=0) (fun h=>h.elim h0 h1),show (b.Kind==0)=false from beq_eq_false_iff_ne.2 h1];simp only [Bool.false_eq_true,if_false];rw [e];exact j0_v l ps a w i hi ha hl hn hr hb hq ht ha1 hd hs n p b hp hb'
end
end Go.Y
namespace Go.Y
open Go.RowKit Go.V Go.X Go.Proofs
def In (M:Int) (x:q9):Prop:=0<=x.Lo/\x.Lo<=x.Hi/\x.Hi<=M
theorem wg8 {M:Int} {s n:q9} (h:In M s):In M (woE s n):=by
 obtain ⟨h1,h2,h3⟩:=h;unfold woE;split
 ·exact ⟨h1,h2,h3⟩
 ·unfold In;dsimp only;split<;>split<;>omega
theorem qm6 {M:Int} {op:Int} (hop:17<=op/\op<=22) {u v x y:q9} (hu:In M u) (hv:In M v) (h:yp9 op u v=some (x,y)):In M x/\In M y:=by
 have gt: ∀u v x y:q9,In M u->In M v->gtE u v=some (x,y)->In M x/\In M y:=by
  intro u v x y hu hv h;unfold In at hu hv;unfold gtE at h;split at h
  ·simp only [X0,X7] at h;obtain ⟨rfl,rfl⟩:=h;unfold In;dsimp only;omega
  ·cases h
 have ge: ∀u v x y:q9,In M u->In M v->geE u v=some (x,y)->In M x/\In M y:=by
  intro u v x y hu hv h;unfold In at hu hv;unfold geE at h;split at h
  ·simp only [X0,X7] at h;obtain ⟨rfl,rfl⟩:=h;unfold In;dsimp only;omega
  ·cases h
 have sw: ∀(o:Option (q9×q9)),(∀x y,o=some (x,y)->In M x/\In M y)-> ∀x y,jd6 o=some (x,y)->In M x/\In M y:=by
  intro o ho x y h;cases o with
  |none=>cases h
  |some p=>
   simp only [jd6,Z8,X0,X7] at h;obtain ⟨rfl,rfl⟩:=h;exact ⟨(ho p.1 p.2 rfl).2,(ho p.1 p.2 rfl).1⟩
 have hh:op=17\/op=18\/op=19\/op=20\/op=21\/op=22:=by omega
 rcases hh with rfl|rfl|rfl|rfl|rfl|rfl
 ·have h:(if max u.Lo v.Lo<=min u.Hi v.Hi then some ((⟨max u.Lo v.Lo,min u.Hi v.Hi⟩:q9),(⟨max u.Lo v.Lo,min u.Hi v.Hi⟩:q9)) else none)=some (x,y):=h;unfold In at hu hv;split at h
  ·simp only [X0,X7] at h;obtain ⟨rfl,rfl⟩:=h;unfold In;dsimp only;omega
  ·cases h
 ·have h:(if u.Lo=u.Hi/\v.Lo=v.Hi/\u.Lo=v.Lo then none else some (woE u v,woE v u))=some (x,y):=h;split at h
  ·cases h
  ·simp only [X0,X7] at h;obtain ⟨rfl,rfl⟩:=h;exact ⟨wg8 hu,wg8 hv⟩
 ·exact gt u v x y hu hv h
 ·exact ge u v x y hu hv h
 ·exact sw (gtE v u) (fun x y e=>gt v u x y hv hu e) x y h
 ·exact sw (geE v u) (fun x y e=>ge v u x y hv hu e) x y h
theorem ue3 {M:Int} {op:Int} (hop:17<=op/\op<=27) {nw yes:Bool} {u v x y:q9} (hu:In M u) (hv:In M v) (h:kj1 nw op yes u v=some (x,y)):In M x/\In M y:=by
 have same:some (u,v)=some (x,y)->In M x/\In M y:=by
  intro e;simp only [X0,X7] at e;obtain ⟨rfl,rfl⟩:=e;exact ⟨hu,hv⟩
 unfold kj1 at h;by_cases h27:op=27
 ·rw [if_pos h27] at h;unfold yc8 at h;split at h
  ·split at h
   ·cases h
   ·exact same h
  ·split at h
   ·simp only [X0,X7] at h;obtain ⟨rfl,rfl⟩:=h;unfold In at hu hv⊢;dsimp only;omega
   ·cases h
 ·rw [if_neg h27] at h;have ho:=kb6 (op:=op) (by omega);have hq:17<=(if yes=true then op else jg7 op)/\(if yes=true then op else jg7 op)<=26:=by split<;>omega
  generalize (if yes=true then op else jg7 op)=o at *;split at h
  ·unfold yx6 at h;split at h
   ·exact same h
   ·split at h
    ·exact qm6 (by omega) hu hv h
    ·split at h
     ·exact same h
     ·cases h
  ·exact qm6 (by omega) hu hv h
theorem ux0 (op:Int) (nw yes:Bool) {a b:q9} (ha:u9 a.Lo/\u9 a.Hi) (hb:u9 b.Lo/\u9 b.Hi):(u9 (ifE op nw yes a b).1.Lo/\u9 (ifE op nw yes a b).1.Hi)/\u9 (ifE op nw yes a b).2.1.Lo/\u9 (ifE op nw yes a b).2.1.Hi:=by
 unfold ifE;split
 ·rename_i h;have hu:=zv7 (nw:=nw) ha h.2.1;have hv:=zv7 (nw:=nw) hb h.2.2;have hM:=zw4 nw;unfold qa3;cases hx:kj1 nw op yes (qf a nw) (qf b nw) with
  |none=>exact ⟨⟨by show u9 (0:Int);decide,by show u9 (0:Int);decide⟩,by show u9 (0:Int);decide,by show u9 (0:Int);decide⟩
  |some x=>
   obtain ⟨x,y⟩:=x;obtain ⟨i1,i2⟩:=ue3 (M:=g9 nw) h.1 ⟨hu.lo,hu.le,hu.hi⟩ ⟨hv.lo,hv.le,hv.hi⟩ hx;unfold In at i1 i2;dsimp only;constructor
   ·split
    ·exact ha
    ·omega
   ·split
    ·exact hb
    ·omega
 ·exact ⟨ha,hb⟩
structure PlOk (p:Pl):Prop where
 regs:p.Regs.length=11
 bytes:p.Bytes.length=512
 u: ∀k,UOk (p.Regs.getD k v8)
def AllOk (ps:List Pl):Prop:= ∀k,(ps.getD k v6).Live=true->PlOk (ps.getD k v6)
theorem AllOk.q {ps:List Pl} (h:AllOk ps):QOk ps:=fun k hk=>(h k hk).regs
theorem jy2 (rs:List Known) (k j:Nat) (x:Known):(rs.set k x).getD j v8=if k=j/\j<rs.length then x else rs.getD j v8:=by
 rw [Y2,Y2,List.getElem?_set];by_cases h:k=j
 ·subst h;by_cases hl:k<rs.length
  ·rw [if_pos rfl,if_pos hl,if_pos ⟨rfl,hl⟩];rfl
  ·rw [if_pos rfl,if_neg hl,if_neg (fun h=>hl h.2),Y5 (by omega)]
 ·rw [if_neg h,if_neg (fun h2=>h h2.1)]
theorem kh5 {rs:List Known} (h: ∀k,UOk (rs.getD k v8)) {x:Known} (hx:UOk x) (k:Nat): ∀j,UOk ((rs.set k x).getD j v8):=by
 intro j;rw [jy2];split
 ·exact hx
 ·exact h j
theorem uy3 {q p:List Known} (hq: ∀k,UOk (q.getD k v8)) (hp: ∀k,UOk (p.getD k v8)): ∀n k,UOk ((jr q p n).getD k v8)
 |0,k=>hq k
 |n+1,k=>by
  rw [jr];exact kh5 (uy3 hq hp n) (show UOk (gf2 (q.getD n v8) (p.getD n v8)) from gs6 (a:=tk _) (b:=tk _) (hq n) (hp n)) n k
theorem ka9 {a b:List Bool} (ha:a.length=512) (hb:b.length=512):(vh1 a b).length=512:=by
 unfold vh1;rw [if_pos ⟨ha,hb⟩,yy8,Z9]
theorem km5 {ps:List Pl} (h:AllOk ps) (k:Nat) {p:Pl} (hp:PlOk p):AllOk (zu5 ps k p):=by
 intro j hj;unfold zu5 at hj⊢;split at hj
 ·rename_i hl;rw [if_pos hl];rw [zv3] at hj⊢;have q:=h k hl;split
  ·exact ⟨(je1 ..).trans q.regs,ka9 q.bytes hp.bytes,uy3 q.u hp.u 11⟩
  ·rename_i hn;rw [if_neg hn] at hj;exact h j hj
 ·rename_i hl;rw [if_neg hl];rw [zv3] at hj⊢;split
  ·exact hp
  ·rename_i hn;rw [if_neg hn] at hj;exact h j hj
def qc6 (ts:List (Int×Pl)):Prop:= ∀x∈ts,PlOk x.2
theorem yr8: ∀(ts:List (Int×Pl)) {ps:List Pl},AllOk ps->qc6 ts->AllOk (zf9 ps ts)
 | [],_,h,_=>h
 |x::r,_,h,ht=>yr8 r (km5 h _ (ht x (by simp))) fun y hy=>ht y (by simp [hy])
theorem yi8: ∀(ts:List (Int×Pl)) (ps:List Pl),(zf9 ps ts).length=ps.length
 | [],_=>rfl
 |x::r,ps=>(yi8 r _).trans (jy6 ..)
theorem jm0 {p:Pl} (h:PlOk p) (r:Int) {s:q9} (hs:u9 s.Lo/\u9 s.Hi):PlOk (zo2 p r s):=by
 refine ⟨(zf4 ..).1.trans h.regs,by rw [(zf4 ..).2];exact h.bytes,?_⟩;unfold zo2;split
 ·exact kh5 h.u (show UOk ⟨_,s.Lo,s.Hi⟩ from hs) _
 ·exact h.u
theorem gn9 {w:Pl} (h:PlOk w) (i:Ins) {x y:q9} (hx:u9 x.Lo/\u9 x.Hi) (hy:u9 y.Lo/\u9 y.Hi):PlOk (qe3 w i x y):=by
 unfold qe3;split
 ·exact jm0 h _ hx
 ·split
  ·exact h
  ·exact jm0 (jm0 h _ hx) _ hy
theorem qh7 {least:Int} {x:Known} {s:q9} (hx:UOk x) (h:yk3 least x=.inl s):u9 s.Lo/\u9 s.Hi:=by
 unfold yk3 at h;split at h
 ·cases h
 ·split at h
  ·cases h;exact hx
  ·split at h
   ·cases h;refine ⟨?_,by show u9 (65535:Int);decide⟩;show u9 (IntKind.u64.wrap least);rw [za4];omega
   ·cases h
theorem vr2 {w:Pl} (h:PlOk w) (i:Ins) {m n:q9} (hm:u9 m.Lo/\u9 m.Hi) (hn:u9 n.Lo/\u9 n.Hi) (yes:Bool) (t:Int):qc6 (ys6 w i m n yes t):=by
 have hu:=ux0 i.Op i.Narrow yes hm hn;unfold ys6;split
 ·intro x hx;rw [Q4] at hx;subst hx;exact gn9 h i hu.1 hu.2
 ·intro x hx;cases hx
theorem vv6 {w:Pl} (h:PlOk w) (i:Ins) (a:Int) {ts:List (Int×Pl)} (e:ya0 w i a=.inl ts):qc6 ts:=by
 unfold ya0 at e;dsimp only at e;split at e
 ·cases e
 ·split at e
  ·cases e
  ·rename_i m hm;split at e
   ·cases e
   ·rename_i n hn;cases e;intro x hx;rw [X4] at hx;rcases hx with hx|hx
    ·exact vr2 h i (qh7 (h.u _) hm) (qh7 (vh9 h.u i) hn) _ _ x hx
    ·exact vr2 h i (qh7 (h.u _) hm) (qh7 (vh9 h.u i) hn) _ _ x hx
theorem gv8 {s:Int} (h:zg6 s=true):UOk (jd4 s):=by
 unfold zg6 at h;simp only [Bool.or_eq_true,beq_iff_eq] at h;rcases h with rfl|rfl|rfl|rfl<;>exact ⟨by decide,by decide⟩
theorem wc4 {w:Pl} (h:PlOk w) (i:Ins) (a:Int) (hz:zg6 i.Size=true) {ts:List (Int×Pl)} (e:jh9 w i a=.inl ts):qc6 ts:=by
 unfold jh9 at e;split at e
 ·cases e;intro x hx;rw [Q4] at hx;subst hx;exact ⟨(Q1 ..).trans h.regs,h.bytes,kh5 h.u (gv8 hz) _⟩
 ·cases e
theorem ku2 {b:List Bool} {x z:Int} (h:(qb3 b x z).2=0):(qb3 b x z).1.length=b.length:=by
 unfold qb3 at h⊢;split
 ·exact yz0 ..
 ·rename_i hn;rw [if_neg hn] at h;exact absurd h hn
theorem wr8 {w:Pl} (h:PlOk w) (i:Ins) (a:Int) {ts:List (Int×Pl)} (e:kx5 w i a=.inl ts):qc6 ts:=by
 unfold kx5 at e;dsimp only at e;split at e
 ·cases e
 ·split at e
  ·cases e
  ·split at e
   ·cases e
   ·split at e
    ·cases e
    ·split at e
     ·rename_i h0;cases e;intro x hx;rw [Q4] at hx;subst hx;exact ⟨h.regs,(ku2 h0).trans h.bytes,h.u⟩
     ·cases e
theorem up0 {op:Int} {nw:Bool} {x y:Known} (hx:UOk x) (hy:UOk y):UOk (doK op nw x y).1:=un8 (op:=op) (nw:=nw) (a:=tk x) (b:=tk y) hx hy
theorem kd1 {w:Pl} (h:PlOk w) (i:Ins) (a:Int) {ts:List (Int×Pl)} (e:zs2 w i a=.inl ts):qc6 ts:=by
 have hb:UOk (if i.Op=13 then ⟨0,0,0⟩ else jg0 w.Regs i):=by
  split
  ·exact ⟨by show u9 (0:Int);decide,by show u9 (0:Int);decide⟩
  ·exact vh9 h.u i
 have hd:=up0 (op:=i.Op) (nw:=i.Narrow) (h.u i.Dst.toNat) hb;unfold zs2 at e;dsimp only at e;generalize doK i.Op i.Narrow (w.Regs.getD i.Dst.toNat v8) (if i.Op=13 then ⟨0,0,0⟩ else jg0 w.Regs i)=r at e hd;by_cases h0:r.2=0
 ·rw [if_pos h0] at e;cases e;intro x hx;rw [Q4] at hx;subst hx;exact ⟨(Q1 ..).trans h.regs,h.bytes,kh5 h.u hd _⟩
 ·rw [if_neg h0] at e;cases e
def yx9 (w:Pl) (i:Ins) (a:Int):Out:=if i.Op=14 then jh9 w i a else if i.Op=15 then kx5 w i a else if i.Op=16 then kh6 w i a else if i.Op=28 then jt7 w else if i.Op<=13 then zs2 w i a else ya0 w i a
theorem ge5 {w:Pl} (h:PlOk w) {i:Ins} (hr:zd3 i=true) (a:Int) {ts:List (Int×Pl)} (e:yx9 w i a=.inl ts):qc6 ts:=by
 unfold yx9 at e;split at e
 ·rename_i h14;refine wc4 h i a ?_ e;unfold zd3 at hr;rw [if_neg (by omega),if_neg (by omega),if_pos h14] at hr;simp only [X3] at hr;exact hr.2.2.2.1
 ·split at e
  ·exact wr8 h i a e
  ·split at e
   ·cases e;intro x hx;rw [Q4] at hx;subst hx;exact h
   ·split at e
    ·unfold jt7 at e;split at e
     ·cases e;intro x hx;cases hx
     ·cases e
    ·split at e
     ·exact kd1 h i a e
     ·exact vv6 h i a e
end Go.Y
namespace Go.Y
open Go.RowKit Go.V Go.X Go.Proofs
def zi6 (l:List Ins):Nat->Nat->List Pl->List Pl×Fault
 |0,_,ps=>(ps,⟨0,0⟩)
 |m+1,k,ps=>if (ps.getD k v6).Live=true then (match yx9 (ps.getD k v6) (l.getD k zb2) (k:Int) with
   | .inl ts=>zi6 l m (k+1) (zf9 ps ts)
   | .inr e=>([],⟨e,(k:Int)⟩))
  else zi6 l m (k+1) ps
theorem vb4 (ps:List Pl) (k:Nat):ps.set k (ps.getD k v6)=ps:=by
 apply List.ext_getElem?;intro j;rw [List.getElem?_set];by_cases h:k=j
 ·subst h;by_cases hl:k<ps.length
  ·rw [if_pos rfl,if_pos hl,Y2,Y0 hl];rfl
  ·rw [if_pos rfl,if_neg hl,Y5 (by omega)]
 ·rw [if_neg h]
theorem vj6 {i:Ins} (h:zk8 i=true):i.UseImm=true\/0<=i.Src/\i.Src<=10:=by
 unfold zk8 at h;split at h
 ·rename_i hu;exact .inl hu
 ·simp only [X3,ya6,decide_eq_true_eq] at h;exact .inr h.1
theorem jf1 {x m:Int} (h:ya6 x m=true):0<=x/\x<=m:=by
 simp only [ya6,X3,decide_eq_true_eq] at h;exact h
structure InsOk (l:List Ins) (k:Nat) (i:Ins):Prop where
 op:1<=i.Op/\i.Op<=28
 dst:0<=i.Dst/\i.Dst<=10
 sec:i.Op≠14->i.UseImm=true\/0<=i.Src/\i.Src<=10
 src:i.Op=14->(0<=i.Src/\i.Src<=10)/\zg6 i.Size=true
 next:i.Op≠28->i.Op≠16->k+1<l.length
 far:i.Op=16\/(17<=i.Op/\i.Op<=27)->0<=i.Off/\(k:Int)+1+i.Off<l.length
theorem we9 {l:List Ins} (h:Okay l) {k:Nat} (hk:k<l.length):InsOk l k (l.getD k zb2)/\zd3 (l.getD k zb2)=true:=by
 have hr:=jo8 (h.z1 k hk);have ho:=yy4 _ hr;have h2:=h.z2 k hk;have h3:=h.z3 k hk;unfold c2 kg1 at h2;unfold c3 at h3;generalize l.getD k zb2=i at hr ho h2 h3;refine ⟨⟨ho.2.2,?_,?_,?_,?_,?_⟩,hr⟩
 ·unfold zd3 at hr;split at hr
  ·simp only [X3] at hr;have:=jf1 hr.1;omega
  ·split at hr
   ·simp only [X3] at hr;have:=jf1 hr.1;omega
   ·split at hr
    ·simp only [X3] at hr;have:=jf1 hr.1;omega
    ·split at hr
     ·simp only [X3] at hr;exact jf1 hr.1
     ·split at hr
      ·simp only [X3,beq_iff_eq] at hr;omega
      ·split at hr
       ·simp only [X3] at hr;exact jf1 hr.1
       ·simp only [X3,beq_iff_eq] at hr;omega
 ·intro h14;unfold zd3 at hr;split at hr
  ·simp only [X3] at hr;exact vj6 hr.2.1
  ·split at hr
   ·simp only [X3,beq_iff_eq] at hr;omega
   ·split at hr
    ·simp only [X3] at hr;exact vj6 hr.2.2.2.1
    ·split at hr
     ·simp only [X3,beq_iff_eq] at hr;omega
     ·split at hr
      ·simp only [X3] at hr;exact vj6 hr.2.2.1
      ·simp only [X3,beq_iff_eq] at hr;omega
 ·intro h14;unfold zd3 at hr;rw [if_neg (by omega),if_neg (by omega),if_pos h14] at hr;simp only [X3] at hr;exact ⟨jf1 hr.2.1,hr.2.2.2.1⟩
 ·intro h28 h16;by_cases he:k+1=l.length
  ·rw [if_pos ⟨he,h28,h16⟩] at h3;exact absurd h3 (by decide)
  ·omega
 ·intro hj;rw [if_pos (by simp only [X3,decide_eq_true_eq];omega)] at h2;split at h2
  ·exact absurd h2 (by decide)
  ·split at h2
   ·exact absurd h2 (by decide)
   ·omega
def vg5 (x:List Pl×Fault):Option (Unit×(List Pl×Fault×Unit)):=some ((),(x.1,x.2,()))
theorem kr7 (n m:Nat) (l:List Ins) (hok:Okay l) (k:Nat) (hk:k<l.length) (ps:List Pl) (hn:ps.length=l.length) (hA:AllOk ps) (lv:Bool) (bs:List Bool) (le:Int) (rs:List Known)
  (hJ: ∀(ps2:List Pl) (w:Pl),ps2.length=l.length->AllOk ps2->zu3 n l 0 0 l (k:Int) w.Live w.Bytes w.Least [] ps2 w.Regs=vg5 (zi6 l m (k+1) ps2)):
  qf4 (n+1) l 0 0 l (k:Int) lv bs le [] ps rs=vg5 (zi6 l (m+1) k ps):=by
 have hl:=hok.len;obtain ⟨hi,hright⟩:=we9 hok hk;rw [ju4,W3 (by omega),j8,if_pos (by omega),if_pos (by omega),Z1]
 conv=>rhs;rw [zi6]
 by_cases hlv:(ps.getD k v6).Live=true
 case neg=>
  rw [if_neg hlv,zl6 (by simpa using hlv)];exact hJ ps ⟨lv,rs,bs,le⟩ hn hA
 rw [if_pos hlv,zk1 hlv];have hw:=hA k hlv;have hset:=vb4 ps k;rw [if_pos (by omega),if_pos (by omega)];generalize hwd:ps.getD k v6=w at hw hset hlv⊢;rw [ye1 _ _ _ _ hw.regs (by rw [hw.bytes];exact Nat.le_refl _),j4,if_pos (by omega)];dsimp only;rw [show ps.set k (⟨w.Live,w.Regs,w.Bytes,w.Least⟩:Pl)=ps from hset];generalize hid:l.getD k zb2=i at hi hright⊢;have fin: ∀(o:Out) (w2:Pl),(∀ts,o=.inl ts->qc6 ts)->(match (((W l (zm8 ps o) (k:Int) w2:PW),yv6 o):PW×(Unit⊕(Int×Unit))).2 with
   | .inl _=>(zu3 n l 0 0 (W l (zm8 ps o) (k:Int) w2).1.1 (W l (zm8 ps o) (k:Int) w2).1.2.2.1 (W l (zm8 ps o) (k:Int) w2).1.2.2.2.1 (W l (zm8 ps o) (k:Int) w2).1.2.2.2.2.2.1 (W l (zm8 ps o) (k:Int) w2).1.2.2.2.2.2.2.1 [] (W l (zm8 ps o) (k:Int) w2).2.1 (W l (zm8 ps o) (k:Int) w2).2.2.1)
   | .inr e3=>(j7 (qbj (W l (zm8 ps o) (k:Int) w2).1.1 (W l (zm8 ps o) (k:Int) w2).2.1 (W l (zm8 ps o) (k:Int) w2).1.2.2.1 (W l (zm8 ps o) (k:Int) w2).1.2.2.2.1 (W l (zm8 ps o) (k:Int) w2).2.2.1 (W l (zm8 ps o) (k:Int) w2).1.2.2.2.2.2.1 (W l (zm8 ps o) (k:Int) w2).1.2.2.2.2.2.2.1 [] 0 0 e3.1) fun y4=>
   some ((),(([]:List Pl),(⟨y4.2.2.2.2.2.2.1.1,y4.2.2.2.2.2.2.1.2.1⟩:Fault),()))))=vg5 (match o with| .inl ts=>zi6 l m (k+1) (zf9 ps ts)| .inr e=>([],⟨e,(k:Int)⟩)):=by
  intro o w2 ho;cases o with
  |inl ts=>exact hJ (zf9 ps ts) w2 ((yi8 ..).trans hn) (yr8 ts hA (ho ts rfl))
  |inr e=>
   show j7 (qbj _ _ _ _ _ _ _ _ _ _ _) _=_;rw [gb8,j4];rfl
 have hb:w.Bytes.length<=512:=by rw [hw.bytes];exact Nat.le_refl _
 have hout: ∀ts,yx9 w i (k:Int)=.inl ts->qc6 ts:=fun ts=>ge5 hw hright (k:Int);unfold yx9 at hout⊢;by_cases h14:i.Op=14
 ·rw [if_pos h14] at hout⊢;rw [W3 h14,j8,gc9,if_pos h14,j4,if_pos (by omega)];obtain ⟨w2,e⟩:=gd2 l ps (k:Int) w i (by have:=hi.next (by omega) (by omega);omega) (by omega) hw.regs hb hA.q hi.dst (hi.src h14).1 (hi.src h14).2;rw [e,j4];exact fin _ w2 hout
 rw [if_neg h14] at hout⊢;rw [W4 h14,j6];by_cases h15:i.Op=15
 ·rw [if_pos h15] at hout⊢;rw [zk1 (by simp [h15]),gd4,if_neg h14,if_pos h15,j4,if_pos (by omega)];obtain ⟨w2,e⟩:=wg2 l ps (k:Int) w i (by have:=hi.next (by omega) (by omega);omega) (by omega) hw.regs hb hA.q hi.dst (hi.sec h14);rw [e,j4];exact fin _ w2 hout
 rw [if_neg h15] at hout⊢;rw [zl6 (by simp [h15])];by_cases h16:i.Op=16
 ·rw [if_pos h16] at hout⊢;rw [zk1 (by simp [h16]),gb6,if_neg h14,if_neg h15,if_pos h16,j4,if_pos (by omega)];have hf:=hi.far (.inl h16);rw [ky8 l ps (k:Int) w i (by rw [Z1];exact hid) (by omega) (by omega) hl (by omega) hw.regs hb hA.q,j4];exact fin (kh6 w i (k:Int)) w hout
 rw [if_neg h16] at hout⊢;rw [zl6 (by simp [h16])];by_cases h28:i.Op=28
 ·rw [if_pos h28] at hout⊢;rw [zk1 (by simp [h28]),ge2,if_neg h14,if_neg h15,if_neg h16,if_pos h28,j4,if_pos (by omega),ge7 l ps (k:Int) w i hw.regs,j4];exact fin _ w hout
 rw [if_neg h28] at hout⊢;rw [zl6 (by simp [h28])];have hnx:=hi.next h28 h16;by_cases h13:i.Op<=13
 ·rw [if_pos h13] at hout⊢;rw [zk1 (by simp [h14,h15,h16,h28,h13]),kz5,if_neg h14,if_neg h15,if_neg h16,if_neg h28,W3 h13,j8,j4,if_pos (by omega)];obtain ⟨w2,e⟩:=qs7 l ps (k:Int) w i (by omega) (by omega) hw.regs hb hA.q hw.u hi.dst (hi.sec h14);rw [e,j4];exact fin _ w2 hout
 rw [if_neg h13] at hout⊢;rw [zl6 (by simp [h13]),gc8,if_neg h14,if_neg h15,if_neg h16,if_neg h28,W4 h13,j6,j4,if_pos (by omega)];have hf:=hi.far (.inr (by have:=hi.op;omega));obtain ⟨w2,e⟩:=qx7 l ps (k:Int) w i (by rw [Z1];exact hid) (by omega) hl hn hw.regs hb hA.q (by omega) (by omega) hi.dst (hi.sec h14) hw.u;rw [e,j4];exact fin _ w2 hout
theorem gy5 (n m:Nat) (l:List Ins) (hok:Okay l) (k:Nat) (hk:k<l.length) (ps:List Pl) (hn:ps.length=l.length) (hA:AllOk ps) (lv:Bool) (le:Int) (rs:List Known) (bs:List Bool) (hlv:(ps.getD k v6).Live=true)
  (hJ: ∀(ps2:List Pl) (w:Pl),ps2.length=l.length->AllOk ps2->zu3 n l 0 0 l (k:Int) w.Live w.Bytes w.Least [] ps2 w.Regs=vg5 (zi6 l m (k+1) ps2)):
  kg9 (n+1) l 0 0 l (k:Int) lv le ps [] rs bs=vg5 (zi6 l (m+1) k ps):=by
 have hl:=hok.len;obtain ⟨hi,hright⟩:=we9 hok hk;rw [kv7,W3 (by omega),j8,if_pos (by omega),if_pos (by omega),Z1]
 conv=>rhs;rw [zi6]
 rw [if_pos hlv,zk1 hlv];have hw:=hA k hlv;have hset:=vb4 ps k;rw [if_pos (by omega),if_pos (by omega)];generalize hwd:ps.getD k v6=w at hw hset hlv⊢;rw [ye1 _ _ _ _ hw.regs (by rw [hw.bytes];exact Nat.le_refl _),j4,if_pos (by omega)];dsimp only;rw [show ps.set k (⟨w.Live,w.Regs,w.Bytes,w.Least⟩:Pl)=ps from hset];generalize hid:l.getD k zb2=i at hi hright⊢;have fin: ∀(o:Out) (w2:Pl),(∀ts,o=.inl ts->qc6 ts)->(match (((W l (zm8 ps o) (k:Int) w2:PW),yv6 o):PW×(Unit⊕(Int×Unit))).2 with
   | .inl _=>(zu3 n l 0 0 (W l (zm8 ps o) (k:Int) w2).1.1 (W l (zm8 ps o) (k:Int) w2).1.2.2.1 (W l (zm8 ps o) (k:Int) w2).1.2.2.2.1 (W l (zm8 ps o) (k:Int) w2).1.2.2.2.2.2.1 (W l (zm8 ps o) (k:Int) w2).1.2.2.2.2.2.2.1 [] (W l (zm8 ps o) (k:Int) w2).2.1 (W l (zm8 ps o) (k:Int) w2).2.2.1)
   | .inr e3=>(j7 (qbj (W l (zm8 ps o) (k:Int) w2).1.1 (W l (zm8 ps o) (k:Int) w2).2.1 (W l (zm8 ps o) (k:Int) w2).1.2.2.1 (W l (zm8 ps o) (k:Int) w2).1.2.2.2.1 (W l (zm8 ps o) (k:Int) w2).2.2.1 (W l (zm8 ps o) (k:Int) w2).1.2.2.2.2.2.1 (W l (zm8 ps o) (k:Int) w2).1.2.2.2.2.2.2.1 [] 0 0 e3.1) fun y4=>
   some ((),(([]:List Pl),(⟨y4.2.2.2.2.2.2.1.1,y4.2.2.2.2.2.2.1.2.1⟩:Fault),()))))=vg5 (match o with| .inl ts=>zi6 l m (k+1) (zf9 ps ts)| .inr e=>([],⟨e,(k:Int)⟩)):=by
  intro o w2 ho;cases o with
  |inl ts=>exact hJ (zf9 ps ts) w2 ((yi8 ..).trans hn) (yr8 ts hA (ho ts rfl))
  |inr e=>
   show j7 (qbj _ _ _ _ _ _ _ _ _ _ _) _=_;rw [gb8,j4];rfl
 have hb:w.Bytes.length<=512:=by rw [hw.bytes];exact Nat.le_refl _
 have hout: ∀ts,yx9 w i (k:Int)=.inl ts->qc6 ts:=fun ts=>ge5 hw hright (k:Int);unfold yx9 at hout⊢;by_cases h14:i.Op=14
 ·rw [if_pos h14] at hout⊢;rw [W3 h14,j8,gc9,if_pos h14,j4,if_pos (by omega)];obtain ⟨w2,e⟩:=gd2 l ps (k:Int) w i (by have:=hi.next (by omega) (by omega);omega) (by omega) hw.regs hb hA.q hi.dst (hi.src h14).1 (hi.src h14).2;rw [e,j4];exact fin _ w2 hout
 rw [if_neg h14] at hout⊢;rw [W4 h14,j6];by_cases h15:i.Op=15
 ·rw [if_pos h15] at hout⊢;rw [zk1 (by simp [h15]),gd4,if_neg h14,if_pos h15,j4,if_pos (by omega)];obtain ⟨w2,e⟩:=wg2 l ps (k:Int) w i (by have:=hi.next (by omega) (by omega);omega) (by omega) hw.regs hb hA.q hi.dst (hi.sec h14);rw [e,j4];exact fin _ w2 hout
 rw [if_neg h15] at hout⊢;rw [zl6 (by simp [h15])];by_cases h16:i.Op=16
 ·rw [if_pos h16] at hout⊢;rw [zk1 (by simp [h16]),gb6,if_neg h14,if_neg h15,if_pos h16,j4,if_pos (by omega)];have hf:=hi.far (.inl h16);rw [ky8 l ps (k:Int) w i (by rw [Z1];exact hid) (by omega) (by omega) hl (by omega) hw.regs hb hA.q,j4];exact fin (kh6 w i (k:Int)) w hout
 rw [if_neg h16] at hout⊢;rw [zl6 (by simp [h16])];by_cases h28:i.Op=28
 ·rw [if_pos h28] at hout⊢;rw [zk1 (by simp [h28]),ge2,if_neg h14,if_neg h15,if_neg h16,if_pos h28,j4,if_pos (by omega),ge7 l ps (k:Int) w i hw.regs,j4];exact fin _ w hout
 rw [if_neg h28] at hout⊢;rw [zl6 (by simp [h28])];have hnx:=hi.next h28 h16;by_cases h13:i.Op<=13
 ·rw [if_pos h13] at hout⊢;rw [zk1 (by simp [h14,h15,h16,h28,h13]),kz5,if_neg h14,if_neg h15,if_neg h16,if_neg h28,W3 h13,j8,j4,if_pos (by omega)];obtain ⟨w2,e⟩:=qs7 l ps (k:Int) w i (by omega) (by omega) hw.regs hb hA.q hw.u hi.dst (hi.sec h14);rw [e,j4];exact fin _ w2 hout
 rw [if_neg h13] at hout⊢;rw [zl6 (by simp [h13]),gc8,if_neg h14,if_neg h15,if_neg h16,if_neg h28,W4 h13,j6,j4,if_pos (by omega)];have hf:=hi.far (.inr (by have:=hi.op;omega));obtain ⟨w2,e⟩:=qx7 l ps (k:Int) w i (by rw [Z1];exact hid) (by omega) hl hn hw.regs hb hA.q (by omega) (by omega) hi.dst (hi.sec h14) hw.u;rw [e,j4];exact fin _ w2 hout
theorem gb5 (l:List Ins) (hok:Okay l): ∀(m k n:Nat) (ps:List Pl) (lv:Bool) (bs:List Bool) (le:Int) (rs:List Known),k+m=l.length->2*m+1<=n->ps.length=l.length->AllOk ps->qf4 n l 0 0 l (k:Int) lv bs le [] ps rs=vg5 (zi6 l m k ps)
 |0,k,n,ps,lv,bs,le,rs,hk,hn,hp,hA=>by
  obtain ⟨n,rfl⟩: ∃j,n=j+1:=⟨n-1,by omega⟩;rw [ju4,W4 (by omega),j6,wv8,j4];rfl
 |m+1,k,n,ps,lv,bs,le,rs,hk,hn,hp,hA=>by
  obtain ⟨n,rfl⟩: ∃j,n=j+1+1:=⟨n-2,by omega⟩;have hl:=hok.len;refine kr7 (n+1) m l hok k (by omega) ps hp hA lv bs le rs fun ps2 w h1 h2=>?_;rw [qw7,nx (k:=k) (len:=l.length) (by omega) (by omega)];exact gb5 l hok m (k+1) n ps2 w.Live w.Bytes w.Least w.Regs (by omega) (by omega) h1 h2
def startP:Pl:=⟨true,[⟨0,0,0⟩,⟨2,0,0⟩,⟨4,0,0⟩,⟨0,0,0⟩,⟨0,0,0⟩,⟨0,0,0⟩,⟨0,0,0⟩,⟨0,0,0⟩,⟨0,0,0⟩,⟨0,0,0⟩,⟨3,0,0⟩],List.replicate 512 false,0⟩
theorem gx8:qdi v9=some ((),((startP.Live,startP.Regs,startP.Bytes,startP.Least,()),())):=by
 rw [wq6,uq0];kernel_rfl
theorem ks2:PlOk startP:=by
 refine ⟨rfl,Z9 ..,fun k=>?_⟩;unfold UOk startP;dsimp only;rcases Nat.lt_or_ge k 11 with h|h
 ·have:k=0\/k=1\/k=2\/k=3\/k=4\/k=5\/k=6\/k=7\/k=8\/k=9\/k=10:=by omega
  rcases this with rfl|rfl|rfl|rfl|rfl|rfl|rfl|rfl|rfl|rfl|rfl<;>decide
 ·rw [Y2,Y5 (by simpa using h)];decide
def zt3 (l:List Ins):List Pl:=(List.replicate l.length v6).set 0 startP
def ze1 (l:List Ins):List Pl×Fault:=if (zz3 l).Err=0 then zi6 l l.length 0 (zt3 l) else ([],zz3 l)
theorem kr3 (l:List Ins):AllOk (zt3 l):=by
 intro k hk;unfold zt3 at hk⊢;rw [zv3] at hk⊢;split
 ·exact ks2
 ·rename_i hn;rw [if_neg hn] at hk;rw [Y2,List.getElem?_replicate] at hk;split at hk<;>exact absurd hk (by decide)
theorem qy2 (l:List Ins):qe v9 l=vg5 (ze1 l):=by
 rw [uv8,wd8,j4];unfold ze1;by_cases he:(zz3 l).Err=0
 ·have hok:=we3 he;have hl:=hok.len;have hp:=hok.pos;rw [if_pos he,show ((zz3 l).Err != 0)=false by rw [he];rfl,j6,if_pos (by omega),gx8,j4,Z1,if_pos (by rw [Z9];omega),if_pos (by rw [Z9];omega)];show kg9 v9 l 0 0 l ((0:Nat):Int) false 0 (zt3 l) [] [] []=_;obtain ⟨n,e⟩: ∃n:Nat,(v9:Nat)=n+1+1:=⟨999999998,rfl⟩;have hn:999999998=n:=by unfold v9 at e;omega
  obtain ⟨m,hm⟩: ∃m,l.length=m+1:=⟨l.length-1,by omega⟩;have hf:(zt3 l).length=l.length:=by unfold zt3;rw [Q1,Z9]
  rw [e,hm];refine gy5 (n+1) m l hok 0 hp (zt3 l) hf (kr3 l) false 0 [] [] ?_ fun ps2 w h1 h2=>?_
  ·unfold zt3;rw [zv3,if_pos ⟨rfl,by rw [Z9];exact hp⟩];rfl
  ·rw [qw7,nx (k:=0) (len:=l.length) (by omega) (by omega)];exact gb5 l hok m 1 n ps2 w.Live w.Bytes w.Least w.Regs (by omega) (by omega) h1 h2
 ·rw [if_neg he,show ((zz3 l).Err != 0)=true from bne_iff_ne.2 he,j8];rfl
theorem qv2 (l:List Ins):qcc v9 l=some (ze1 l).2:=by
 rw [wx9,qy2];rfl
end Go.Y
namespace Go.Y
open Go.RowKit Go.V Go.X Go.Proofs
def exL:List Ins:= [⟨12,false,0,0,true,0,0,0⟩,⟨20,false,2,0,true,1,14,0⟩,⟨28,false,0,0,false,0,0,0⟩,⟨14,false,0,1,false,12,0,2⟩,⟨28,false,0,0,false,0,0,0⟩]
def gg8:List Ins:= [⟨12,false,0,0,true,0,0,0⟩,⟨14,false,0,1,false,12,0,2⟩,⟨28,false,0,0,false,0,0,0⟩]
theorem ex_v:qcl v9=some exL:=by rw [wm7];rfl
theorem ex1:(ze1 exL).2.Err=0/\(ze1 exL).1.length=5/\((ze1 exL).1.getD 3 v6).Least=14/\((ze1 exL).1.getD 2 v6).Least=0/\((ze1 exL).1.getD 4 v6).Regs.length=11/\(((ze1 exL).1.getD 4 v6).Regs.getD 0 v8).Kind=1/\(((ze1 exL).1.getD 4 v6).Regs.getD 0 v8).In_Lo=0/\(((ze1 exL).1.getD 4 v6).Regs.getD 0 v8).In_Hi=65535:=by decide+kernel
theorem ex2:(ze1 gg8).2.Err=112/\(ze1 gg8).2.At=1:=by decide+kernel
theorem gt9:qar v9=some true:=by
 obtain ⟨n,e⟩: ∃n:Nat,(v9:Nat)=n+1:=⟨999999999,rfl⟩;obtain ⟨a1,a2,a3,a4,a5,a6,a7,a8⟩:=ex1;rw [wq2,ex_v,j4,qy2,vg5,j4,j4,if_pos (by decide),if_pos (by decide),j4,if_pos (by decide),if_pos (by decide)];dsimp only;generalize ze1 exL=p at a1 a2 a3 a4 a5 a6 a7 a8⊢;rw [a1,show ((0:Int) != 0)=false from rfl,j6,a2,show (((5:Nat):Int) != 5)=false from rfl,j6,if_pos (by decide),a3,show ((14:Int) != 14)=false from rfl,j6,if_pos (by decide),a4,show ((0:Int) != 0)=false from rfl,j6,if_pos (by decide),a5,show (((11:Nat):Int) != 11)=false from rfl,e,vy6,j6];rw [show (([]:List Ins)++List.take 1 (List.drop 0 exL))++List.take (((exL.length:Nat):Int).toNat-3) (List.drop 3 exL)=gg8 from rfl,qv2,j4,ex2.1,ex2.2,show (((112:Int)==112)&&((1:Int)==1))=true from rfl,j8,a2,if_pos (by decide),a5,if_pos (by decide),a6,a7,a8];rfl
end Go.Y
namespace Go.Y
open Go.RowKit Go.V Go.X Go.Proofs
theorem vm8 (x m:Int) (hm:1<=m/\m<=4611686018427387904): ∃k:Nat,qcm v9 x m=some ((k:Nat):Int)/\(k:Int)<m:=by
 rw [ue1,W4 (by omega),j6,if_neg (by omega),zo4];have h1:=Int.tmod_lt_of_pos x (by omega:0<m);have h3: -m<x.tmod m:=by
  have:=Int.tmod_lt_of_pos (-x) (by omega:0<m);rw [Int.neg_tmod] at this;omega
 by_cases h:x.tmod m<0
 ·rw [W3 h,if_pos rfl,ze0 (by omega)];exact ⟨(x.tmod m+m).toNat,by congr 1;omega,by omega⟩
 ·rw [W4 h,if_neg (by decide)];exact ⟨(x.tmod m).toNat,by congr 1;omega,by omega⟩
theorem yn8 {l:List Ins} {m k:Nat} {ps:List Pl} {ts:List (Int×Pl)} (hl:(ps.getD k v6).Live=true) (ho:yx9 (ps.getD k v6) (l.getD k zb2) (k:Int)=.inl ts):zi6 l (m+1) k ps=zi6 l m (k+1) (zf9 ps ts):=by
 rw [zi6,if_pos hl,ho]
theorem gx6 {l:List Ins} {m k:Nat} {ps:List Pl} {e:Int} (hl:(ps.getD k v6).Live=true) (ho:yx9 (ps.getD k v6) (l.getD k zb2) (k:Int)=.inr e):zi6 l (m+1) k ps=([],⟨e,(k:Int)⟩):=by
 rw [zi6,if_pos hl,ho]
theorem qb7 {l:List Ins} {m k:Nat} {ps:List Pl} (hl:(ps.getD k v6).Live=false):zi6 l (m+1) k ps=zi6 l m (k+1) ps:=by
 rw [zi6,if_neg (by rw [hl];decide)]
theorem kz3 (a b:Known) (ha:zd7 (tk a)=true) (hb:zd7 (tk b)=true) (h0:b.Kind≠0):doK 12 false a b=(b,0):=by
 unfold doK ya5;rw [ha,hb,if_neg (by decide),if_neg (by simpa [tk] using h0),if_pos (by decide)];rfl
def w1P:Pl:=⟨true,startP.Regs.set 0 ⟨1,0,0⟩,startP.Bytes,0⟩
def w2P (k:Int):Pl:=⟨true,w1P.Regs.set 4 ⟨1,k,k⟩,startP.Bytes,0⟩
def xI:Ins:=⟨28,false,0,0,false,0,0,0⟩
def ji9 (x s:Int):Ins:=⟨14,false,0,1,false,x,0,s⟩
def brL (k x s:Int) (i:Ins):List Ins:= [⟨12,false,0,0,true,0,0,0⟩,⟨12,false,4,0,true,0,k,0⟩,i,xI,ji9 x s,xI]
theorem kp0 (k x s:Int) (i:Ins):zt3 (brL k x s i)= [startP,v6,v6,v6,v6,v6]:=rfl
theorem uv1 (k x s:Int) (i:Ins) (hk:0<=k/\k<=65535):zi6 (brL k x s i) 6 0 (zt3 (brL k x s i))=zi6 (brL k x s i) 4 2 [startP,w1P,w2P k,v6,v6,v6]:=by
 rw [kp0];have e0:yx9 startP ⟨12,false,0,0,true,0,0,0⟩ ((0:Nat):Int)=.inl [(((0:Nat):Int)+1,w1P)]:=by
  show zs2 startP ⟨12,false,0,0,true,0,0,0⟩ ((0:Nat):Int)=_;unfold zs2;dsimp only;rw [if_neg (c:=(12:Int)=13) (by decide),kz3 _ _ rfl rfl (by show (1:Int)≠0;decide),if_pos rfl];rfl
 rw [yn8 (l:=brL k x s i) (m:=5) (k:=0) (ps:= [startP,v6,v6,v6,v6,v6]) rfl e0];show zi6 (brL k x s i) 5 1 [startP,w1P,v6,v6,v6,v6]=_;have e1:yx9 w1P ⟨12,false,4,0,true,0,k,0⟩ ((1:Nat):Int)=.inl [(((1:Nat):Int)+1,w2P k)]:=by
  show zs2 w1P ⟨12,false,4,0,true,0,k,0⟩ ((1:Nat):Int)=_;unfold zs2;dsimp only;have es:jg0 w1P.Regs ⟨12,false,4,0,true,0,k,0⟩=⟨1,k,k⟩:=by
   unfold jg0;rw [if_pos rfl];show (⟨1,IntKind.u64.wrap k,IntKind.u64.wrap k⟩:Known)=_;rw [zk9 (by omega)]
  rw [if_neg (c:=(12:Int)=13) (by decide),es,kz3 _ _ rfl (by simp [zd7,tk,zc9,w5]) (by show (1:Int)≠0;decide),if_pos rfl];rfl
 rw [yn8 (l:=brL k x s i) (m:=4) (k:=1) (ps:= [startP,w1P,v6,v6,v6,v6]) rfl e1];rfl
theorem ge8 (w:Pl) (a:Int) (h:(w.Regs.getD 0 v8).Kind=1):yx9 w xI a=.inl []:=by
 show jt7 w=_;unfold jt7 yk3;rw [if_neg (by rw [h];decide),if_pos h]
theorem kw6 (k x s n:Int) (i:Ins) (p3 p4:Pl) (hx:0<=x/\x<=32767) (hs:zg6 s=true) (h3:p3.Live=true->(p3.Regs.getD 0 v8).Kind=1) (h4:p4.Live=true->p4.Regs.getD 1 v8=⟨2,0,0⟩/\p4.Least=n/\p4.Regs.length=11) (w:Pl):
  (zi6 (brL k x s i) 3 3 [startP,w1P,w,p3,p4,v6]).2=if p4.Live=true/\x+s>n then ⟨112,4⟩ else ⟨0,0⟩:=by
 have e3:zi6 (brL k x s i) 3 3 [startP,w1P,w,p3,p4,v6]=zi6 (brL k x s i) 2 4 [startP,w1P,w,p3,p4,v6]:=by
  cases hl:p3.Live with
  |false=>exact qb7 (l:=brL k x s i) (m:=2) (k:=3) (ps:= [startP,w1P,w,p3,p4,v6]) hl
  |true=>exact yn8 (l:=brL k x s i) (m:=2) (k:=3) (ps:= [startP,w1P,w,p3,p4,v6]) hl (ge8 p3 _ (h3 hl))
 rw [e3];cases hl:p4.Live with
 |false=>
  rw [if_neg (by simp),qb7 (l:=brL k x s i) (m:=1) (k:=4) (ps:= [startP,w1P,w,p3,p4,v6]) hl,qb7 (l:=brL k x s i) (m:=0) (k:=5) (ps:= [startP,w1P,w,p3,p4,v6]) rfl];rfl
 |true=>
  obtain ⟨a1,a2,a3⟩:=h4 hl;have hz:1<=s/\s<=8:=by
   unfold zg6 at hs;simp only [Bool.or_eq_true,beq_iff_eq] at hs;omega
  have eE:vj1 p4 (ji9 x s)=if x+s>n then 112 else 0:=by
   unfold vj1;dsimp only;rw [show p4.Regs.getD (ji9 x s).Src.toNat v8=⟨2,0,0⟩ from a1];rw [if_neg (by decide),if_pos rfl,if_neg (by decide)];show (if IntKind.i64.wrap (IntKind.i64.wrap 0+x)<0 then (112:Int) else if IntKind.i64.wrap (IntKind.i64.wrap (IntKind.i64.wrap 0+x)+s)>p4.Least then 112 else 0)=_;rw [ze0 (x:=0) (by omega),Int.zero_add,ze0 (x:=x) (by omega),if_neg (by omega),ze0 (by omega),a2]
  have eo:yx9 p4 (ji9 x s) ((4:Nat):Int)=jh9 p4 (ji9 x s) ((4:Nat):Int):=rfl;unfold jh9 at eo;rw [eE] at eo;by_cases hc:x+s>n
  ·rw [if_pos hc,if_neg (by decide)] at eo;rw [if_pos ⟨rfl,hc⟩,gx6 (l:=brL k x s i) (m:=1) (k:=4) (ps:= [startP,w1P,w,p3,p4,v6]) hl eo];rfl
  ·rw [if_neg hc,if_pos rfl] at eo;rw [if_neg (fun h=>hc h.2),yn8 (l:=brL k x s i) (m:=1) (k:=4) (ps:= [startP,w1P,w,p3,p4,v6]) hl eo];show (zi6 (brL k x s i) 1 5 [startP,w1P,w,p3,p4,⟨p4.Live,p4.Regs.set 0 (jd4 s),p4.Bytes,p4.Least⟩]).2=_;rw [yn8 (l:=brL k x s i) (m:=0) (k:=5) (ps:= [startP,w1P,w,p3,p4,⟨p4.Live,p4.Regs.set 0 (jd4 s),p4.Bytes,p4.Least⟩]) hl (ge8 _ _ ?_)]
   ·rfl
   ·show ((p4.Regs.set 0 (jd4 s)).getD 0 v8).Kind=1;rw [jy2,if_pos ⟨rfl,by omega⟩];rfl
end Go.Y
namespace Go.Y
open Go.RowKit Go.V Go.X Go.Proofs
theorem qg7 (k x s n:Int) (i:Ins) (u v:q9) (c:Prop) [Decidable c] (hk:0<=k/\k<=65535) (hx:0<=x/\x<=32767) (hs:zg6 s=true)
  (ho:yx9 (w2P k) i ((2:Nat):Int)=.inl (ys6 (w2P k) i u v false (((2:Nat):Int)+1)++ys6 (w2P k) i u v true (((2:Nat):Int)+1+1)))
  (hE: ∀x y,((qe3 (w2P k) i x y).Regs.getD 0 v8).Kind=1/\(qe3 (w2P k) i x y).Regs.getD 1 v8=⟨2,0,0⟩/\(qe3 (w2P k) i x y).Regs.length=11/\(qe3 (w2P k) i x y).Live=true)
  (hM:(ifE i.Op i.Narrow true u v).2.2=decide c) (hL:c->(qe3 (w2P k) i (ifE i.Op i.Narrow true u v).1 (ifE i.Op i.Narrow true u v).2.1).Least=n):
  (zi6 (brL k x s i) 6 0 (zt3 (brL k x s i))).2=if c/\x+s>n then ⟨112,4⟩ else ⟨0,0⟩:=by
 rw [uv1 k x s i hk,yn8 (l:=brL k x s i) (m:=3) (k:=2) (ps:= [startP,w1P,w2P k,v6,v6,v6]) rfl ho];unfold ys6;rw [hM];by_cases hc:c
 ·have hn:=hL hc;obtain ⟨t1,t2,t3,t4⟩:=hE (ifE i.Op i.Narrow true u v).1 (ifE i.Op i.Narrow true u v).2.1;rw [W3 hc,if_pos rfl];generalize qe3 (w2P k) i (ifE i.Op i.Narrow true u v).1 (ifE i.Op i.Narrow true u v).2.1=p4 at hn t1 t2 t3 t4⊢;have fin: ∀p3:Pl,(p3.Live=true->(p3.Regs.getD 0 v8).Kind=1)->(zi6 (brL k x s i) 3 3 [startP,w1P,w2P k,p3,p4,v6]).2=if c/\x+s>n then ⟨112,4⟩ else ⟨0,0⟩:=by
   intro p3 h3;rw [kw6 k x s n i p3 p4 hx hs h3 (fun _=>⟨t2,hn,t3⟩),t4];by_cases h:x+s>n
   ·rw [if_pos ⟨rfl,h⟩,if_pos ⟨hc,h⟩]
   ·rw [if_neg (fun q=>h q.2),if_neg (fun q=>h q.2)]
  cases hf:(ifE i.Op i.Narrow false u v).2.2 with
  |true=>
   rw [if_pos rfl];exact fin _ fun _=>(hE _ _).1
  |false=>
   rw [if_neg (by decide)];exact fin v6 fun h=>absurd h (by decide)
 ·rw [W4 hc,if_neg (c:=(false:Bool)=true) (by decide),List.append_nil];have fin: ∀p3:Pl,(p3.Live=true->(p3.Regs.getD 0 v8).Kind=1)->(zi6 (brL k x s i) 3 3 [startP,w1P,w2P k,p3,v6,v6]).2=if c/\x+s>n then ⟨112,4⟩ else ⟨0,0⟩:=by
   intro p3 h3;rw [kw6 k x s n i p3 v6 hx hs h3 (fun h=>absurd h (by decide)),if_neg (fun q=>absurd q.1 (by decide)),if_neg (fun q=>hc q.1)]
  cases hf:(ifE i.Op i.Narrow false u v).2.2 with
  |true=>
   rw [if_pos rfl];exact fin _ fun _=>(hE _ _).1
  |false=>
   rw [if_neg (by decide)];exact fin v6 fun h=>absurd h (by decide)
theorem ys7:qf ⟨0,65535⟩ false=⟨0,65535⟩:=ky3 ⟨by decide,by decide⟩ (by decide) (by decide)
theorem qe0 {k:Int} (hk:0<=k/\k<=65535):qf ⟨k,k⟩ false=⟨k,k⟩:=ky3 ⟨by show u9 k;omega,by show u9 k;omega⟩ (Int.le_refl _) (by show k<=18446744073709551615;omega)
theorem uz4 {k:Int} (hk:0<=k/\k<=65535):(ifE 19 false true ⟨0,65535⟩ ⟨k,k⟩).2.2=decide (65535>k)/\(65535>k->(ifE 19 false true ⟨0,65535⟩ ⟨k,k⟩).1.Lo=k+1):=by
 unfold ifE;rw [if_pos ⟨by decide,by decide,Int.le_refl _⟩,ys7,qe0 hk];show (qa3 false ⟨0,65535⟩ ⟨k,k⟩ (if (65535:Int)>k then some (⟨max 0 (k+1),65535⟩,⟨k,min k (65535-1)⟩) else none)).2.2=_/\(_->(qa3 false ⟨0,65535⟩ ⟨k,k⟩ (if (65535:Int)>k then some (⟨max 0 (k+1),65535⟩,⟨k,min k (65535-1)⟩) else none)).1.Lo=_);by_cases h:(65535:Int)>k
 ·rw [if_pos h,W3 h];refine ⟨rfl,fun _=>?_⟩;show (if (65535:Int)>g9 false then (⟨0,65535⟩:q9) else ⟨max 0 (k+1),65535⟩).Lo=_;rw [if_neg (by decide)];show max 0 (k+1)=k+1;omega
 ·rw [if_neg h,W4 h];exact ⟨rfl,fun q=>absurd q h⟩
theorem uy4 {k:Int} (hk:0<=k/\k<=65535):(ifE 20 false true ⟨0,65535⟩ ⟨k,k⟩).2.2=decide (65535>=k)/\(65535>=k->(ifE 20 false true ⟨0,65535⟩ ⟨k,k⟩).1.Lo=k):=by
 unfold ifE;rw [if_pos ⟨by decide,by decide,Int.le_refl _⟩,ys7,qe0 hk];show (qa3 false ⟨0,65535⟩ ⟨k,k⟩ (if (65535:Int)>=k then some (⟨max 0 k,65535⟩,⟨k,min k 65535⟩) else none)).2.2=_/\(_->(qa3 false ⟨0,65535⟩ ⟨k,k⟩ (if (65535:Int)>=k then some (⟨max 0 k,65535⟩,⟨k,min k 65535⟩) else none)).1.Lo=_);have h:(65535:Int)>=k:=hk.2;rw [if_pos h,W3 h];refine ⟨rfl,fun _=>?_⟩;show (if (65535:Int)>g9 false then (⟨0,65535⟩:q9) else ⟨max 0 k,65535⟩).Lo=_;rw [if_neg (by decide)];show max 0 k=k;omega
theorem uz2 {k:Int} (hk:0<=k/\k<=65535):(ifE 21 false true ⟨k,k⟩ ⟨0,65535⟩).2.2=decide (65535>k)/\(65535>k->(ifE 21 false true ⟨k,k⟩ ⟨0,65535⟩).2.1.Lo=k+1):=by
 unfold ifE;rw [if_pos ⟨by decide,Int.le_refl _,by decide⟩,ys7,qe0 hk];show (qa3 false ⟨k,k⟩ ⟨0,65535⟩ (jd6 (if (65535:Int)>k then some (⟨max 0 (k+1),65535⟩,⟨k,min k (65535-1)⟩) else none))).2.2=_/\(_->(qa3 false ⟨k,k⟩ ⟨0,65535⟩ (jd6 (if (65535:Int)>k then some (⟨max 0 (k+1),65535⟩,⟨k,min k (65535-1)⟩) else none))).2.1.Lo=_);by_cases h:(65535:Int)>k
 ·rw [if_pos h,W3 h];refine ⟨rfl,fun _=>?_⟩;show (if (65535:Int)>g9 false then (⟨0,65535⟩:q9) else ⟨max 0 (k+1),65535⟩).Lo=_;rw [if_neg (by decide)];show max 0 (k+1)=k+1;omega
 ·rw [if_neg h,W4 h];exact ⟨rfl,fun q=>absurd q h⟩
theorem uz8 {k:Int} (hk:0<=k/\k<=65535):(ifE 22 false true ⟨k,k⟩ ⟨0,65535⟩).2.2=decide (65535>=k)/\(65535>=k->(ifE 22 false true ⟨k,k⟩ ⟨0,65535⟩).2.1.Lo=k):=by
 unfold ifE;rw [if_pos ⟨by decide,Int.le_refl _,by decide⟩,ys7,qe0 hk];show (qa3 false ⟨k,k⟩ ⟨0,65535⟩ (jd6 (if (65535:Int)>=k then some (⟨max 0 k,65535⟩,⟨k,min k 65535⟩) else none))).2.2=_/\(_->(qa3 false ⟨k,k⟩ ⟨0,65535⟩ (jd6 (if (65535:Int)>=k then some (⟨max 0 k,65535⟩,⟨k,min k 65535⟩) else none))).2.1.Lo=_);have h:(65535:Int)>=k:=hk.2;rw [if_pos h,W3 h];refine ⟨rfl,fun _=>?_⟩;show (if (65535:Int)>g9 false then (⟨0,65535⟩:q9) else ⟨max 0 k,65535⟩).Lo=_;rw [if_neg (by decide)];show max 0 k=k;omega
def unI (op k:Int):Ins:=⟨op,false,2,0,true,1,k,0⟩
def swI (op:Int):Ins:=⟨op,false,4,2,false,1,0,0⟩
theorem gc7 (op k:Int) (hop:op=19\/op=20) (hk:0<=k/\k<=65535):yx9 (w2P k) (unI op k) ((2:Nat):Int)=.inl (ys6 (w2P k) (unI op k) ⟨0,65535⟩ ⟨k,k⟩ false (((2:Nat):Int)+1)++ys6 (w2P k) (unI op k) ⟨0,65535⟩ ⟨k,k⟩ true (((2:Nat):Int)+1+1)):=by
 have e:yx9 (w2P k) (unI op k) ((2:Nat):Int)=ya0 (w2P k) (unI op k) ((2:Nat):Int):=by rcases hop with rfl|rfl<;>rfl
 have es:jg0 (w2P k).Regs (unI op k)=⟨1,k,k⟩:=by
  unfold jg0;rw [if_pos (show (unI op k).UseImm=true from rfl)];show (⟨1,IntKind.u64.wrap k,IntKind.u64.wrap k⟩:Known)=_;rw [zk9 (by omega)]
 rw [e];unfold ya0;rw [es];rfl
theorem ga5 (op k:Int) (hop:op=21\/op=22):yx9 (w2P k) (swI op) ((2:Nat):Int)=.inl (ys6 (w2P k) (swI op) ⟨k,k⟩ ⟨0,65535⟩ false (((2:Nat):Int)+1)++ys6 (w2P k) (swI op) ⟨k,k⟩ ⟨0,65535⟩ true (((2:Nat):Int)+1+1)):=by
 rcases hop with rfl|rfl<;>rfl
theorem kh9 (code:Nat->Int) (h0:code 0=0) (h1:code 1=0) (h2:code 2=0) (h3:code 3=0) (h4:code 4=0) (h5:code 5=0):yr5 code 0 6=none:=jx3 code 6 0 fun j _ hj=>by
 have:j=0\/j=1\/j=2\/j=3\/j=4\/j=5:=by omega
 rcases this with rfl|rfl|rfl|rfl|rfl|rfl<;>assumption
theorem yu4 (k x s:Int) (i:Ins) (hk:0<=k/\k<=65535) (hx:0<=x/\x<=32767) (hs:zg6 s=true) (hr:zd3 i=true) (h2: ∀j,j<6->c2 (brL k x s i) j=0) (h4: ∀j,j<6->c4 (brL k x s i) j=0):zz3 (brL k x s i)=⟨0,0⟩:=by
 unfold zz3;rw [show (brL k x s i).length=6 from rfl,if_neg (by decide),if_neg (by decide)];have r1:zd3 ⟨12,false,4,0,true,0,k,0⟩=true:=by
  show (true&&(((0:Int)==0&&(decide (-2147483648<=k)&&decide (k<2147483648)))&&_))=true;rw [W3 (by omega),W3 (by omega)];rfl
 have r4:zd3 (ji9 x s)=true:=by
  show (true&&(true&&((decide (-32768<=x)&&decide (x<32768))&&(zg6 s&&_))))=true;rw [W3 (by omega),W3 (by omega),hs];rfl
 have q1: ∀j,zd3 ((brL k x s i).getD j zb2)=true->c1 (brL k x s i) j=0:=fun j h=>by unfold c1;rw [if_pos h]
 rw [kh9 (c1 (brL k x s i)) (q1 0 rfl) (q1 1 r1) (q1 2 hr) (q1 3 rfl) (q1 4 r4) (q1 5 rfl)];rw [kh9 (c2 (brL k x s i)) (h2 0 (by decide)) (h2 1 (by decide)) (h2 2 (by decide)) (h2 3 (by decide)) (h2 4 (by decide)) (h2 5 (by decide))];rw [kh9 (c3 (brL k x s i)) rfl rfl rfl rfl rfl rfl];rw [kh9 (c4 (brL k x s i)) (h4 0 (by decide)) (h4 1 (by decide)) (h4 2 (by decide)) (h4 3 (by decide)) (h4 4 (by decide)) (h4 5 (by decide))];rfl
theorem six {p:Nat->Prop} (h0:p 0) (h1:p 1) (h2:p 2) (h3:p 3) (h4:p 4) (h5:p 5): ∀j,j<6->p j:=fun j hj=>by
 have:j=0\/j=1\/j=2\/j=3\/j=4\/j=5:=by omega
 rcases this with rfl|rfl|rfl|rfl|rfl|rfl<;>assumption
theorem yw1 (op k:Int) (hop:op=19\/op=20) (hk:0<=k/\k<=65535):zd3 (unI op k)=true:=by
 have e:zd3 (unI op k)=(true&&(true&&(((0:Int)==0&&(decide (-2147483648<=k)&&decide (k<2147483648)))&&true))):=by rcases hop with rfl|rfl<;>rfl
 rw [e,W3 (by omega),W3 (by omega)];rfl
theorem uv2 (k x s:Int): ∀j,j<6->c2 (brL k x s (unI 19 k)) j=0:=
 have h0:c2 (brL k x s (unI 19 k)) 0=0:=by kernel_rfl
 have h1:c2 (brL k x s (unI 19 k)) 1=0:=by kernel_rfl
 have h2:c2 (brL k x s (unI 19 k)) 2=0:=by kernel_rfl
 have h3:c2 (brL k x s (unI 19 k)) 3=0:=by kernel_rfl
 have h4:c2 (brL k x s (unI 19 k)) 4=0:=by kernel_rfl
 have h5:c2 (brL k x s (unI 19 k)) 5=0:=by kernel_rfl
 six h0 h1 h2 h3 h4 h5
theorem ux3 (k x s:Int): ∀j,j<6->c2 (brL k x s (unI 20 k)) j=0:=
 have h0:c2 (brL k x s (unI 20 k)) 0=0:=by kernel_rfl
 have h1:c2 (brL k x s (unI 20 k)) 1=0:=by kernel_rfl
 have h2:c2 (brL k x s (unI 20 k)) 2=0:=by kernel_rfl
 have h3:c2 (brL k x s (unI 20 k)) 3=0:=by kernel_rfl
 have h4:c2 (brL k x s (unI 20 k)) 4=0:=by kernel_rfl
 have h5:c2 (brL k x s (unI 20 k)) 5=0:=by kernel_rfl
 six h0 h1 h2 h3 h4 h5
theorem us3 (k x s:Int): ∀j,j<6->c2 (brL k x s (swI 21)) j=0:=
 have h0:c2 (brL k x s (swI 21)) 0=0:=by kernel_rfl
 have h1:c2 (brL k x s (swI 21)) 1=0:=by kernel_rfl
 have h2:c2 (brL k x s (swI 21)) 2=0:=by kernel_rfl
 have h3:c2 (brL k x s (swI 21)) 3=0:=by kernel_rfl
 have h4:c2 (brL k x s (swI 21)) 4=0:=by kernel_rfl
 have h5:c2 (brL k x s (swI 21)) 5=0:=by kernel_rfl
 six h0 h1 h2 h3 h4 h5
theorem ut8 (k x s:Int): ∀j,j<6->c2 (brL k x s (swI 22)) j=0:=
 have h0:c2 (brL k x s (swI 22)) 0=0:=by kernel_rfl
 have h1:c2 (brL k x s (swI 22)) 1=0:=by kernel_rfl
 have h2:c2 (brL k x s (swI 22)) 2=0:=by kernel_rfl
 have h3:c2 (brL k x s (swI 22)) 3=0:=by kernel_rfl
 have h4:c2 (brL k x s (swI 22)) 4=0:=by kernel_rfl
 have h5:c2 (brL k x s (swI 22)) 5=0:=by kernel_rfl
 six h0 h1 h2 h3 h4 h5
theorem uc4 {k:Int} (hk:0<=k/\k<=65535):zd3 ⟨12,false,4,0,true,0,k,0⟩=true:=by
 show (true&&(((0:Int)==0&&(decide (-2147483648<=k)&&decide (k<2147483648)))&&_))=true;rw [W3 (by omega),W3 (by omega)];rfl
theorem uc6 {x s:Int} (hx:0<=x/\x<=32767) (hs:zg6 s=true):zd3 (ji9 x s)=true:=by
 show (true&&(true&&((decide (-32768<=x)&&decide (x<32768))&&(zg6 s&&_))))=true;rw [W3 (by omega),W3 (by omega),hs];rfl
theorem kg6 (k x s:Int) (i:Ins) (hk:0<=k/\k<=65535) (hx:0<=x/\x<=32767) (hs:zg6 s=true) (h2:zl7 (brL k x s i) ((2:Nat):Int)= [3,4]): ∀j,j<6->c4 (brL k x s i) j=0:=by
 have n1:zl7 (brL k x s i) ((1:Nat):Int)= [2]:=by
  unfold zl7;rw [if_pos (by show (0:Int)<=1/\(1:Int)<((6:Nat):Int);decide)];show (if zd3 ⟨12,false,4,0,true,0,k,0⟩=true/\(12:Int)≠28 then [2] else [])=_;rw [if_pos ⟨uc4 hk,by decide⟩]
 have n4:zl7 (brL k x s i) ((4:Nat):Int)= [5]:=by
  unfold zl7;rw [if_pos (by show (0:Int)<=4/\(4:Int)<((6:Nat):Int);decide)];show (if zd3 (ji9 x s)=true/\(14:Int)≠28 then [5] else [])=_;rw [if_pos ⟨uc6 hx hs,by decide⟩]
 have s1:stP (brL k x s i) 1= [true,true,false,false,false,false]:=rfl;have s2:stP (brL k x s i) 2= [true,true,true,false,false,false]:=by
  show yv1 (brL k x s i) (stP (brL k x s i) 1) 1=_;rw [s1];unfold yv1;rw [n1];rfl
 have s3:stP (brL k x s i) 3= [true,true,true,true,true,false]:=by
  show yv1 (brL k x s i) (stP (brL k x s i) 2) 2=_;rw [s2];unfold yv1;rw [h2];rfl
 have s4:stP (brL k x s i) 4= [true,true,true,true,true,false]:=by
  show yv1 (brL k x s i) (stP (brL k x s i) 3) 3=_;rw [s3];rfl
 have s5:stP (brL k x s i) 5= [true,true,true,true,true,true]:=by
  show yv1 (brL k x s i) (stP (brL k x s i) 4) 4=_;rw [s4];unfold yv1;rw [n4];rfl
 have s6:stP (brL k x s i) 6= [true,true,true,true,true,true]:=by
  show yv1 (brL k x s i) (stP (brL k x s i) 5) 5=_;rw [s5];rfl
 refine six ?_ ?_ ?_ ?_ ?_ ?_<;>unfold c4
 ·rw [s1];rfl
 ·rw [s2];rfl
 ·rw [s3];rfl
 ·rw [s4];rfl
 ·rw [s5];rfl
 ·rw [s6];rfl
theorem jj7 {k x s:Int} {i:Ins} (hr:zd3 i=true) (h:i.Op≠28) (hb:yh3 i (IntKind.i64.wrap (((2:Nat):Int)+1)) (IntKind.i64.wrap (IntKind.i64.wrap (((2:Nat):Int)+1)+i.Off))= [3,4]):zl7 (brL k x s i) ((2:Nat):Int)= [3,4]:=by
 unfold zl7;rw [if_pos (by show (0:Int)<=2/\(2:Int)<((6:Nat):Int);decide)];show (if zd3 i=true/\i.Op≠28 then yh3 i (IntKind.i64.wrap (((2:Nat):Int)+1)) (IntKind.i64.wrap (IntKind.i64.wrap (((2:Nat):Int)+1)+i.Off)) else [])=_;rw [if_pos ⟨hr,h⟩,hb]
theorem jv5 (op d k x s:Int) (hop:op=19/\d=k+1\/op=20/\d=k) (hk:0<=k/\k<=65535) (hx:0<=x/\x<=32767) (hs:zg6 s=true):(ze1 (brL k x s (unI op k))).2=if d<=65535/\x+s>d then ⟨112,4⟩ else ⟨0,0⟩:=by
 unfold ze1;rcases hop with ⟨rfl,hd⟩|⟨rfl,hd⟩
 ·rw [yu4 k x s (unI 19 k) hk hx hs (yw1 19 k (by decide) hk) (uv2 k x s) (kg6 k x s (unI 19 k) hk hx hs (jj7 (yw1 19 k (by decide) hk) (by show (19:Int)≠28;decide) rfl)),if_pos rfl];refine (qg7 k x s (k+1) (unI 19 k) ⟨0,65535⟩ ⟨k,k⟩ (65535>k) hk hx hs (gc7 19 k (by decide) hk) (fun _ _=>⟨rfl,rfl,rfl,rfl⟩) (uz4 hk).1 fun h=>?_).trans ?_
  ·show zk5 0 (IntKind.i64.wrap (ifE 19 false true ⟨0,65535⟩ ⟨k,k⟩).1.Lo)=_;rw [(uz4 hk).2 h,ze0 (by omega)];unfold zk5;split<;>omega
  ·by_cases h:d<=65535/\x+s>d
   ·rw [if_pos h,if_pos (by omega)]
   ·rw [if_neg h,if_neg (by omega)]
 ·rw [yu4 k x s (unI 20 k) hk hx hs (yw1 20 k (by decide) hk) (ux3 k x s) (kg6 k x s (unI 20 k) hk hx hs (jj7 (yw1 20 k (by decide) hk) (by show (20:Int)≠28;decide) rfl)),if_pos rfl];refine (qg7 k x s (k) (unI 20 k) ⟨0,65535⟩ ⟨k,k⟩ (65535>=k) hk hx hs (gc7 20 k (by decide) hk) (fun _ _=>⟨rfl,rfl,rfl,rfl⟩) (uy4 hk).1 fun h=>?_).trans ?_
  ·show zk5 0 (IntKind.i64.wrap (ifE 20 false true ⟨0,65535⟩ ⟨k,k⟩).1.Lo)=_;rw [(uy4 hk).2 h,ze0 (by omega)];unfold zk5;split<;>omega
  ·by_cases h:d<=65535/\x+s>d
   ·rw [if_pos h,if_pos (by omega)]
   ·rw [if_neg h,if_neg (by omega)]
theorem jw2 (op d k x s:Int) (hop:op=21/\d=k+1\/op=22/\d=k) (hk:0<=k/\k<=65535) (hx:0<=x/\x<=32767) (hs:zg6 s=true):(ze1 (brL k x s (swI op))).2=if d<=65535/\x+s>d then ⟨112,4⟩ else ⟨0,0⟩:=by
 unfold ze1;rcases hop with ⟨rfl,hd⟩|⟨rfl,hd⟩
 ·rw [yu4 k x s (swI 21) hk hx hs (by rfl) (us3 k x s) (kg6 k x s (swI 21) hk hx hs (jj7 (by rfl) (by show (21:Int)≠28;decide) rfl)),if_pos rfl];refine (qg7 k x s (k+1) (swI 21) ⟨k,k⟩ ⟨0,65535⟩ (65535>k) hk hx hs (ga5 21 k (by decide)) (fun _ _=>⟨rfl,rfl,rfl,rfl⟩) (uz2 hk).1 fun h=>?_).trans ?_
  ·show zk5 0 (IntKind.i64.wrap (ifE 21 false true ⟨k,k⟩ ⟨0,65535⟩).2.1.Lo)=_;rw [(uz2 hk).2 h,ze0 (by omega)];unfold zk5;split<;>omega
  ·by_cases h:d<=65535/\x+s>d
   ·rw [if_pos h,if_pos (by omega)]
   ·rw [if_neg h,if_neg (by omega)]
 ·rw [yu4 k x s (swI 22) hk hx hs (by rfl) (ut8 k x s) (kg6 k x s (swI 22) hk hx hs (jj7 (by rfl) (by show (22:Int)≠28;decide) rfl)),if_pos rfl];refine (qg7 k x s (k) (swI 22) ⟨k,k⟩ ⟨0,65535⟩ (65535>=k) hk hx hs (ga5 22 k (by decide)) (fun _ _=>⟨rfl,rfl,rfl,rfl⟩) (uz8 hk).1 fun h=>?_).trans ?_
  ·show zk5 0 (IntKind.i64.wrap (ifE 22 false true ⟨k,k⟩ ⟨0,65535⟩).2.1.Lo)=_;rw [(uz8 hk).2 h,ze0 (by omega)];unfold zk5;split<;>omega
  ·by_cases h:d<=65535/\x+s>d
   ·rw [if_pos h,if_pos (by omega)]
   ·rw [if_neg h,if_neg (by omega)]
theorem wg3 (n:Nat) (k x s d:Int) (l:List Ins) (hd:d=k\/d=k+1) (hk:0<=k/\k<=65535) (hx:0<=x/\x<=32767) (hs:zg6 s=true) (h:(ze1 l).2=if d<=65535/\x+s>d then ⟨112,4⟩ else ⟨0,0⟩):js2 (n+1) s x d l=some true:=by
 have hz:1<=s/\s<=8:=by
  unfold zg6 at hs;simp only [Bool.or_eq_true,beq_iff_eq] at hs;omega
 rw [vx8,qv2,j4,h,ze0 (by omega)];by_cases c1:d>65535
 ·rw [W3 c1,j8,if_neg (by omega)];rfl
 ·rw [W4 c1,j6];by_cases c2:x+s<=d
  ·rw [W3 c2,j8,if_neg (by omega)];rfl
  ·rw [W4 c2,j6,if_pos (by omega)];rfl
theorem branch_true (a b c:Int) (st sw:Bool):qak v9 a b c st sw=some true:=by
 obtain ⟨n,e⟩: ∃n:Nat,(v9:Nat)=n+1+1:=⟨999999998,rfl⟩;obtain ⟨k,ek,hk⟩:=vm8 a 65536 (by decide);obtain ⟨z,ez,hz⟩:=vm8 c 4 (by decide);obtain ⟨x,ex,hx⟩:=vm8 b 32767 (by decide);rw [wr4,gt9,j4,Bool.not_true,j6,ek,j4,ez,j4,zk9 (by omega),if_neg (by omega),ex,j4,ze0 (x:=(k:Int)+1) (by omega),e];have hs:zg6 (ya4 .i64 1 (z:Int))=true:=by
  have:z=0\/z=1\/z=2\/z=3:=by omega
  rcases this with rfl|rfl|rfl|rfl<;>decide
 generalize ya4 .i64 1 (z:Int)=s at hs⊢;cases st with
 |true=>
  rw [j8,jv9,j8];cases sw with
  |true=>
   rw [j8];exact wg3 n k x s (k+1) (brL k x s (swI 21)) (.inr rfl) (by omega) (by omega) hs (jw2 21 _ k x s (.inl ⟨rfl,rfl⟩) (by omega) (by omega) hs)
  |false=>
   rw [j6];exact wg3 n k x s (k+1) (brL k x s (unI 19 k)) (.inr rfl) (by omega) (by omega) hs (jv5 19 _ k x s (.inl ⟨rfl,rfl⟩) (by omega) (by omega) hs)
 |false=>
  rw [j6,jv9,j6];cases sw with
  |true=>
   rw [j8];exact wg3 n k x s k (brL k x s (swI 22)) (.inl rfl) (by omega) (by omega) hs (jw2 22 _ k x s (.inr ⟨rfl,rfl⟩) (by omega) (by omega) hs)
  |false=>
   rw [j6];exact wg3 n k x s k (brL k x s (unI 20 k)) (.inl rfl) (by omega) (by omega) hs (jv5 20 _ k x s (.inr ⟨rfl,rfl⟩) (by omega) (by omega) hs)
end Go.Y
