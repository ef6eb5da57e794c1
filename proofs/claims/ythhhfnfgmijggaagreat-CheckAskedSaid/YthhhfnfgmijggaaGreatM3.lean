import Derived.Test.YthhhfnfgmijggaaGreatId
import Derived.Test.YthhhfnfgmijggaaGreatM2
import Derived.Test.YthhhfnfgmijggaaGreatM1
import Derived.Test.YthhhfnfgmijggaaGreatIe
namespace Go.Y
open Go.RowKit Go.V Go.X Go.Proofs
def pP (o:Option (v3×v3)):Unit×((Span×Span×Unit)⊕(Unit×Unit)):=((),match o with|some p=>.inl (p.1,p.2,())|none=>.inr ((),()))
theorem gy9 (u v:v3):qbw v5 u v=some (if max u.Lo v.Lo<=min u.Hi v.Hi then ((⟨max u.Lo v.Lo,min u.Hi v.Hi⟩:Span),true) else ((⟨0,0⟩:Span),false)):=by
 rw [ww2,zc2,j4,zo1,yg8,zb7];unfold w5;by_cases h:max u.Lo v.Lo<=min u.Hi v.Hi
 ·rw [if_pos h,show decide ((⟨max u.Lo v.Lo,min u.Hi v.Hi⟩:v3).Lo<=(⟨max u.Lo v.Lo,min u.Hi v.Hi⟩:v3).Hi)=true from decide_eq_true h];rfl
 ·rw [if_neg h,show decide ((⟨max u.Lo v.Lo,min u.Hi v.Hi⟩:v3).Lo<=(⟨max u.Lo v.Lo,min u.Hi v.Hi⟩:v3).Hi)=false from decide_eq_false h];rfl
theorem jh4 {nw:Bool} (s t:v3) (hs:SpOk nw s):X.qq v5 s t=some (woE s t):=by
 obtain ⟨n,e⟩: ∃n:Nat,(v5:Nat)=n+1+1:=⟨999999998,rfl⟩;have h1:=hs.lo;have h2:=hs.le;have h3:=hs.hi;have h4:=ji8 nw;have j1: ∀l h:Int,X.kf1 (n+1) l h t.Lo t.Hi 0 0=some (if h=t.Lo then ⟨l,IntKind.u64.wrap (h-1)⟩ else ⟨l,h⟩):=fun l h=>by
  rw [X.kk2,zb7];simp only [beq_iff_eq]
 have jt:X.vd2 (n+1+1) true s.Lo s.Hi t.Lo t.Hi 0 0=some s:=by rw [X.qk1,j8]
 have jf: ¬s.Lo=s.Hi->t.Lo=t.Hi->X.vd2 (n+1+1) false s.Lo s.Hi t.Lo t.Hi 0 0=some (woE s t):=fun hh ht=>by
  rw [X.qk1,j6,j1,j1];unfold woE;rw [if_neg (c:=s.Lo=s.Hi\/t.Lo≠t.Hi) (fun h=>h.elim hh (fun h=>h ht))];by_cases hl:s.Lo=t.Lo
  ·rw [show (s.Lo==t.Lo)=true by simp [hl],j8,zo4 (x:=s.Lo+1) (by omega),if_neg (show ¬s.Hi=t.Lo by omega),if_pos hl,if_neg (show ¬s.Hi=t.Lo by omega)]
  ·rw [show (s.Lo==t.Lo)=false by simp [hl],j6,if_neg hl];by_cases hr:s.Hi=t.Lo
   ·rw [if_pos hr,if_pos hr,zo4 (x:=s.Hi-1) (by omega)]
   ·rw [if_neg hr,if_neg hr]
 rw [X.ur6,js7,j4,js7,j4,e,jt,yg0,yg0];by_cases hh:s.Lo=s.Hi
 ·rw [decide_eq_true hh,j8];unfold woE;rw [if_pos (.inl hh)]
 ·rw [decide_eq_false hh,j6];by_cases ht:t.Lo=t.Hi
  ·rw [decide_eq_true ht,Bool.not_true,jf hh ht]
  ·rw [decide_eq_false ht,Bool.not_false,jt];unfold woE;rw [if_pos (.inr ht)]
theorem qm0 (op:Int) {nw:Bool} (u v:v3) (hop:op=19\/op=20) (hu:SpOk nw u) (hv:SpOk nw v):X.qap v5 (wW nw u v) op=some (pP (if op=19 then gtE u v else geE u v)):=by
 have h1:=hu.lo;have h2:=hu.le;have h3:=hu.hi;have h4:=ji8 nw;have g1:=hv.lo;have g2:=hv.le;have g3:=hv.hi;rcases hop with rfl|rfl
 ·rw [X.ky6,show ((19:Int)==17)=false from rfl,show ((19:Int)==18)=false from rfl,show ((19:Int)==19)=true from rfl,j6,j6,j8,zg9,j4,if_pos (show (19:Int)=19 from rfl),zo1,yg8];unfold gtE;by_cases h:u.Hi>v.Lo
  ·rw [if_pos h,show decide ((wW nw u v).a_Hi>(wW nw u v).b_Lo)=true from decide_eq_true h,show IntKind.u64.wrap ((wW nw u v).b_Lo+1)=v.Lo+1 from zo4 (x:=v.Lo+1) (by omega),show IntKind.u64.wrap ((wW nw u v).a_Hi-1)=u.Hi-1 from zo4 (x:=u.Hi-1) (by omega)];rfl
  ·rw [if_neg h,show decide ((wW nw u v).a_Hi>(wW nw u v).b_Lo)=false from decide_eq_false h];rfl
 ·rw [X.ky6,show ((20:Int)==17)=false from rfl,show ((20:Int)==18)=false from rfl,show ((20:Int)==19)=false from rfl,show ((20:Int)==20)=true from rfl,j6,j6,j6,j8,zg9,j4,if_neg (show ¬((20:Int)=19) by decide),zo1,yg8];unfold geE;by_cases h:u.Hi>=v.Lo
  ·rw [if_pos h,show decide ((wW nw u v).a_Hi>=(wW nw u v).b_Lo)=true from decide_eq_true h];rfl
  ·rw [if_neg h,show decide ((wW nw u v).a_Hi>=(wW nw u v).b_Lo)=false from decide_eq_false h];rfl
theorem wb6 (o:Option (v3×v3)):(match (pP o).2 with| .inl z=>some ((),.inl (z.2.1,z.1,()))| .inr _=>some ((),.inr ((),())))=some (pP (va7 o)):=by cases o<;>rfl
theorem kd6 (o:Option (v3×v3)):(match (pP o).2 with| .inl z=>some ((),.inl (z.1,z.2.1,()))| .inr _=>some ((),.inr ((),())))=some (pP o):=by cases o<;>rfl
theorem kz2 (nw:Bool) (u v:v3):X.qbt v5 (wW nw u v)=some (wW nw v u):=by rw [X.wv0];rfl
end Go.Y
namespace Go.Y
open Go.RowKit Go.V Go.X Go.Proofs
theorem ky4 (nw:Bool) (u v:v3):qx (tW (wW nw u v))=decide (u.Lo=u.Hi/\v.Lo=v.Hi):=by
 rw [zy3,yu5];show (decide (u.Lo=u.Hi)&&decide (v.Lo=v.Hi))=_;by_cases a1:u.Lo=u.Hi
 ·by_cases a2:v.Lo=v.Hi
  ·rw [decide_eq_true a1,decide_eq_true a2,decide_eq_true (p:=u.Lo=u.Hi/\v.Lo=v.Hi) ⟨a1,a2⟩];rfl
  ·rw [decide_eq_true a1,decide_eq_false a2,decide_eq_false (p:=u.Lo=u.Hi/\v.Lo=v.Hi) (fun h=>a2 h.2)];rfl
 ·rw [decide_eq_false a1,decide_eq_false (p:=u.Lo=u.Hi/\v.Lo=v.Hi) (fun h=>a1 h.1)];rfl
theorem qo0 (op:Int) {nw:Bool} (u v:v3) (hop:17<=op/\op<=22) (hu:SpOk nw u) (hv:SpOk nw v):X.qah v5 (wW nw u v) op=some (pP (yn9 op u v)):=by
 obtain ⟨n,e⟩: ∃n:Nat,(v5:Nat)=n+1:=⟨999999999,rfl⟩;have h1:=hu.lo;have h2:=hu.le;have h3:=hu.hi;have h4:=ji8 nw;have g1:=hv.lo;have g2:=hv.le;have g3:=hv.hi;rw [X.ws0];unfold yn9;by_cases k1:op=17
 ·subst k1;have em:qbw v5 (⟨(wW nw u v).a_Lo,(wW nw u v).a_Hi⟩:Span) (⟨(wW nw u v).b_Lo,(wW nw u v).b_Hi⟩:Span)=_:=gy9 u v;rw [show ((17:Int)==17)=true from rfl,j8,em,j4,zg9,j4,if_pos (show (17:Int)=17 from rfl)];by_cases h:max u.Lo v.Lo<=min u.Hi v.Hi
  ·rw [if_pos h,if_pos h];rfl
  ·rw [if_neg h,if_neg h];rfl
 rw [show (op==17)=false by simpa using k1,j6,if_neg k1];by_cases k2:op=18
 ·subst k2;have wu:X.qq v5 (⟨u.Lo,u.Hi⟩:Span) (⟨v.Lo,v.Hi⟩:Span)=some (woE u v):=jh4 u v hu;have wv:X.qq v5 (⟨v.Lo,v.Hi⟩:Span) (⟨u.Lo,u.Hi⟩:Span)=some (woE v u):=jh4 v u hv;have j0:X.jp2 (n+1) (wW nw u v).a_Lo (wW nw u v).a_Hi (wW nw u v).b_Lo (wW nw u v).b_Hi (wW nw u v).narrow (wW nw u v).most (wW nw u v).size 0 0 0 0=some (pP (some (woE u v,woE v u))):=by
   show X.jp2 (n+1) u.Lo u.Hi v.Lo v.Hi nw (k9 nw) (if nw then 32 else 64) 0 0 0 0=_;rw [X.ka8,wu,j4,wv,j4];rfl
  rw [show ((18:Int)==18)=true from rfl,j8,jp9,j4,zg9,j4,zg9,j4,e,j0,ky4,if_pos (show (18:Int)=18 from rfl)];by_cases a:u.Lo=u.Hi/\v.Lo=v.Hi
  ·rw [decide_eq_true a,Bool.not_true,j6];by_cases a3:u.Lo=v.Lo
   ·rw [if_pos (c:=u.Lo=u.Hi/\v.Lo=v.Hi/\u.Lo=v.Lo) ⟨a.1,a.2,a3⟩,
     show (!(((wW nw u v).a_Lo==(wW nw u v).b_Lo)&&((wW nw u v).a_Hi==(wW nw u v).b_Hi)))=false by
      show (!((u.Lo==v.Lo)&&(u.Hi==v.Hi)))=false;rw [show (u.Lo==v.Lo)=true by simp [a3],show (u.Hi==v.Hi)=true by simp;omega];rfl]
    rfl
   ·rw [if_neg (c:=u.Lo=u.Hi/\v.Lo=v.Hi/\u.Lo=v.Lo) (fun h=>a3 h.2.2),
     show (!(((wW nw u v).a_Lo==(wW nw u v).b_Lo)&&((wW nw u v).a_Hi==(wW nw u v).b_Hi)))=true by
      show (!((u.Lo==v.Lo)&&(u.Hi==v.Hi)))=true;rw [show (u.Lo==v.Lo)=false by simp [a3]];rfl]
    rfl
  ·rw [decide_eq_false a,Bool.not_false,j8,if_neg (c:=u.Lo=u.Hi/\v.Lo=v.Hi/\u.Lo=v.Lo) (fun h=>a ⟨h.1,h.2.1⟩)];rfl
 rw [show (op==18)=false by simpa using k2,j6,if_neg k2];by_cases k3:op=19
 ·subst k3;rw [show ((19:Int)==19)=true from rfl,j8,zg9,j4,if_pos (show (19:Int)=19 from rfl),zo1,yg8];unfold gtE;by_cases h:u.Hi>v.Lo
  ·rw [if_pos h,show decide ((wW nw u v).a_Hi>(wW nw u v).b_Lo)=true from decide_eq_true h,show IntKind.u64.wrap ((wW nw u v).b_Lo+1)=v.Lo+1 from zo4 (x:=v.Lo+1) (by omega),show IntKind.u64.wrap ((wW nw u v).a_Hi-1)=u.Hi-1 from zo4 (x:=u.Hi-1) (by omega)];rfl
  ·rw [if_neg h,show decide ((wW nw u v).a_Hi>(wW nw u v).b_Lo)=false from decide_eq_false h];rfl
 rw [show (op==19)=false by simpa using k3,j6,if_neg k3];by_cases k4:op=20
 ·subst k4;rw [show ((20:Int)==20)=true from rfl,j8,zg9,j4,if_pos (show (20:Int)=20 from rfl),zo1,yg8];unfold geE;by_cases h:u.Hi>=v.Lo
  ·rw [if_pos h,show decide ((wW nw u v).a_Hi>=(wW nw u v).b_Lo)=true from decide_eq_true h];rfl
  ·rw [if_neg h,show decide ((wW nw u v).a_Hi>=(wW nw u v).b_Lo)=false from decide_eq_false h];rfl
 rw [show (op==20)=false by simpa using k4,j6,if_neg k4];by_cases k5:op=21
 ·subst k5;rw [show ((21:Int)==21)=true from rfl,j8,kz2,j4,qm0 19 v u (.inl rfl) hv hu,j4,if_pos (show (21:Int)=21 from rfl)];exact wb6 _
 ·rw [show (op==21)=false by simpa using k5,j6,show (op==22)=true by simp;omega,j8,kz2,j4,qm0 20 v u (.inr rfl) hv hu,j4,if_neg k5];exact wb6 _
theorem wo9 (yes:Bool) {nw:Bool} (u v:v3) (hu:SpOk nw u) (hv:SpOk nw v):X.qaa v5 (wW nw u v) yes=some (pP (yb8 yes u v)):=by
 obtain ⟨n,e⟩: ∃n:Nat,(v5:Nat)=n+1:=⟨999999999,rfl⟩;have h1:=hu.lo;have h2:=hu.le;have g1:=hv.lo;have g2:=hv.le;have e0:(za9 .u64 (wW nw u v).a_Lo (wW nw u v).b_Lo != (0:Int))= !(decide (u.Lo.toNat&&&v.Lo.toNat=0)):=by
  rw [show za9 .u64 (wW nw u v).a_Lo (wW nw u v).b_Lo=((u.Lo.toNat&&&v.Lo.toNat:Nat):Int) from yc3 hu.u.1 hv.u.1];by_cases k:u.Lo.toNat&&&v.Lo.toNat=0
  ·rw [k];rfl
  ·rw [decide_eq_false k];simp;omega
 have j0:X.qf6 (n+1) (wW nw u v).a_Lo (wW nw u v).a_Hi (wW nw u v).b_Lo (wW nw u v).b_Hi (wW nw u v).narrow (wW nw u v).most (wW nw u v).size 0 0 0 0=some (pP (some (u,v))):=by rw [X.vv7];rfl
 have j1:X.je7 (n+1) (wW nw u v).a_Lo (wW nw u v).a_Hi (wW nw u v).b_Lo (wW nw u v).b_Hi (wW nw u v).narrow (wW nw u v).most (wW nw u v).size 0 0 0 0=some (pP (some (⟨max u.Lo 1,u.Hi⟩,⟨max v.Lo 1,v.Hi⟩))):=by rw [X.vy1,zo1,zo1];rfl
 rw [X.wx3,jp9,j4,zg9,j4,zg9,j4,zg9,j4,zg9,j4,e,j0,j1,e0,ky4];unfold yb8;cases yes with
 |false=>
  rw [Bool.not_false,j8,if_pos (show false=false from rfl)];by_cases a:u.Lo=u.Hi/\v.Lo=v.Hi
  ·rw [decide_eq_true a,Bool.not_true,j6];by_cases k:u.Lo.toNat&&&v.Lo.toNat=0
   ·rw [if_neg (c:=u.Lo=u.Hi/\v.Lo=v.Hi/\u.Lo.toNat&&&v.Lo.toNat≠0) (fun h=>h.2.2 k),decide_eq_true k];rfl
   ·rw [if_pos (c:=u.Lo=u.Hi/\v.Lo=v.Hi/\u.Lo.toNat&&&v.Lo.toNat≠0) ⟨a.1,a.2,k⟩,decide_eq_false k];rfl
  ·rw [decide_eq_false a,Bool.not_false,j8,if_neg (c:=u.Lo=u.Hi/\v.Lo=v.Hi/\u.Lo.toNat&&&v.Lo.toNat≠0) (fun h=>a ⟨h.1,h.2.1⟩)];rfl
 |true=>
  rw [Bool.not_true,j6,if_neg (show ¬(true=false) by decide)];by_cases k1:u.Hi>0
  ·rw [show decide ((wW nw u v).a_Hi>0)=true from decide_eq_true k1,j8];by_cases k2:v.Hi>0
   ·rw [show decide ((wW nw u v).b_Hi>0)=true from decide_eq_true k2,j8];by_cases a:u.Lo=u.Hi/\v.Lo=v.Hi
    ·rw [decide_eq_true a,Bool.not_true,j6];by_cases k:u.Lo.toNat&&&v.Lo.toNat=0
     ·rw [if_neg (c:=u.Hi>0/\v.Hi>0/\ ¬(u.Lo=u.Hi/\v.Lo=v.Hi/\u.Lo.toNat&&&v.Lo.toNat=0)) (fun h=>h.2.2 ⟨a.1,a.2,k⟩),decide_eq_true k];rfl
     ·rw [if_pos (c:=u.Hi>0/\v.Hi>0/\ ¬(u.Lo=u.Hi/\v.Lo=v.Hi/\u.Lo.toNat&&&v.Lo.toNat=0)) ⟨k1,k2,fun h=>k h.2.2⟩,decide_eq_false k];rfl
    ·rw [decide_eq_false a,Bool.not_false,j8,if_pos (c:=u.Hi>0/\v.Hi>0/\ ¬(u.Lo=u.Hi/\v.Lo=v.Hi/\u.Lo.toNat&&&v.Lo.toNat=0)) ⟨k1,k2,fun h=>a ⟨h.1,h.2.1⟩⟩];rfl
   ·rw [show decide ((wW nw u v).b_Hi>0)=false from decide_eq_false k2,j6,if_neg (c:=u.Hi>0/\v.Hi>0/\ ¬(u.Lo=u.Hi/\v.Lo=v.Hi/\u.Lo.toNat&&&v.Lo.toNat=0)) (fun h=>k2 h.2.1)];rfl
  ·rw [show decide ((wW nw u v).a_Hi>0)=false from decide_eq_false k1,j6,if_neg (c:=u.Hi>0/\v.Hi>0/\ ¬(u.Lo=u.Hi/\v.Lo=v.Hi/\u.Lo.toNat&&&v.Lo.toNat=0)) (fun h=>k1 h.1)];rfl
theorem ut9 (nw:Bool) (u v:v3) (x:Int) (h:0<=x/\x<=k9 nw):X.qz v5 (wW nw u v) x=some (zf8 nw x):=by rw [jz1,zy3,jl2 h];rfl
theorem uu0 (nw:Bool) (u v s:v3) (hs:SpOk nw s):X.qan v5 (wW nw u v) s=some (zf8 nw s.Lo != zf8 nw s.Hi):=by rw [vn5,zy3,qn2 hs];rfl
theorem vz7 (op:Int) {nw:Bool} (u v:v3) (hop:23<=op/\op<=26) (hu:SpOk nw u) (hv:SpOk nw v):X.qal v5 (wW nw u v) op=some (pP (yw3 nw op u v)):=by
 obtain ⟨n,e⟩: ∃n:Nat,(v5:Nat)=n+1:=⟨999999999,rfl⟩;have h1:=hu.lo;have h2:=hu.le;have h3:=hu.hi;have h4:=ji8 nw;have g1:=hv.lo;have g2:=hv.le;have g3:=hv.hi;have mu:X.qan v5 (wW nw u v) (⟨(wW nw u v).a_Lo,(wW nw u v).a_Hi⟩:Span)=some (zf8 nw u.Lo != zf8 nw u.Hi):=uu0 nw u v u hu;have mv:X.qan v5 (wW nw u v) (⟨(wW nw u v).b_Lo,(wW nw u v).b_Hi⟩:Span)=some (zf8 nw v.Lo != zf8 nw v.Hi):=uu0 nw u v v hv;have bu:X.qz v5 (wW nw u v) u.Lo=some (zf8 nw u.Lo):=ut9 nw u v u.Lo (by omega);have bv:X.qz v5 (wW nw u v) v.Lo=some (zf8 nw v.Lo):=ut9 nw u v v.Lo (by omega);have jt:X.ys5 (n+1) op true u.Lo u.Hi v.Lo v.Hi nw (k9 nw) (wW nw u v).size 0 0 0 0=some (pP (some (u,v))):=by rw [X.jv2,j8];rfl
 have ew:IntKind.u8.wrap (IntKind.u8.wrap (op-23)+19)=op-4:=by rw [ym4,ym4];omega
 have jf:X.ys5 (n+1) op false u.Lo u.Hi v.Lo v.Hi nw (k9 nw) (wW nw u v).size 0 0 0 0=some (pP (if zf8 nw u.Lo=zf8 nw v.Lo then yn9 (op-4) u v else if (op=23\/op=24)↔zf8 nw v.Lo=true then some (u,v) else none)):=by
  have ep:X.qah v5 (wW nw u v) (op-4)=some (pP (yn9 (op-4) u v)):=qo0 (op-4) u v (by omega) hu hv;rw [X.jv2,j6,ew];show j7 (X.qz v5 (wW nw u v) u.Lo) (fun y1=>j7 (X.qz v5 (wW nw u v) v.Lo) (fun y2=>q7 (y1==y2) (j7 (X.qah v5 (wW nw u v) (op-4)) _) (q7 (op==23) (j7 (X.qz v5 (wW nw u v) v.Lo) _) (j7 (X.qz v5 (wW nw u v) v.Lo) _))))=_;rw [bu,j4,bv,j4,ep,j4,j4,j4];by_cases a3:zf8 nw u.Lo=zf8 nw v.Lo
  ·rw [show (zf8 nw u.Lo==zf8 nw v.Lo)=true by simp [a3],j8,if_pos a3];exact kd6 _
  ·rw [show (zf8 nw u.Lo==zf8 nw v.Lo)=false by simp [a3],j6,if_neg a3,zg9,j4,zg9,j4];by_cases k:op=23
   ·subst k;cases hx:zf8 nw v.Lo<;>rfl
   ·rw [show (op==23)=false by simpa using k,j6];by_cases k2:op=24
    ·subst k2;cases hx:zf8 nw v.Lo<;>rfl
    ·rw [show (op==24)=false by simpa using k2];cases hx:zf8 nw v.Lo with
     |true=>rw [if_neg (c:=(op=23\/op=24)↔true=true) (fun h=>by have:=h.2 rfl;omega)];rfl
     |false=>rw [if_pos (c:=(op=23\/op=24)↔false=true) ⟨fun h=>by omega,fun h=>by cases h⟩];rfl
 rw [X.wr6,mu,j4,mv,j4,e];show q7 _ (X.ys5 (n+1) op true u.Lo u.Hi v.Lo v.Hi nw (k9 nw) (wW nw u v).size 0 0 0 0) (X.ys5 (n+1) op _ u.Lo u.Hi v.Lo v.Hi nw (k9 nw) (wW nw u v).size 0 0 0 0)=_;rw [jt];unfold yw3;by_cases a1:zf8 nw u.Lo=zf8 nw u.Hi
 ·by_cases a2:zf8 nw v.Lo=zf8 nw v.Hi
  ·rw [show (zf8 nw u.Lo != zf8 nw u.Hi)=false by simp [a1],show (zf8 nw v.Lo != zf8 nw v.Hi)=false by simp [a2],j6,jf,if_neg (c:=zf8 nw u.Lo≠zf8 nw u.Hi\/zf8 nw v.Lo≠zf8 nw v.Hi) (fun h=>h.elim (fun h=>h a1) (fun h=>h a2))]
  ·rw [show (zf8 nw u.Lo != zf8 nw u.Hi)=false by simp [a1],show (zf8 nw v.Lo != zf8 nw v.Hi)=true by simp [a2],j6,jt,if_pos (.inr a2)]
 ·rw [show (zf8 nw u.Lo != zf8 nw u.Hi)=true by simp [a1],j8,if_pos (.inl a1)]
end Go.Y
namespace Go.Y
open Go.RowKit Go.V Go.X Go.Proofs
theorem ud2 (op:Int) (yes:Bool) {nw:Bool} (u v:v3) (hop:17<=op/\op<=27) (hu:SpOk nw u) (hv:SpOk nw v):X.qaw v5 (wW nw u v) op yes=some (pP (kg0 nw op yes u v)):=by
 obtain ⟨n,e⟩: ∃n:Nat,(v5:Nat)=n+1:=⟨999999999,rfl⟩;have j0: ∀p:Int,17<=p/\p<=26->X.jr4 (n+1) p (wW nw u v).a_Lo (wW nw u v).a_Hi (wW nw u v).b_Lo (wW nw u v).b_Hi (wW nw u v).narrow (wW nw u v).most (wW nw u v).size 0 0 0 0=some (pP (if p>=23 then yw3 nw p u v else yn9 p u v)):=fun p hp=>by
  rw [X.vu5];show q7 (decide (p>=23)) (j7 (X.qal v5 (wW nw u v) p) _) (j7 (X.qah v5 (wW nw u v) p) _)=_;by_cases k:p>=23
  ·rw [decide_eq_true k,j8,vz7 p u v (by omega) hu hv,j4,if_pos k];exact kd6 _
  ·rw [decide_eq_false k,j6,qo0 p u v (by omega) hu hv,j4,if_neg k];exact kd6 _
 rw [X.ud4,e];unfold kg0;by_cases k:op=27
 ·rw [show (op==27)=true by simp [k],j8,<-e,wo9 yes u v hu hv,j4,if_pos k];exact kd6 _
 ·rw [show (op==27)=false by simp [k],j6,if_neg k];cases yes with
  |true=>rw [Bool.not_true,j6,j0 op (by omega)];rfl
  |false=>
   have ho:=kj4 (op:=op) (by omega);rw [Bool.not_false,j8,X.wl8,j4,if_pos (by omega)];have hg:([0,0,0,0,0,0,0,0,0,0,0,0,0,0,0,0,0,18,17,22,21,20,19,26,25,24,23,27]:List Int).getD op.toNat 0=ji0 op:=by
    have hh:op=17\/op=18\/op=19\/op=20\/op=21\/op=22\/op=23\/op=24\/op=25\/op=26:=by omega
    rcases hh with rfl|rfl|rfl|rfl|rfl|rfl|rfl|rfl|rfl|rfl<;>rfl
   show X.jr4 (n+1) (([0,0,0,0,0,0,0,0,0,0,0,0,0,0,0,0,0,18,17,22,21,20,19,26,25,24,23,27]:List Int).getD op.toNat 0) (wW nw u v).a_Lo (wW nw u v).a_Hi (wW nw u v).b_Lo (wW nw u v).b_Hi (wW nw u v).narrow (wW nw u v).most (wW nw u v).size 0 0 0 0=_;rw [hg,j0 _ (by omega)];rfl
theorem wg4 (op:Int) (nw yes:Bool) (a b:v3) (ha:w9 a.Lo/\w9 a.Hi) (hb:w9 b.Lo/\w9 b.Hi):X.qai v5 op nw yes a b=some ((),((ifE op nw yes a b).1,(ifE op nw yes a b).2.1,(ifE op nw yes a b).2.2,())):=by
 obtain ⟨n,e⟩: ∃n:Nat,(v5:Nat)=n+1:=⟨999999999,rfl⟩;rw [X.wq6,zc2,j4,zc2,j4,zp1,j4,e];unfold ifE;by_cases h1:op<17
 ·rw [decide_eq_true h1,j8,if_neg (fun h=>by have:=h.1.1;omega)]
 rw [decide_eq_false h1,j6];by_cases h2:op>27
 ·rw [decide_eq_true h2,j8,if_neg (fun h=>by have:=h.1.2;omega)]
 rw [decide_eq_false h2,j6];by_cases h3:a.Lo<=a.Hi
 ·rw [show w5 a=true from decide_eq_true h3,Bool.not_true,j6];by_cases h4:b.Lo<=b.Hi
  ·rw [show w5 b=true from decide_eq_true h4,Bool.not_true,j6,if_pos ⟨by omega,h3,h4⟩,<-e,ud2 op yes _ _ (by omega) (zu6 ha h3) (zu6 hb h4),j4,e];cases kg0 nw op yes (qh a nw) (qh b nw) with
   |none=>show j7 (X.qey 0 0 0 0 false) _=_;rw [X.wk4,j4];rfl
   |some p=>
    have j0: ∀x:v3,X.jc8 (n+1) x.Lo x.Hi p.2.Lo p.2.Hi false b.Lo b.Hi (qh a nw).Lo (qh a nw).Hi (qh b nw).Lo (qh b nw).Hi nw (k9 nw) (if nw then 32 else 64)=some ((),(x,if b.Hi>k9 nw then b else p.2,true,())):=fun x=>by
     rw [X.kb3,X.ga0,j4,X.ga0,j4];by_cases k:b.Hi>k9 nw
     ·rw [decide_eq_true k,if_pos k];rfl
     ·rw [decide_eq_false k,if_neg k];rfl
    show q7 (decide (a.Hi>k9 nw)) (X.jc8 (n+1) a.Lo a.Hi p.2.Lo p.2.Hi false b.Lo b.Hi (qh a nw).Lo (qh a nw).Hi (qh b nw).Lo (qh b nw).Hi nw (k9 nw) (if nw then 32 else 64)) (X.jc8 (n+1) p.1.Lo p.1.Hi p.2.Lo p.2.Hi false b.Lo b.Hi (qh a nw).Lo (qh a nw).Hi (qh b nw).Lo (qh b nw).Hi nw (k9 nw) (if nw then 32 else 64))=_;rw [j0,j0];unfold uj0;by_cases k:a.Hi>k9 nw
    ·rw [decide_eq_true k];simp only [if_pos k];rfl
    ·rw [decide_eq_false k];simp only [if_neg k];rfl
  ·rw [show w5 b=false from decide_eq_false h4,Bool.not_false,j8,if_neg (fun h=>h4 h.2.2)]
 ·rw [show w5 a=false from decide_eq_false h3,Bool.not_false,j8,if_neg (fun h=>h3 h.2.1)]
end Go.Y
namespace Go.Y
open Go.RowKit Go.V Go.X Go.Proofs
structure TKnown where
 Kind:Int
 In:v3
def zg2 (a0:TKnown):Bool:=(if (a0.Kind==(4:Int)) then ((a0.In.Lo==(0:Int))&&(a0.In.Hi==(0:Int))) else (if (a0.Kind==(0:Int)) then ((a0.In.Lo==(0:Int))&&(a0.In.Hi==(0:Int))) else (if (a0.Kind==(1:Int)) then (zc8 (w5 a0.In) fun x37=>x37) else (if (a0.Kind==(2:Int)) then (zc8 (w5 a0.In) fun x50=>x50) else ((a0.Kind==(3:Int))&&((a0.In.Lo==(zn9 a0.In.Lo).Lo)&&(a0.In.Hi==(zn9 a0.In.Lo).Hi)))))))
def qac (a0:TKnown):(v3×Bool):=(if (a0.Kind==(4:Int)) then ((⟨(0:Int),(65535:Int)⟩:v3),true) else (a0.In,(a0.Kind==(1:Int))))
def zq2 (a0:TKnown) (a1:TKnown):TKnown:=(zc8 (qac a0) fun x34=>(zc8 (qac a1) fun x59=>(zc8 (zg2 a0) fun x85=>(if ((!x85)||(!(zg2 a1))) then (⟨(0:Int),(⟨(0:Int),(0:Int)⟩:v3)⟩:TKnown) else (if ((a0.Kind==a1.Kind)&&((a0.In.Lo==a1.In.Lo)&&(a0.In.Hi==a1.In.Hi))) then a0 else (if (x34.2&&x59.2) then (zc8 (zv0 x34.1 x59.1) fun x134=>(⟨(1:Int),x134⟩:TKnown)) else (if ((a0.Kind==(2:Int))&&(a1.Kind==(2:Int))) then (zc8 (zv0 a0.In a1.In) fun x163=>(⟨(2:Int),x163⟩:TKnown)) else (⟨(0:Int),(⟨(0:Int),(0:Int)⟩:v3)⟩:TKnown))))))))
def qbo (a0:v3) (a1:Bool):Bool:=(zc8 (jk1 a0 (0:Int)) fun x13=>(x13||(a1&&(!(ja9 a0 (zh5 true))))))
def ye1 (a0:Int) (_a1:Bool) (_a2:TKnown) (_a3:TKnown) (v100:Int) (v101:Int) (v102:Int) (_v103:Int) (_v104:Int) (_v105:Int) (_x160:(v3×Bool)) (x185:(v3×Bool)) (v200:Bool):(TKnown×Int):=(if v200 then ((⟨v100,(span_Do a0 false (⟨v101,v102⟩:v3) x185.1)⟩:TKnown),(0:Int)) else ((⟨(0:Int),(⟨(0:Int),(0:Int)⟩:v3)⟩:TKnown),(114:Int)))
def zk1 (a0:Int) (a1:Bool) (a2:TKnown) (a3:TKnown) (v100:Int) (v101:Int) (v102:Int) (v103:Int) (v104:Int) (v105:Int):(TKnown×Int):=(zc8 (qac (⟨v100,(⟨v101,v102⟩:v3)⟩:TKnown)) fun x160=>(zc8 (qac (⟨v103,(⟨v104,v105⟩:v3)⟩:TKnown)) fun x185=>(if (((x160.2&&x185.2)&&((a0==(4:Int))||(a0==(5:Int))))&&(qbo x185.1 a1)) then ((⟨(0:Int),(⟨(0:Int),(0:Int)⟩:v3)⟩:TKnown),(113:Int)) else (if (x160.2&&x185.2) then (zc8 (span_Do a0 a1 x160.1 x185.1) fun x248=>((⟨(1:Int),x248⟩:TKnown),(0:Int))) else (if (((((a0==(1:Int))||(a0==(2:Int)))&&(!a1))&&x185.2)&&(v100==(2:Int))) then (ye1 a0 a1 a2 a3 v100 v101 v102 v103 v104 v105 x160 x185 true) else (ye1 a0 a1 a2 a3 v100 v101 v102 v103 v104 v105 x160 x185 ((((((a0==(1:Int))||(a0==(2:Int)))&&(!a1))&&x185.2)&&(v100==(3:Int)))&&(x185.1.Lo==x185.1.Hi))))))))
def yg5 (a0:Int) (a1:Bool) (a2:TKnown) (a3:TKnown):(TKnown×Int):=(if ((((decide (a0<(1:Int)))||(decide (a0>(13:Int))))||(!(zg2 a2)))||(!(zg2 a3))) then ((⟨(0:Int),(⟨(0:Int),(0:Int)⟩:v3)⟩:TKnown),(2:Int)) else (if (((a0 != (12:Int))&&(a2.Kind==(0:Int)))||((a0 != (13:Int))&&(a3.Kind==(0:Int)))) then ((⟨(0:Int),(⟨(0:Int),(0:Int)⟩:v3)⟩:TKnown),(110:Int)) else (if ((a0==(12:Int))&&(!a1)) then (a3,(0:Int)) else (if (a0==(12:Int)) then (zk1 a0 a1 a2 a3 a3.Kind a3.In.Lo a3.In.Hi a3.Kind a3.In.Lo a3.In.Hi) else (if (a0==(13:Int)) then (zk1 a0 a1 a2 a3 a2.Kind a2.In.Lo a2.In.Hi a2.Kind a2.In.Lo a2.In.Hi) else (zk1 a0 a1 a2 a3 a2.Kind a2.In.Lo a2.In.Hi a3.Kind a3.In.Lo a3.In.Hi))))))
def tk (k:Known):TKnown:=⟨k.Kind,⟨k.In_Lo,k.In_Hi⟩⟩
def ofT (t:TKnown):Known:=⟨t.Kind,t.In.Lo,t.In.Hi⟩
theorem uk8 (s:v3) (x:Int):qdc v5 s x=some (jk1 s x):=by rw [ue9,zu7];rfl
theorem kj9 (s t:v3):qdd v5 s t=some (ja9 s t):=by rw [wl7,zu7];rfl
theorem gp8 (s t:v3):qcl v5 s t=some (zv0 s t):=by rw [ww1];rfl
theorem yu8 (k:Known):qw v5 k=some (zg2 (tk k)):=by
 obtain ⟨n,e⟩: ∃n:Nat,(v5:Nat)=n+1:=⟨999999999,rfl⟩;have h:qw (n+1) k=some (zg2 (tk k)):=by
  rw [ul5,kl3,kk7,zc2,ky7,j4,j4];simp only [zb7];congr 1;simp only [zg2,zc8,tk,w5,zn9];by_cases h4:k.Kind=4
  ·simp [h4]
  by_cases h3:k.Kind=3
  ·simp [h3]
  by_cases h0:k.Kind=0
  ·simp [h0]
  by_cases h1:k.Kind=1
  ·simp [h1];rfl
  by_cases h2:k.Kind=2
  ·simp [h2];rfl
  simp [h0,h1,h2,h3,h4]
 rw [e];exact h
theorem ym6 (k:Known):X.qac v5 k=some (qac (tk k)):=by
 rw [X.wq5,zb7];congr 1
theorem vp2 (a b:Known):qp v5 a b=some (ofT (zq2 (tk a) (tk b))):=by
 obtain ⟨n,e⟩: ∃n:Nat,(v5:Nat)=n+1+1+1:=⟨999999997,rfl⟩;have h:qp (n+1+1+1) a b=some (ofT (zq2 (tk a) (tk b))):=by
  rw [uq9,ym6,j4,ym6,j4,yu8,j4,yu8,j4];unfold zq2;simp only [zc8];generalize zg2 (tk a)=ra;generalize zg2 (tk b)=rb;simp only [kh9,kl0,kj5,gp8,j4,zb7];congr 1;cases ra with
  |false=>rfl
  |true=>
   cases rb with
   |false=>rfl
   |true=>
    simp only [Bool.not_true,Bool.or_self,Bool.false_eq_true,if_false];by_cases he:((a.Kind==b.Kind)&&((a.In_Lo==b.In_Lo)&&(a.In_Hi==b.In_Hi)))=true
    ·rw [if_pos he,if_pos (show ((tk a).Kind==(tk b).Kind&&((tk a).In.Lo==(tk b).In.Lo&&(tk a).In.Hi==(tk b).In.Hi))=true from he)];rfl
    ·rw [if_neg he,if_neg (show ¬((tk a).Kind==(tk b).Kind&&((tk a).In.Lo==(tk b).In.Lo&&(tk a).In.Hi==(tk b).In.Hi))=true from he)];show _=ofT (if ((qac (tk a)).2&&(qac (tk b)).2)=true then _ else if ((a.Kind==2)&&(b.Kind==2))=true then _ else _);generalize qac (tk a)=na;generalize qac (tk b)=nb;obtain ⟨sa,ca⟩:=na;obtain ⟨sb,cb⟩:=nb;cases ca<;>cases cb<;>cases (a.Kind==2)<;>cases (b.Kind==2)<;>rfl
 rw [e];exact h
theorem vs5 (s:v3) (nw:Bool):X.qbo v5 s nw=some (qbo s nw):=by
 rw [X.ub8,uk8,j4,zv5,j4,kj9,j4];simp only [zb7];congr 1;unfold qbo;simp only [zc8];cases jk1 s 0<;>cases nw<;>rfl
theorem qg4 {a:TKnown} (h:w9 a.In.Lo/\w9 a.In.Hi):w9 (qac a).1.Lo/\w9 (qac a).1.Hi:=by
 unfold qac;split
 ·exact ⟨by decide,by decide⟩
 ·exact h
def pk (x:TKnown×Int):Known×Int:=(ofT x.1,x.2)
theorem vi5 (n:Nat) (op:Int) (nw:Bool) (p q:TKnown) (x y:Known) (hx:w9 x.In_Lo/\w9 x.In_Hi) (hy:w9 y.In_Lo/\w9 y.In_Hi) (z0 z1 z2:Int) (hz:z0=0/\z1=0/\z2=0):
  vd0 (n+1+1+1+1+1+1) op nw x.Kind x.In_Lo x.In_Hi y.Kind y.In_Lo y.In_Hi z0 z1 z2=some (pk (zk1 op nw p q x.Kind x.In_Lo x.In_Hi y.Kind y.In_Lo y.In_Hi)):=by
 obtain ⟨rfl,rfl,rfl⟩:=hz;have nx:=qg4 (a:=tk x) hx;have ny:=qg4 (a:=tk y) hy;rw [km4,show (⟨x.Kind,x.In_Lo,x.In_Hi⟩:Known)=x from rfl,show (⟨y.Kind,y.In_Lo,y.In_Hi⟩:Known)=y from rfl,ym6,j4,ym6,j4];unfold zk1;simp only [zc8];rw [show (⟨x.Kind,⟨x.In_Lo,x.In_Hi⟩⟩:TKnown)=tk x from rfl,show (⟨y.Kind,⟨y.In_Lo,y.In_Hi⟩⟩:TKnown)=tk y from rfl];generalize qac (tk x)=na at nx⊢;generalize qac (tk y)=nb at ny⊢;obtain ⟨⟨sl,sh⟩,c1⟩:=na;obtain ⟨⟨tl,th⟩,c2⟩:=nb;have hd1:=ut8 op nw ⟨sl,sh⟩ ⟨tl,th⟩ nx ny;have hd2:=ut8 op false ⟨x.In_Lo,x.In_Hi⟩ ⟨tl,th⟩ hx ny;simp only [kn0,kq7,kq8,kp9,ki8,vs5,j4,hd1,hd2,zb7];refine congrArg some ?_;unfold ye1;generalize qbo ⟨tl,th⟩ nw=nt;generalize (tl==th)=et;generalize (x.Kind==2)=k2;generalize (x.Kind==3)=k3;generalize (op==1)=o1;generalize (op==2)=o2;generalize (op==4)=o4;generalize (op==5)=o5;clear hd1 hd2;cases c1 with
 |true=>cases c2 with
  |true=>cases o4<;>cases o5<;>cases nt<;>cases o1<;>cases o2<;>cases nw<;>rfl
  |false=>cases o1<;>cases o2<;>cases nw<;>rfl
 |false=>cases c2 with
  |true=>cases o1<;>cases o2<;>cases nw<;>cases k2<;>cases k3<;>cases et<;>rfl
  |false=>cases o1<;>cases o2<;>cases nw<;>rfl
theorem um5 (op:Int) (nw:Bool) (a b:Known) (ha:w9 a.In_Lo/\w9 a.In_Hi) (hb:w9 b.In_Lo/\w9 b.In_Hi):qb v5 op nw a b=some (pk (yg5 op nw (tk a) (tk b))):=by
 obtain ⟨n,e⟩: ∃n:Nat,(v5:Nat)=n+1+1+1+1+1+1+1+1+1:=⟨999999991,rfl⟩;have h:qb (n+1+1+1+1+1+1+1+1+1) op nw a b=some (pk (yg5 op nw (tk a) (tk b))):=by
  have e1:=vi5 n op nw (tk a) (tk b) b b hb hb 0 0 0 ⟨rfl,rfl,rfl⟩;have e2:=vi5 n op nw (tk a) (tk b) a a ha ha 0 0 0 ⟨rfl,rfl,rfl⟩;have e3:=vi5 n op nw (tk a) (tk b) a b ha hb 0 0 0 ⟨rfl,rfl,rfl⟩;rw [uq5,yu8,j4,yu8,j4];unfold yg5;generalize zg2 (tk a)=ra;generalize zg2 (tk b)=rb;simp only [ks3,ks4,ks2,e1,e2,e3,zb7];refine congrArg some ?_;simp only [tk];by_cases h1:op<1
  ·simp [h1,pk,ofT]
  by_cases h2:op>13
  ·simp [h1,h2,pk,ofT]
  simp only [decide_eq_false h1,decide_eq_false h2,Bool.false_eq_true,if_false,Bool.false_or];cases ra with
  |false=>rfl
  |true=>
   cases rb with
   |false=>rfl
   |true=>
    by_cases h12:op=12
    ·subst h12;by_cases hb0:b.Kind=0<;>cases nw<;>simp [hb0,pk,ofT]
    ·by_cases h13:op=13
     ·subst h13;by_cases ha0:a.Kind=0<;>simp [ha0,pk,ofT]
     ·simp only [show (op==12)=false from beq_eq_false_iff_ne.2 h12,show (op==13)=false from beq_eq_false_iff_ne.2 h13,show (op != 12)=true from bne_iff_ne.2 h12,show (op != 13)=true from bne_iff_ne.2 h13];by_cases ha0:a.Kind=0<;>by_cases hb0:b.Kind=0<;>simp [ha0,hb0,pk,ofT]
 rw [e];exact h
theorem up6 {op:Int} {nw:Bool} {a b:TKnown} (ha:w9 a.In.Lo/\w9 a.In.Hi) (hb:w9 b.In.Lo/\w9 b.In.Hi):w9 (yg5 op nw a b).1.In.Lo/\w9 (yg5 op nw a b).1.In.Hi:=by
 have z:w9 (0:Int)/\w9 (0:Int):=⟨by decide,by decide⟩;have sp: ∀(nw:Bool) (s t:v3),w9 s.Lo/\w9 s.Hi->w9 t.Lo/\w9 t.Hi->w9 (span_Do op nw s t).Lo/\w9 (span_Do op nw s t).Hi:=by
  intro nw s t hs ht;rw [zv7];split
  ·rename_i h;have:=(kk9 h.1 (nw:=nw) hs ht h.2.1 h.2.2).1;rw [zv7,if_pos h] at this;exact this.u
  ·cases nw<;>exact ⟨by decide,by decide⟩
 have j0: ∀(x y:TKnown),w9 x.In.Lo/\w9 x.In.Hi->w9 y.In.Lo/\w9 y.In.Hi->w9 (zk1 op nw a b x.Kind x.In.Lo x.In.Hi y.Kind y.In.Lo y.In.Hi).1.In.Lo/\w9 (zk1 op nw a b x.Kind x.In.Lo x.In.Hi y.Kind y.In.Lo y.In.Hi).1.In.Hi:=by
  intro x y hx hy;have nx:=qg4 hx;have ny:=qg4 hy;unfold zk1;simp only [zc8];rw [show (⟨x.Kind,⟨x.In.Lo,x.In.Hi⟩⟩:TKnown)=x from rfl,show (⟨y.Kind,⟨y.In.Lo,y.In.Hi⟩⟩:TKnown)=y from rfl];unfold ye1;split
  ·exact z
  ·split
   ·exact sp _ _ _ nx ny
   ·split
    ·exact sp _ _ _ hx ny
    ·split
     ·exact sp _ _ _ hx ny
     ·exact z
 unfold yg5;split
 ·exact z
 ·split
  ·exact z
  ·split
   ·exact hb
   ·split
    ·exact j0 _ _ hb hb
    ·split
     ·exact j0 _ _ ha ha
     ·exact j0 _ _ ha hb
theorem go6 {a b:TKnown} (ha:w9 a.In.Lo/\w9 a.In.Hi) (hb:w9 b.In.Lo/\w9 b.In.Hi):w9 (zq2 a b).In.Lo/\w9 (zq2 a b).In.Hi:=by
 have z:w9 (0:Int)/\w9 (0:Int):=⟨by decide,by decide⟩;have sj: ∀(s t:v3),w9 s.Lo/\w9 s.Hi->w9 t.Lo/\w9 t.Hi->w9 (zv0 s t).Lo/\w9 (zv0 s t).Hi:=by
  intro s t hs ht;unfold zv0 yi9 zl5;constructor
  ·show w9 (if _ then _ else _);split
   ·exact ht.1
   ·exact hs.1
  ·show w9 (if _ then _ else _);split
   ·exact ht.2
   ·exact hs.2
 have nx:=qg4 ha;have ny:=qg4 hb;unfold zq2;simp only [zc8];split
 ·exact z
 ·split
  ·exact ha
  ·split
   ·exact sj _ _ nx ny
   ·split
    ·exact sj _ _ ha hb
    ·exact z
end Go.Y
namespace Go.Y
open Go.RowKit Go.V Go.X Go.Proofs
abbrev Pl:=Go.X.Place
abbrev PW:=(List Ins×Unit×Int×Bool×Unit×List Bool×Int×Unit)×List Pl×List Known×Unit
def W (l:List Ins) (ps:List Pl) (a:Int) (w:Pl):PW:=((l,(),a,w.Live,(),w.Bytes,w.Least,()),ps,w.Regs,())
def toS {α:Type} (x:α⊕Int):(α×Unit)⊕(Int×Unit):=match x with| .inl a=>.inl (a,())| .inr e=>.inr (e,())
theorem zy9 (c:Bool) (e:Int):qad v5 c e=some ((),if c=true then .inr (e,()) else .inl ()):=by rw [wy7];cases c<;>rfl
theorem jz8 (e:Int):qbp v5 e=some ((),if e=0 then .inl () else .inr (e,())):=by
 rw [wy3,zy9,j4];by_cases h:e=0
 ·subst h;rfl
 ·rw [if_neg h,show (e != 0)=true from bne_iff_ne.2 h];rfl
def yo1 (least:Int) (k:Known):v3⊕Int:=if k.Kind=0 then .inr 110 else if k.Kind=1 then .inl ⟨k.In_Lo,k.In_Hi⟩ else if k.Kind=4 then .inl ⟨IntKind.u64.wrap least,65535⟩ else .inr 111
theorem yj2 (l:List Ins) (ps:List Pl) (a:Int) (w:Pl) (k:Known):qt v5 l ps a w.Live w.Regs w.Bytes w.Least k=some (W l ps a w,toS (yo1 w.Least k)):=by
 rw [wb3];simp only [zy9,j4,zr1];unfold yo1;by_cases h0:k.Kind=0
 ·simp [h0];exact ⟨rfl,rfl⟩
 by_cases h1:k.Kind=1
 ·simp [h1];exact ⟨rfl,rfl⟩
 by_cases h4:k.Kind=4
 ·simp [h4];exact ⟨rfl,rfl⟩
 ·simp [h0,h1,h4];exact ⟨rfl,rfl⟩
def jt1 (regs:List Known) (i:Ins):Known:=if i.UseImm=true then ⟨1,IntKind.u64.wrap i.Imm,IntKind.u64.wrap i.Imm⟩ else regs.getD i.Src.toNat v8
theorem jn5 (l:List Ins) (ps:List Pl) (a:Int) (w:Pl) (i:Ins) (hr:w.Regs.length=11) (hs:i.UseImm=true\/0<=i.Src/\i.Src<=10):qae v5 l ps a w.Live w.Regs w.Bytes w.Least i=some (W l ps a w,(jt1 w.Regs i,())):=by
 rw [kv1,ky7,j4];unfold jt1;by_cases h:i.UseImm=true
 ·rw [h,j8];rfl
 ·rw [Bool.not_eq_true] at h;have hs:=hs.resolve_left (by rw [h];decide);rw [h,j6,if_pos (by omega)];rfl
theorem yd6 (lv:Bool) (rs:List Known) (bs:List Bool) (n:Int) (hr:rs.length=11) (hb:bs.length<=512):qay v5 lv rs bs n=some ((rs,()),((lv,rs,bs,n,()),())):=by
 have e1:qdh v5 rs=some rs:=by
  rw [wu0,if_pos (by rw [hr];decide),List.nil_append];cases rs with
  |nil=>exact jv9 _ _
  |cons x r=>rfl
 have e2:qdi v5 bs=some bs:=by
  rw [wx5,if_pos (by omega),List.nil_append];cases bs with
  |nil=>exact jv9 _ _
  |cons x r=>rfl
 rw [wy1,e1,j4,e2,j4]
def gf0 (a b:Known):Known:=ofT (zq2 (tk a) (tk b))
def jr (q p:List Known):Nat->List Known
 |0=>q
 |k+1=>(jr q p k).set k (gf0 (q.getD k v8) (p.getD k v8))
theorem jd5 (q p:List Known): ∀k,(jr q p k).length=q.length
 |0=>rfl
 |k+1=>by rw [jr,List.length_set,jd5 q p k]
theorem wf7 (q p:List Known) (j:Nat): ∀k,(jr q p k)[j]?=if j<k/\j<q.length then some (gf0 (q.getD j v8) (p.getD j v8)) else q[j]?
 |0=>by rw [jr,if_neg (by omega)]
 |k+1=>by
  rw [jr,List.getElem?_set,jd5,wf7 q p j k];by_cases hk:k=j
  ·subst hk;rw [if_pos rfl];by_cases hl:k<q.length
   ·rw [if_pos hl,if_pos ⟨by omega,hl⟩]
   ·rw [if_neg hl,if_neg (by omega),List.getElem?_eq_none (by omega)]
  ·rw [if_neg hk];by_cases h:j<k/\j<q.length
   ·rw [if_pos h,if_pos (by omega)]
   ·rw [if_neg h,if_neg (by omega)]
theorem ky5 (q p:List Known) (k:Nat):(jr q p k).getD k v8=q.getD k v8:=by
 rw [List.getD_eq_getElem?_getD,wf7,if_neg (by omega),<-List.getD_eq_getElem?_getD]
def zu0 (ps:List Pl) (k:Nat) (p:Pl):List Pl:=if (ps.getD k k8).Live=true then ps.set k ⟨true,jr (ps.getD k k8).Regs p.Regs 11,vb1 (ps.getD k k8).Bytes p.Bytes,yi9 (ps.getD k k8).Least p.Least⟩ else ps.set k p
theorem vo7 (l:List Ins) (ps:List Pl) (a:Int) (w:Pl) (t:Int) (ht:0<=t/\t<(ps.length:Int)) (hr:w.Regs.length=11) (hb:w.Bytes.length<=512) (hq:(ps.getD t.toNat k8).Live=true->(ps.getD t.toNat k8).Regs.length=11):
  qy v5 l ps a w.Live w.Regs w.Bytes w.Least t w.Live w.Bytes w.Least=some (W l (zu0 ps t.toNat w) a w,()):=by
 rw [uq3,if_pos ht,if_pos (by omega)];unfold zu0;cases hl:(ps.getD t.toNat k8).Live with
 |false=>rw [Bool.not_false,j8,yd6 _ _ _ _ hr hb,j4,if_pos (by omega),if_neg (by decide)];rfl
 |true=>
  rw [Bool.not_true,j6,if_pos (by omega),if_pos rfl];have hq:=hq hl;refine vd4 (fun n k=>js2 n t.toNat (((ps.getD t.toNat k8).Regs.length:Nat):Int) (k:Int) l a w.Live w.Bytes w.Least ps t.toNat true (ps.getD t.toNat k8).Bytes (ps.getD t.toNat k8).Least w.Regs w.Live w.Bytes w.Least (jr (ps.getD t.toNat k8).Regs w.Regs k)) 1 11 _ (fun n k hk=>?_) (fun n=>?_) v5 (by unfold v5;omega)
  ·show js2 (n+1) _ _ (k:Int) _ _ _ _ _ _ _ _ _ _ _ _ _ _ _=js2 n _ _ ((k+1:Nat):Int) _ _ _ _ _ _ _ _ _ _ _ _ _ _ (jr _ _ (k+1));rw [qx1,decide_eq_true (by omega),j8,if_pos rfl,if_pos rfl,jd5,hq,hr,if_pos (by omega),if_pos (by omega),Int.toNat_natCast,ky5,vp2,j4,if_pos (by omega),nx hk (by omega)];rfl
  ·show js2 (n+1) _ _ ((11:Nat):Int) _ _ _ _ _ _ _ _ _ _ _ _ _ _ _=_;rw [qx1,hq,decide_eq_false (by omega),j6,if_pos rfl,wf2,j4,if_pos rfl,if_pos rfl,if_pos rfl];rfl
theorem vq2 (l:List Ins) (ps:List Pl) (a:Int) (w p:Pl) (t:Int) (ht:0<=t/\t<(ps.length:Int)) (hr:p.Regs.length=11) (hb:p.Bytes.length<=512) (hq:(ps.getD t.toNat k8).Live=true->(ps.getD t.toNat k8).Regs.length=11):
  qaj v5 l ps a w.Live w.Regs w.Bytes w.Least t p.Live p.Regs p.Bytes p.Least=some (((l,(),a,w.Live,(),w.Bytes,w.Least,()),zu0 ps t.toNat p,w.Regs,p.Regs,()),()):=by
 rw [ue1,if_pos ht,if_pos (by omega)];unfold zu0;cases hl:(ps.getD t.toNat k8).Live with
 |false=>rw [Bool.not_false,j8,yd6 _ _ _ _ hr hb,j4,if_pos (by omega),if_neg (by decide)]
 |true=>
  rw [Bool.not_true,j6,if_pos (by omega),if_pos rfl];have hq:=hq hl;refine vd4 (fun n k=>ys4 n t.toNat (((ps.getD t.toNat k8).Regs.length:Nat):Int) (k:Int) l a w.Live w.Bytes w.Least ps t.toNat true (ps.getD t.toNat k8).Bytes (ps.getD t.toNat k8).Least w.Regs p.Regs p.Live p.Bytes p.Least (jr (ps.getD t.toNat k8).Regs p.Regs k)) 1 11 _ (fun n k hk=>?_) (fun n=>?_) v5 (by unfold v5;omega)
  ·show ys4 (n+1) _ _ (k:Int) _ _ _ _ _ _ _ _ _ _ _ _ _ _ _ _=ys4 n _ _ ((k+1:Nat):Int) _ _ _ _ _ _ _ _ _ _ _ _ _ _ _ (jr _ _ (k+1));rw [jv4,decide_eq_true (by omega),j8,if_pos rfl,if_pos rfl,jd5,hq,hr,if_pos (by omega),if_pos (by omega),Int.toNat_natCast,ky5,vp2,j4,if_pos (by omega),nx hk (by omega)];rfl
  ·show ys4 (n+1) _ _ ((11:Nat):Int) _ _ _ _ _ _ _ _ _ _ _ _ _ _ _ _=_;rw [jv4,hq,decide_eq_false (by omega),j6,if_pos rfl,wf2,j4,if_pos rfl,if_pos rfl,if_pos rfl]
end Go.Y
namespace Go.Y
open Go.RowKit Go.V Go.X Go.Proofs
abbrev Out:=List (Int×Pl)⊕Int
def zg4 (ps:List Pl):List (Int×Pl)->List Pl
 | []=>ps
 |x::r=>zg4 (zu0 ps x.1.toNat x.2) r
def zm2 (ps:List Pl) (o:Out):List Pl:=match o with| .inl ts=>zg4 ps ts| .inr _=>ps
def yu7 (o:Out):Unit⊕(Int×Unit):=match o with| .inl _=>.inl ()| .inr e=>.inr (e,())
def QOk (ps:List Pl):Prop:= ∀k,(ps.getD k k8).Live=true->(ps.getD k k8).Regs.length=11
theorem zv1 (ps:List Pl) (k j:Nat) (p:Pl):(ps.set k p).getD j k8=if k=j/\j<ps.length then p else ps.getD j k8:=by
 rw [List.getD_eq_getElem?_getD,List.getD_eq_getElem?_getD,List.getElem?_set];by_cases h:k=j
 ·subst h;by_cases hl:k<ps.length
  ·rw [if_pos rfl,if_pos hl,if_pos ⟨rfl,hl⟩];rfl
  ·rw [if_pos rfl,if_neg hl,if_neg (fun h=>hl h.2),List.getElem?_eq_none (by omega)]
 ·rw [if_neg h,if_neg (fun h2=>h h2.1)]
theorem ju3 (ps:List Pl) (k:Nat) (p:Pl):(zu0 ps k p).length=ps.length:=by unfold zu0;split<;>rw [List.length_set]
theorem gn8 {ps:List Pl} (h:QOk ps) (k:Nat) {p:Pl} (hp:p.Regs.length=11):QOk (zu0 ps k p):=by
 intro j hj;unfold zu0 at hj⊢;split at hj
 ·rename_i hl;rw [if_pos hl];rw [zv1] at hj⊢;split
  ·rw [jd5];exact h k hl
  ·rename_i hn;rw [if_neg hn] at hj;exact h j hj
 ·rename_i hl;rw [if_neg hl];rw [zv1] at hj⊢;split
  ·exact hp
  ·rename_i hn;rw [if_neg hn] at hj;exact h j hj
theorem jy4 (l:List Ins) (ps:List Pl) (a:Int) (lv:Bool) (rs:List Known) (bs:List Bool) (n:Int) (ha:0<=a/\a+1<(ps.length:Int)) (hn:ps.length<=4096) (hr:rs.length=11) (hb:bs.length<=512) (hq:QOk ps):
  qbh v5 l ps a lv rs bs n lv bs n=some (W l (zu0 ps (a+1).toNat ⟨lv,rs,bs,n⟩) a ⟨lv,rs,bs,n⟩,()):=by
 rw [uc5,zj0 (by omega)];have h:=vo7 l ps a ⟨lv,rs,bs,n⟩ (a+1) (by omega) hr hb (hq _);dsimp only at h;rw [h,j4]
 try rfl
theorem wq7 (l:List Ins) (ps:List Pl) (a:Int) (lv:Bool) (rs:List Known) (bs:List Bool) (n:Int) (ha:0<=a/\a<(l.length:Int)) (ht:0<=a+1+(l.getD a.toNat zb1).Off/\a+1+(l.getD a.toNat zb1).Off<(ps.length:Int)) (hl:l.length<=4096) (hn:ps.length<=4096) (hr:rs.length=11) (hb:bs.length<=512) (hq:QOk ps):
  qcj v5 l ps a lv rs bs n lv bs n=some (W l (zu0 ps (a+1+(l.getD a.toNat zb1).Off).toNat ⟨lv,rs,bs,n⟩) a ⟨lv,rs,bs,n⟩,()):=by
 rw [wm7,if_pos ha,zj0 (x:=a+1) (by omega),zj0 (by omega)];have h:=vo7 l ps a ⟨lv,rs,bs,n⟩ (a+1+(l.getD a.toNat zb1).Off) (by omega) hr hb (hq _);dsimp only at h;rw [h,j4]
 try rfl
theorem gn3 (l:List Ins) (ps:List Pl) (a:Int) (w p:Pl) (ha:0<=a/\a+1<(ps.length:Int)) (hn:ps.length<=4096) (hr:p.Regs.length=11) (hb:p.Bytes.length<=512) (hq:QOk ps):
  qdj v5 l ps a w.Live w.Regs w.Bytes w.Least p.Live p.Regs p.Bytes p.Least=some (((l,(),a,w.Live,(),w.Bytes,w.Least,()),zu0 ps (a+1).toNat p,w.Regs,p.Regs,()),()):=by
 rw [ws3,zj0 (by omega),vq2 l ps a w p (a+1) (by omega) hr hb (hq _),j4]
theorem wv2 (l:List Ins) (ps:List Pl) (a:Int) (w p:Pl) (ha:0<=a/\a<(l.length:Int)) (ht:0<=a+1+(l.getD a.toNat zb1).Off/\a+1+(l.getD a.toNat zb1).Off<(ps.length:Int)) (hl:l.length<=4096) (hn:ps.length<=4096) (hr:p.Regs.length=11) (hb:p.Bytes.length<=512) (hq:QOk ps):
  qdk v5 l ps a w.Live w.Regs w.Bytes w.Least p.Live p.Regs p.Bytes p.Least=some (((l,(),a,w.Live,(),w.Bytes,w.Least,()),zu0 ps (a+1+(l.getD a.toNat zb1).Off).toNat p,w.Regs,p.Regs,()),()):=by
 rw [wz5,if_pos ha,zj0 (x:=a+1) (by omega),zj0 (by omega),vq2 l ps a w p (a+1+(l.getD a.toNat zb1).Off) (by omega) hr hb (hq _),j4]
def ym9 (k:Known) (i:Ins):Int:=IntKind.i64.wrap (IntKind.u64.wrap (k.In_Lo+IntKind.u64.wrap i.Off))
theorem vq6 (k:Known) (i:Ins):X.qca v5 k i=some (ym9 k i):=by rw [X.ug7];rfl
def qe5 (w:Pl):Out:=match yo1 w.Least (w.Regs.getD 0 v8) with| .inl _=>.inl []| .inr e=>.inr e
theorem kz7 (l:List Ins) (ps:List Pl) (a:Int) (w:Pl) (i:Ins) (hr:w.Regs.length=11):qcu v5 l ps a w.Live w.Regs w.Bytes w.Least i=some (W l (zm2 ps (qe5 w)) a w,yu7 (qe5 w)):=by
 rw [wi6,if_pos (by omega),yj2,j4];unfold qe5;cases yo1 w.Least (w.Regs.getD 0 v8)<;>rfl
def ke3 (w:Pl) (i:Ins) (a:Int):Out:=.inl [(a+1+i.Off,w)]
theorem ga6 (l:List Ins) (ps:List Pl) (a:Int) (w:Pl) (i:Ins) (hi:l.getD a.toNat zb1=i) (ha:0<=a/\a<(l.length:Int)) (ht:0<=a+1+i.Off/\a+1+i.Off<(ps.length:Int)) (hl:l.length<=4096) (hn:ps.length<=4096) (hr:w.Regs.length=11) (hb:w.Bytes.length<=512) (hq:QOk ps):
  qct v5 l ps a w.Live w.Regs w.Bytes w.Least i=some (W l (zm2 ps (ke3 w i a)) a w,()):=by
 subst hi;rw [ua2,wq7 l ps a w.Live w.Regs w.Bytes w.Least ha ht hl hn hr hb hq,j4];rfl
def doK (op:Int) (nw:Bool) (a b:Known):Known×Int:=pk (yg5 op nw (tk a) (tk b))
theorem uj8 (op:Int) (nw:Bool) (a b:Known) (ha:w9 a.In_Lo/\w9 a.In_Hi) (hb:w9 b.In_Lo/\w9 b.In_Hi):qb v5 op nw a b=some (doK op nw a b):=um5 op nw a b ha hb
def yg4 (w:Pl) (i:Ins) (a:Int):Out:=
 let r:=doK i.Op i.Narrow (w.Regs.getD i.Dst.toNat v8) (if i.Op=13 then ⟨0,0,0⟩ else jt1 w.Regs i)
 if r.2=0 then .inl [(a+1,⟨w.Live,w.Regs.set i.Dst.toNat r.1,w.Bytes,w.Least⟩)] else .inr r.2
def UOk (k:Known):Prop:=w9 k.In_Lo/\w9 k.In_Hi
theorem va6 {rs:List Known} (h: ∀k,UOk (rs.getD k v8)) (i:Ins):UOk (jt1 rs i):=by
 unfold jt1;split
 ·refine ⟨?_,?_⟩<;>(show w9 (IntKind.u64.wrap i.Imm);rw [za2];omega)
 ·exact h _
theorem qq0 (l:List Ins) (ps:List Pl) (a:Int) (w:Pl) (i:Ins) (ha:0<=a/\a+1<(ps.length:Int)) (hn:ps.length<=4096) (hr:w.Regs.length=11) (hb:w.Bytes.length<=512) (hq:QOk ps) (hu: ∀k,UOk (w.Regs.getD k v8)) (hd:0<=i.Dst/\i.Dst<=10) (hs:i.UseImm=true\/0<=i.Src/\i.Src<=10):
  ∃w',qav v5 l ps a w.Live w.Regs w.Bytes w.Least i=some (W l (zm2 ps (yg4 w i a)) a w',yu7 (yg4 w i a)):=by
 obtain ⟨n,e⟩: ∃n:Nat,(v5:Nat)=n+1:=⟨999999999,rfl⟩;have j0: ∀b:Known,UOk b-> ∃w',qf3 (n+1) l a w.Live w.Bytes w.Least ps w.Regs i.Op i.Narrow i.Dst i.Src i.UseImm i.Off i.Imm i.Size b.Kind b.In_Lo b.In_Hi=some (W l (zm2 ps (if (doK i.Op i.Narrow (w.Regs.getD i.Dst.toNat v8) b).2=0 then .inl [(a+1,⟨w.Live,w.Regs.set i.Dst.toNat (doK i.Op i.Narrow (w.Regs.getD i.Dst.toNat v8) b).1,w.Bytes,w.Least⟩)] else .inr (doK i.Op i.Narrow (w.Regs.getD i.Dst.toNat v8) b).2)) a w',yu7 (if (doK i.Op i.Narrow (w.Regs.getD i.Dst.toNat v8) b).2=0 then .inl [(a+1,⟨w.Live,w.Regs.set i.Dst.toNat (doK i.Op i.Narrow (w.Regs.getD i.Dst.toNat v8) b).1,w.Bytes,w.Least⟩)] else .inr (doK i.Op i.Narrow (w.Regs.getD i.Dst.toNat v8) b).2)):=by
  intro b hbu;rw [vy8,if_pos (by omega),show (⟨b.Kind,b.In_Lo,b.In_Hi⟩:Known)=b from rfl,uj8 _ _ _ _ (hu _) hbu,j4,jz8,j4];generalize doK i.Op i.Narrow (w.Regs.getD i.Dst.toNat v8) b=r;by_cases h:r.2=0
  ·refine ⟨⟨w.Live,w.Regs.set i.Dst.toNat r.1,w.Bytes,w.Least⟩,?_⟩;simp only [if_pos h];rw [if_pos (by omega)];show j7 (qbh v5 l ps a w.Live (w.Regs.set i.Dst.toNat r.1) w.Bytes w.Least w.Live w.Bytes w.Least) _=_;rw [jy4 l ps a w.Live (w.Regs.set i.Dst.toNat r.1) w.Bytes w.Least ha hn (by rw [List.length_set];exact hr) hb hq,j4];rfl
  ·refine ⟨w,?_⟩;simp only [if_neg h];rfl
 rw [wi2,jn5 l ps a w i hr hs,j4,e];unfold yg4;dsimp only;by_cases h13:i.Op=13
 ·rw [if_pos h13,show (i.Op==13)=true from beq_iff_eq.2 h13,j8];exact j0 ⟨0,0,0⟩ ⟨by decide,by decide⟩
 ·rw [if_neg h13,show (i.Op==13)=false from beq_eq_false_iff_ne.2 h13,j6];exact j0 _ (va6 hu i)
end Go.Y
namespace Go.Y
open Go.RowKit Go.V Go.X Go.Proofs
def gd9 (w:Pl) (i:Ins):Int:=
 let p:=w.Regs.getD i.Src.toNat v8
 if p.Kind=3 then kf2 w.Bytes (ym9 p i) i.Size
 else if p.Kind=2 then (if p.In_Hi>65535 then 112 else if IntKind.i64.wrap (IntKind.i64.wrap p.In_Lo+i.Off)<0 then 112 else if IntKind.i64.wrap (IntKind.i64.wrap (IntKind.i64.wrap p.In_Hi+i.Off)+i.Size)>w.Least then 112 else 0)
 else match yo1 w.Least p with| .inl _=>111| .inr e=>e
def qg0 (size:Int):Known:=⟨1,0,zb8 .u64 18446744073709551615 (IntKind.i64.wrap (64-IntKind.i64.wrap (8*size)))⟩
def js8 (w:Pl) (i:Ins) (a:Int):Out:=if gd9 w i=0 then .inl [(a+1,⟨w.Live,w.Regs.set i.Dst.toNat (qg0 i.Size),w.Bytes,w.Least⟩)] else .inr (gd9 w i)
theorem ko8 {s:Int} (h:zu9 s=true): ¬IntKind.i64.wrap (64-IntKind.i64.wrap (8*s))<0:=by
 unfold zu9 at h;simp only [Bool.or_eq_true,beq_iff_eq] at h;rcases h with rfl|rfl|rfl|rfl<;>decide
theorem jr3 {n:Int} {k:Known} {e:Int} (h:yo1 n k=.inr e):e≠0:=by
 unfold yo1 at h;split at h
 ·cases h;decide
 ·split at h
  ·cases h
  ·split at h
   ·cases h
   ·cases h;decide
theorem ga4 (l:List Ins) (ps:List Pl) (a:Int) (w:Pl) (i:Ins) (ha:0<=a/\a+1<(ps.length:Int)) (hn:ps.length<=4096) (hr:w.Regs.length=11) (hb:w.Bytes.length<=512) (hq:QOk ps) (hd:0<=i.Dst/\i.Dst<=10) (hs:0<=i.Src/\i.Src<=10) (hz:zu9 i.Size=true):
  ∃w',qao v5 l ps a w.Live w.Regs w.Bytes w.Least i=some (W l (zm2 ps (js8 w i a)) a w',yu7 (js8 w i a)):=by
 obtain ⟨n,e⟩: ∃n:Nat,(v5:Nat)=n+1:=⟨999999999,rfl⟩;have j0:jr6 (n+1) l a w.Live w.Bytes w.Least ps w.Regs i.Op i.Narrow i.Dst i.Src i.UseImm i.Off i.Imm i.Size=some (W l (zu0 ps (a+1).toNat ⟨w.Live,w.Regs.set i.Dst.toNat (qg0 i.Size),w.Bytes,w.Least⟩) a ⟨w.Live,w.Regs.set i.Dst.toNat (qg0 i.Size),w.Bytes,w.Least⟩,.inl ()):=by
  rw [vz5,if_neg (ko8 hz),if_pos (by omega)];show j7 (qbh v5 l ps a w.Live (w.Regs.set i.Dst.toNat (qg0 i.Size)) w.Bytes w.Least w.Live w.Bytes w.Least) _=_;rw [jy4 l ps a w.Live (w.Regs.set i.Dst.toNat (qg0 i.Size)) w.Bytes w.Least ha hn (by rw [List.length_set];exact hr) hb hq,j4]
  try rfl
 rw [<-e] at j0;rw [wt1,if_pos (by omega)];unfold js8 gd9;dsimp only;generalize w.Regs.getD i.Src.toNat v8=p;by_cases h3:p.Kind=3
 ·rw [show (p.Kind==3)=true from beq_iff_eq.2 h3,j8,vq6,j4,ut0,j4,jz8,j4];simp only [if_pos h3];generalize kf2 w.Bytes (ym9 p i) i.Size=r;by_cases hr0:r=0
  ·simp only [if_pos hr0,j0];exact ⟨_,rfl⟩
  ·simp only [if_neg hr0];exact ⟨w,rfl⟩
 ·rw [show (p.Kind==3)=false from beq_eq_false_iff_ne.2 h3,j6];simp only [if_neg h3];by_cases h2:p.Kind=2
  ·rw [show (p.Kind==2)=true from beq_iff_eq.2 h2,j8,zy9,j4];simp only [if_pos h2,decide_eq_true_eq];by_cases c1:p.In_Hi>65535
   ·simp only [if_pos c1];exact ⟨w,rfl⟩
   ·simp only [if_neg c1];by_cases c2:IntKind.i64.wrap (IntKind.i64.wrap p.In_Lo+i.Off)<0
    ·simp only [if_pos c2,decide_eq_true c2,j8,zy9,j4];exact ⟨w,rfl⟩
    ·simp only [if_neg c2,decide_eq_false c2,j6,zy9,j4,decide_eq_true_eq];by_cases c3:IntKind.i64.wrap (IntKind.i64.wrap (IntKind.i64.wrap p.In_Hi+i.Off)+i.Size)>w.Least
     ·simp only [if_pos c3];exact ⟨w,rfl⟩
     ·simp only [if_neg c3,j0];exact ⟨_,rfl⟩
  ·rw [show (p.Kind==2)=false from beq_eq_false_iff_ne.2 h2,j6,yj2,j4];simp only [if_neg h2];cases hx:yo1 w.Least p with
   |inl s=>exact ⟨w,rfl⟩
   |inr x=>
    have:=jr3 hx;simp only [if_neg this];exact ⟨w,rfl⟩
def kg5 (w:Pl) (i:Ins) (a:Int):Out:=
 let p:=w.Regs.getD i.Dst.toNat v8
 let b:=jt1 w.Regs i
 if p.Kind=0\/b.Kind=0 then .inr 110 else if p.Kind=2 then .inr 114 else if p.Kind≠3 then .inr 111
 else match yo1 w.Least b with
  | .inr e=>.inr e
  | .inl _=>if (qa0 w.Bytes (ym9 p i) i.Size).2=0 then .inl [(a+1,⟨w.Live,w.Regs,(qa0 w.Bytes (ym9 p i) i.Size).1,w.Least⟩)] else .inr (qa0 w.Bytes (ym9 p i) i.Size).2
theorem gm8 (b:List Bool) (x z:Int):(qa0 b x z).1.length<=b.length:=by
 unfold qa0;split
 ·rw [yz9];exact Nat.le_refl _
 ·exact Nat.zero_le _
theorem wd2 (l:List Ins) (ps:List Pl) (a:Int) (w:Pl) (i:Ins) (ha:0<=a/\a+1<(ps.length:Int)) (hn:ps.length<=4096) (hr:w.Regs.length=11) (hb:w.Bytes.length<=512) (hq:QOk ps) (hd:0<=i.Dst/\i.Dst<=10) (hs:i.UseImm=true\/0<=i.Src/\i.Src<=10):
  ∃w',qaz v5 l ps a w.Live w.Regs w.Bytes w.Least i=some (W l (zm2 ps (kg5 w i a)) a w',yu7 (kg5 w i a)):=by
 obtain ⟨n,e⟩: ∃n:Nat,(v5:Nat)=n+1:=⟨999999999,rfl⟩;rw [wx6,if_pos (by omega),jn5 l ps a w i hr hs,j4];unfold kg5;dsimp only;generalize w.Regs.getD i.Dst.toNat v8=p;generalize jt1 w.Regs i=b;by_cases h0:p.Kind=0
 ·rw [show (p.Kind==0)=true from beq_iff_eq.2 h0,j8,zy9,j4,if_pos rfl,if_pos (c:=p.Kind=0\/b.Kind=0) (.inl h0)];exact ⟨w,rfl⟩
 rw [show (p.Kind==0)=false from beq_eq_false_iff_ne.2 h0,j6,zy9,j4];by_cases h1:b.Kind=0
 ·rw [if_pos (c:=p.Kind=0\/b.Kind=0) (.inr h1),show (b.Kind==0)=true from beq_iff_eq.2 h1];exact ⟨w,rfl⟩
 rw [if_neg (c:=p.Kind=0\/b.Kind=0) (fun h=>h.elim h0 h1),show (b.Kind==0)=false from beq_eq_false_iff_ne.2 h1];simp only [Bool.false_eq_true,if_false];rw [e,vs3,zy9,j4];by_cases h2:p.Kind=2
 ·rw [if_pos h2,show (p.Kind==2)=true from beq_iff_eq.2 h2];exact ⟨w,rfl⟩
 rw [if_neg h2,show (p.Kind==2)=false from beq_eq_false_iff_ne.2 h2];simp only [Bool.false_eq_true,if_false,zy9,j4];by_cases h3:p.Kind=3
 ·rw [if_neg (c:=p.Kind≠3) (fun h=>h h3),show (p.Kind != 3)=false by rw [h3];rfl];simp only [Bool.false_eq_true,if_false,yj2,j4];rw [show (⟨b.Kind,b.In_Lo,b.In_Hi⟩:Known)=b from rfl];cases hx:yo1 w.Least b with
  |inr x=>exact ⟨w,rfl⟩
  |inl s=>
   simp only [toS];rw [show (⟨p.Kind,p.In_Lo,p.In_Hi⟩:Known)=p from rfl,show (⟨i.Op,i.Narrow,i.Dst,i.Src,i.UseImm,i.Off,i.Imm,i.Size⟩:Ins)=i from rfl,vq6,j4,uo0,j4,jz8,j4];have hle:=gm8 w.Bytes (ym9 p i) i.Size;generalize qa0 w.Bytes (ym9 p i) i.Size=r at hle⊢;by_cases hr0:r.2=0
   ·simp only [if_pos hr0];rw [jy4 l ps a w.Live w.Regs r.1 w.Least ha hn hr (by omega) hq,j4];exact ⟨⟨w.Live,w.Regs,r.1,w.Least⟩,rfl⟩
   ·simp only [if_neg hr0];exact ⟨w,rfl⟩
 ·rw [if_pos (c:=p.Kind≠3) h3,show (p.Kind != 3)=true from bne_iff_ne.2 h3];exact ⟨w,rfl⟩
end Go.Y
namespace Go.Y
open Go.RowKit Go.V Go.X Go.Proofs
theorem zj6 {R:Type} {c:Bool} (h:c=true) (x y:Option R):q7 c x y=x:=by rw [h];rfl
theorem zl0 {R:Type} {c:Bool} (h:c=false) (x y:Option R):q7 c x y=y:=by rw [h];rfl
def zn8 (p:Pl) (r:Int) (s:v3):Pl:=if (p.Regs.getD r.toNat v8).Kind=1 then ⟨p.Live,p.Regs.set r.toNat ⟨(p.Regs.getD r.toNat v8).Kind,s.Lo,s.Hi⟩,p.Bytes,p.Least⟩ else ⟨p.Live,p.Regs,p.Bytes,zl5 p.Least (IntKind.i64.wrap s.Lo)⟩
def gv8 (w:Pl) (i:Ins) (x y:v3):Pl:=if i.UseImm=true then zn8 w i.Dst x else if i.Src=i.Dst then w else zn8 (zn8 w i.Dst x) i.Src y
def qb7 (w:Pl) (i:Ins) (m n:v3) (yes:Bool) (t:Int):List (Int×Pl):=if (ifE i.Op i.Narrow yes m n).2.2=true then [(t,gv8 w i (ifE i.Op i.Narrow yes m n).1 (ifE i.Op i.Narrow yes m n).2.1)] else []
def yf9 (w:Pl) (i:Ins) (a:Int):Out:=
 let p:=w.Regs.getD i.Dst.toNat v8
 let b:=jt1 w.Regs i
 if p.Kind=0\/b.Kind=0 then .inr 110 else match yo1 w.Least p with
  | .inr e=>.inr e
  | .inl m=>match yo1 w.Least b with
   | .inr e=>.inr e
   | .inl n=>.inl (qb7 w i m n false (a+1)++qb7 w i m n true (a+1+i.Off))
theorem jb5 (y:List (Int×Pl)): ∀(x:List (Int×Pl)) (ps:List Pl),zg4 ps (x++y)=zg4 (zg4 ps x) y
 | [],ps=>rfl
 |z::r,ps=>by rw [List.cons_append,zg4,jb5 y r,zg4]
theorem ze8 (p:Pl) (r:Int) (s:v3):(zn8 p r s).Regs.length=p.Regs.length/\(zn8 p r s).Bytes=p.Bytes:=by
 unfold zn8;split
 ·exact ⟨List.length_set ..,rfl⟩
 ·exact ⟨rfl,rfl⟩
theorem jd0 (p:Pl) (r:Int) (s:v3) (hr:0<=r/\r<(p.Regs.length:Int)):qbu v5 p.Live p.Regs p.Bytes p.Least r s=some ((((zn8 p r s).Live,(),(zn8 p r s).Bytes,(zn8 p r s).Least,()),(zn8 p r s).Regs,()),()):=by
 rw [ua3,if_pos hr];unfold zn8;by_cases h:(p.Regs.getD r.toNat v8).Kind=1
 ·rw [if_pos h,show ((p.Regs.getD r.toNat v8).Kind==1)=true from beq_iff_eq.2 h,j8]
 ·rw [if_neg h,show ((p.Regs.getD r.toNat v8).Kind==1)=false from beq_eq_false_iff_ne.2 h,j6]
section
variable (l:List Ins) (ps:List Pl) (a:Int) (w:Pl) (i:Ins) (m k:v3)
theorem wh3 (n:Nat) (c d:Bool):qd3 (n+2) 2 l a w.Live w.Bytes w.Least ps w.Regs i.Op i.Narrow i.Dst i.Src i.UseImm i.Off i.Imm i.Size m.Lo m.Hi k.Lo k.Hi c d=some (W l ps a w,.inl ()):=by
 rw [vw3,decide_eq_false (by omega),j6];rfl
variable (hi:l.getD a.toNat zb1=i) (ha:0<=a/\a<(l.length:Int)) (hl:l.length<=4096) (hn:ps.length=l.length) (hr:w.Regs.length=11) (hb:w.Bytes.length<=512) (hq:QOk ps)
variable (ht:0<=a+1+i.Off/\a+1+i.Off<(l.length:Int)) (ha1:a+1<(l.length:Int)) (hd:0<=i.Dst/\i.Dst<=10) (hs:i.UseImm=true\/0<=i.Src/\i.Src<=10)
variable (hm:w9 m.Lo/\w9 m.Hi) (hk:w9 k.Lo/\w9 k.Hi)
include hi ha hl hn hq ht
theorem ur8 (n:Nat) (p:Pl) (c d e:Bool) (hp:p.Regs.length=11) (hpb:p.Bytes.length<=512):jd3 (n+3) 2 l a w.Live w.Bytes w.Least ps w.Regs i.Op i.Narrow i.Dst i.Src i.UseImm i.Off i.Imm i.Size m.Lo m.Hi k.Lo k.Hi c p.Live p.Bytes p.Least d e p.Regs=some (W l (zu0 ps (a+1+i.Off).toNat p) a w,.inl ()):=by
 subst hi;rw [vs9,wv2 l ps a w p ha (by omega) hl (by omega) hp hpb hq,j4];exact wh3 l _ a w _ m k n d e
include hr hb hd hs hm hk
theorem uu7 (n:Nat) (c:Bool):kf6 (n+5) 2 l a w.Live w.Bytes w.Least ps w.Regs i.Op i.Narrow i.Dst i.Src i.UseImm i.Off i.Imm i.Size m.Lo m.Hi k.Lo k.Hi c true=some (W l (zg4 ps (qb7 w i m k true (a+1+i.Off))) a w,.inl ()):=by
 rw [kn7,decide_eq_true (by omega),j8,show (⟨m.Lo,m.Hi⟩:Span)=m from rfl,show (⟨k.Lo,k.Hi⟩:Span)=k from rfl,wg4 _ _ _ _ _ hm hk,j4];unfold qb7;generalize ifE i.Op i.Narrow true m k=r;dsimp only;cases hc:r.2.2 with
 |false=>rw [Bool.not_false,j8,if_neg (by decide)];exact wh3 l ps a w i m k _ _ _
 |true=>
  rw [Bool.not_true,j6,if_pos rfl,yd6 _ _ _ _ hr hb,j4];have fin: ∀p:Pl,p.Regs.length=11->p.Bytes.length<=512->jd3 (n+3) 2 l a w.Live w.Bytes w.Least ps w.Regs i.Op i.Narrow i.Dst i.Src i.UseImm i.Off i.Imm i.Size m.Lo m.Hi k.Lo k.Hi true p.Live p.Bytes p.Least c true p.Regs=some (W l (zg4 ps [(a+1+i.Off,p)]) a w,.inl ()):=fun p h1 h2=>ur8 l ps a w i m k hi ha hl hn hq ht n p true c true h1 h2;unfold gv8;by_cases hu:i.UseImm=true
  ·rw [if_pos hu,zj6 hu,jd0 w i.Dst r.1 (by omega),j4];exact fin (zn8 w i.Dst r.1) ((ze8 ..).1.trans hr) (by rw [(ze8 ..).2];exact hb)
  ·rw [if_neg hu];have hs:=hs.resolve_left hu;by_cases he:i.Src=i.Dst
   ·rw [if_pos he,show (i.Src != i.Dst)=false by rw [he];exact bne_self_eq_false _];rw [Bool.not_eq_true] at hu;rw [j6,zl0 hu];exact fin w hr hb
   ·rw [if_neg he,show (i.Src != i.Dst)=true from bne_iff_ne.2 he];rw [Bool.not_eq_true] at hu;rw [j8,zl0 hu,jd0 w i.Dst r.1 (by omega),j4];have l1:=(ze8 w i.Dst r.1).1;dsimp only;rw [jd0 (zn8 w i.Dst r.1) i.Src r.2.1 (by omega),j4];exact fin (zn8 (zn8 w i.Dst r.1) i.Src r.2.1) ((ze8 ..).1.trans (l1.trans hr)) (by rw [(ze8 ..).2,(ze8 ..).2];exact hb)
include ha1
theorem uw3 (n:Nat) (p:Pl) (c:Bool) (hp:p.Regs.length=11) (hpb:p.Bytes.length<=512):qd7 (n+6) 2 l a w.Live w.Bytes w.Least ps w.Regs i.Op i.Narrow i.Dst i.Src i.UseImm i.Off i.Imm i.Size m.Lo m.Hi k.Lo k.Hi c p.Live p.Bytes p.Least false true p.Regs=some (W l (zg4 (zu0 ps (a+1).toNat p) (qb7 w i m k true (a+1+i.Off))) a w,.inl ()):=by
 rw [kl1,gn3 l ps a w p (by omega) (by omega) hp hpb hq,j4];exact uu7 l _ a w i m k hi ha hl (by rw [ju3];exact hn) hr hb (gn8 hq _ hp) ht hd hs hm hk n false
omit hm hk in
theorem uw1 (n:Nat) (x y:Known) (hx:UOk x) (hy:UOk y): ∃w',ke4 (n+8) l a w.Live w.Bytes w.Least ps w.Regs i.Op i.Narrow i.Dst i.Src i.UseImm i.Off i.Imm i.Size x.Kind x.In_Lo x.In_Hi y.Kind y.In_Lo y.In_Hi=
  (let o:Out:=match yo1 w.Least x with
   | .inr e=>.inr e
   | .inl m=>match yo1 w.Least y with
    | .inr e=>.inr e
    | .inl n=>.inl (qb7 w i m n false (a+1)++qb7 w i m n true (a+1+i.Off))
  some (W l (zm2 ps o) a w',yu7 o)):=by
 have nu: ∀(x:Known) (s:v3),UOk x->yo1 w.Least x=.inl s->w9 s.Lo/\w9 s.Hi:=by
  intro x s hx h;unfold yo1 at h;split at h
  ·cases h
  ·split at h
   ·cases h;exact hx
   ·split at h
    ·cases h;refine ⟨?_,by show w9 (65535:Int);decide⟩;show w9 (IntKind.u64.wrap w.Least);rw [za2];omega
    ·cases h
 refine ⟨w,?_⟩;rw [km3,show (⟨x.Kind,x.In_Lo,x.In_Hi⟩:Known)=x from rfl,show (⟨y.Kind,y.In_Lo,y.In_Hi⟩:Known)=y from rfl,yj2,j4];simp only [yj2,j4];cases h1:yo1 w.Least x with
 |inr e=>rfl
 |inl m=>
  have hm:=nu x m hx h1;simp only [toS];cases h2:yo1 w.Least y with
  |inr e=>rfl
  |inl k=>
   have hk:=nu y k hy h2;simp only [zm2,yu7];rw [wg4 _ _ _ _ _ hm hk,j4,jb5]
   conv=>rhs;unfold qb7
   have j2:=uu7 l ps a w i m k hi ha hl hn hr hb hq ht hd hs hm hk (n+1) false;generalize ifE i.Op i.Narrow false m k=r;dsimp only;cases hc:r.2.2 with
   |false=>rw [Bool.not_false,j8,if_neg (by decide)];exact j2
   |true=>
    rw [Bool.not_true,j6,if_pos rfl,yd6 _ _ _ _ hr hb,j4];have fin: ∀p:Pl,p.Regs.length=11->p.Bytes.length<=512->qd7 (n+6) 2 l a w.Live w.Bytes w.Least ps w.Regs i.Op i.Narrow i.Dst i.Src i.UseImm i.Off i.Imm i.Size m.Lo m.Hi k.Lo k.Hi false p.Live p.Bytes p.Least false true p.Regs=some (W l (zg4 (zg4 ps [(a+1,p)]) (qb7 w i m k true (a+1+i.Off))) a w,.inl ()):=fun p q1 q2=>uw3 l ps a w i m k hi ha hl hn hr hb hq ht ha1 hd hs hm hk n p false q1 q2;unfold gv8;by_cases hu:i.UseImm=true
    ·rw [if_pos hu,zj6 hu,jd0 w i.Dst r.1 (by omega),j4];exact fin (zn8 w i.Dst r.1) ((ze8 ..).1.trans hr) (by rw [(ze8 ..).2];exact hb)
    ·rw [if_neg hu];have hs:=hs.resolve_left hu;by_cases he:i.Src=i.Dst
     ·rw [if_pos he,show (i.Src != i.Dst)=false by rw [he];exact bne_self_eq_false _];rw [Bool.not_eq_true] at hu;rw [j6,zl0 hu];exact fin w hr hb
     ·rw [if_neg he,show (i.Src != i.Dst)=true from bne_iff_ne.2 he];rw [Bool.not_eq_true] at hu;rw [j8,zl0 hu,jd0 w i.Dst r.1 (by omega),j4];have l1:=(ze8 w i.Dst r.1).1;dsimp only;rw [jd0 (zn8 w i.Dst r.1) i.Src r.2.1 (by omega),j4];exact fin (zn8 (zn8 w i.Dst r.1) i.Src r.2.1) ((ze8 ..).1.trans (l1.trans hr)) (by rw [(ze8 ..).2,(ze8 ..).2];exact hb)
omit hm hk in
theorem qo8 (hu: ∀j,UOk (w.Regs.getD j v8)): ∃w',qf v5 l ps a w.Live w.Regs w.Bytes w.Least i=some (W l (zm2 ps (yf9 w i a)) a w',yu7 (yf9 w i a)):=by
 obtain ⟨n,e⟩: ∃n:Nat,(v5:Nat)=n+8:=⟨999999992,rfl⟩;rw [uo6,if_pos (by omega),jn5 l ps a w i hr hs,j4];have hp:=hu i.Dst.toNat;have hb':=va6 hu i;unfold yf9;dsimp only;generalize w.Regs.getD i.Dst.toNat v8=p at hp⊢;generalize jt1 w.Regs i=b at hb'⊢;by_cases h0:p.Kind=0
 ·rw [show (p.Kind==0)=true from beq_iff_eq.2 h0,j8,zy9,j4,if_pos rfl,if_pos (c:=p.Kind=0\/b.Kind=0) (.inl h0)];exact ⟨w,rfl⟩
 rw [show (p.Kind==0)=false from beq_eq_false_iff_ne.2 h0,j6,zy9,j4];by_cases h1:b.Kind=0
 ·rw [if_pos (c:=p.Kind=0\/b.Kind=0) (.inr h1),show (b.Kind==0)=true from beq_iff_eq.2 h1];exact ⟨w,rfl⟩
 rw [if_neg (c:=p.Kind=0\/b.Kind=0) (fun h=>h.elim h0 h1),show (b.Kind==0)=false from beq_eq_false_iff_ne.2 h1];simp only [Bool.false_eq_true,if_false];rw [e];exact uw1 l ps a w i hi ha hl hn hr hb hq ht ha1 hd hs n p b hp hb'
end
end Go.Y
namespace Go.Y
open Go.RowKit Go.V Go.X Go.Proofs
def In (M:Int) (x:v3):Prop:=0<=x.Lo/\x.Lo<=x.Hi/\x.Hi<=M
theorem wd0 {M:Int} {s n:v3} (h:In M s):In M (woE s n):=by
 obtain ⟨h1,h2,h3⟩:=h;unfold woE;split
 ·exact ⟨h1,h2,h3⟩
 ·unfold In;dsimp only;split<;>split<;>omega
theorem ql9 {M:Int} {op:Int} (hop:17<=op/\op<=22) {u v x y:v3} (hu:In M u) (hv:In M v) (h:yn9 op u v=some (x,y)):In M x/\In M y:=by
 have gt: ∀u v x y:v3,In M u->In M v->gtE u v=some (x,y)->In M x/\In M y:=by
  intro u v x y hu hv h;unfold In at hu hv;unfold gtE at h;split at h
  ·simp only [Option.some.injEq,Prod.mk.injEq] at h;obtain ⟨rfl,rfl⟩:=h;unfold In;dsimp only;omega
  ·cases h
 have ge: ∀u v x y:v3,In M u->In M v->geE u v=some (x,y)->In M x/\In M y:=by
  intro u v x y hu hv h;unfold In at hu hv;unfold geE at h;split at h
  ·simp only [Option.some.injEq,Prod.mk.injEq] at h;obtain ⟨rfl,rfl⟩:=h;unfold In;dsimp only;omega
  ·cases h
 have sw: ∀(o:Option (v3×v3)),(∀x y,o=some (x,y)->In M x/\In M y)-> ∀x y,va7 o=some (x,y)->In M x/\In M y:=by
  intro o ho x y h;cases o with
  |none=>cases h
  |some p=>
   simp only [va7,Option.map_some,Option.some.injEq,Prod.mk.injEq] at h;obtain ⟨rfl,rfl⟩:=h;exact ⟨(ho p.1 p.2 rfl).2,(ho p.1 p.2 rfl).1⟩
 have hh:op=17\/op=18\/op=19\/op=20\/op=21\/op=22:=by omega
 rcases hh with rfl|rfl|rfl|rfl|rfl|rfl
 ·have h:(if max u.Lo v.Lo<=min u.Hi v.Hi then some ((⟨max u.Lo v.Lo,min u.Hi v.Hi⟩:v3),(⟨max u.Lo v.Lo,min u.Hi v.Hi⟩:v3)) else none)=some (x,y):=h;unfold In at hu hv;split at h
  ·simp only [Option.some.injEq,Prod.mk.injEq] at h;obtain ⟨rfl,rfl⟩:=h;unfold In;dsimp only;omega
  ·cases h
 ·have h:(if u.Lo=u.Hi/\v.Lo=v.Hi/\u.Lo=v.Lo then none else some (woE u v,woE v u))=some (x,y):=h;split at h
  ·cases h
  ·simp only [Option.some.injEq,Prod.mk.injEq] at h;obtain ⟨rfl,rfl⟩:=h;exact ⟨wd0 hu,wd0 hv⟩
 ·exact gt u v x y hu hv h
 ·exact ge u v x y hu hv h
 ·exact sw (gtE v u) (fun x y e=>gt v u x y hv hu e) x y h
 ·exact sw (geE v u) (fun x y e=>ge v u x y hv hu e) x y h
theorem wh9 {M:Int} {op:Int} (hop:17<=op/\op<=27) {nw yes:Bool} {u v x y:v3} (hu:In M u) (hv:In M v) (h:kg0 nw op yes u v=some (x,y)):In M x/\In M y:=by
 have same:some (u,v)=some (x,y)->In M x/\In M y:=by
  intro e;simp only [Option.some.injEq,Prod.mk.injEq] at e;obtain ⟨rfl,rfl⟩:=e;exact ⟨hu,hv⟩
 unfold kg0 at h;by_cases h27:op=27
 ·rw [if_pos h27] at h;unfold yb8 at h;split at h
  ·split at h
   ·cases h
   ·exact same h
  ·split at h
   ·simp only [Option.some.injEq,Prod.mk.injEq] at h;obtain ⟨rfl,rfl⟩:=h;unfold In at hu hv⊢;dsimp only;omega
   ·cases h
 ·rw [if_neg h27] at h;have ho:=ka5 (op:=op) (by omega);have hq:17<=(if yes=true then op else ji0 op)/\(if yes=true then op else ji0 op)<=26:=by split<;>omega
  generalize (if yes=true then op else ji0 op)=o at *;split at h
  ·unfold yw3 at h;split at h
   ·exact same h
   ·split at h
    ·exact ql9 (by omega) hu hv h
    ·split at h
     ·exact same h
     ·cases h
  ·exact ql9 (by omega) hu hv h
theorem up5 (op:Int) (nw yes:Bool) {a b:v3} (ha:w9 a.Lo/\w9 a.Hi) (hb:w9 b.Lo/\w9 b.Hi):(w9 (ifE op nw yes a b).1.Lo/\w9 (ifE op nw yes a b).1.Hi)/\w9 (ifE op nw yes a b).2.1.Lo/\w9 (ifE op nw yes a b).2.1.Hi:=by
 unfold ifE;split
 ·rename_i h;have hu:=zu6 (nw:=nw) ha h.2.1;have hv:=zu6 (nw:=nw) hb h.2.2;have hM:=zw2 nw;unfold uj0;cases hx:kg0 nw op yes (qh a nw) (qh b nw) with
  |none=>exact ⟨⟨by show w9 (0:Int);decide,by show w9 (0:Int);decide⟩,by show w9 (0:Int);decide,by show w9 (0:Int);decide⟩
  |some x=>
   obtain ⟨x,y⟩:=x;obtain ⟨i1,i2⟩:=wh9 (M:=k9 nw) h.1 ⟨hu.lo,hu.le,hu.hi⟩ ⟨hv.lo,hv.le,hv.hi⟩ hx;unfold In at i1 i2;dsimp only;constructor
   ·split
    ·exact ha
    ·omega
   ·split
    ·exact hb
    ·omega
 ·exact ⟨ha,hb⟩
structure PlOk (p:Pl):Prop where
 regs:p.Regs.length=11
 bytes:p.Bytes.length=512
 u: ∀k,UOk (p.Regs.getD k v8)
def AllOk (ps:List Pl):Prop:= ∀k,(ps.getD k k8).Live=true->PlOk (ps.getD k k8)
theorem AllOk.q {ps:List Pl} (h:AllOk ps):QOk ps:=fun k hk=>(h k hk).regs
theorem vz6 (rs:List Known) (k j:Nat) (x:Known):(rs.set k x).getD j v8=if k=j/\j<rs.length then x else rs.getD j v8:=by
 rw [List.getD_eq_getElem?_getD,List.getD_eq_getElem?_getD,List.getElem?_set];by_cases h:k=j
 ·subst h;by_cases hl:k<rs.length
  ·rw [if_pos rfl,if_pos hl,if_pos ⟨rfl,hl⟩];rfl
  ·rw [if_pos rfl,if_neg hl,if_neg (fun h=>hl h.2),List.getElem?_eq_none (by omega)]
 ·rw [if_neg h,if_neg (fun h2=>h h2.1)]
theorem kf5 {rs:List Known} (h: ∀k,UOk (rs.getD k v8)) {x:Known} (hx:UOk x) (k:Nat): ∀j,UOk ((rs.set k x).getD j v8):=by
 intro j;rw [vz6];split
 ·exact hx
 ·exact h j
theorem uu5 {q p:List Known} (hq: ∀k,UOk (q.getD k v8)) (hp: ∀k,UOk (p.getD k v8)): ∀n k,UOk ((jr q p n).getD k v8)
 |0,k=>hq k
 |n+1,k=>by
  rw [jr];exact kf5 (uu5 hq hp n) (show UOk (gf0 (q.getD n v8) (p.getD n v8)) from go6 (a:=tk _) (b:=tk _) (hq n) (hp n)) n k
theorem ka1 {a b:List Bool} (ha:a.length=512) (hb:b.length=512):(vb1 a b).length=512:=by
 unfold vb1;rw [if_pos ⟨ha,hb⟩,yz7,List.length_replicate]
theorem kl2 {ps:List Pl} (h:AllOk ps) (k:Nat) {p:Pl} (hp:PlOk p):AllOk (zu0 ps k p):=by
 intro j hj;unfold zu0 at hj⊢;split at hj
 ·rename_i hl;rw [if_pos hl];rw [zv1] at hj⊢;have q:=h k hl;split
  ·exact ⟨(jd5 ..).trans q.regs,ka1 q.bytes hp.bytes,uu5 q.u hp.u 11⟩
  ·rename_i hn;rw [if_neg hn] at hj;exact h j hj
 ·rename_i hl;rw [if_neg hl];rw [zv1] at hj⊢;split
  ·exact hp
  ·rename_i hn;rw [if_neg hn] at hj;exact h j hj
def qb2 (ts:List (Int×Pl)):Prop:= ∀x∈ts,PlOk x.2
theorem yr1: ∀(ts:List (Int×Pl)) {ps:List Pl},AllOk ps->qb2 ts->AllOk (zg4 ps ts)
 | [],_,h,_=>h
 |x::r,_,h,ht=>yr1 r (kl2 h _ (ht x (by simp))) fun y hy=>ht y (by simp [hy])
theorem yi6: ∀(ts:List (Int×Pl)) (ps:List Pl),(zg4 ps ts).length=ps.length
 | [],_=>rfl
 |x::r,ps=>(yi6 r _).trans (ju3 ..)
theorem jo9 {p:Pl} (h:PlOk p) (r:Int) {s:v3} (hs:w9 s.Lo/\w9 s.Hi):PlOk (zn8 p r s):=by
 refine ⟨(ze8 ..).1.trans h.regs,by rw [(ze8 ..).2];exact h.bytes,?_⟩;unfold zn8;split
 ·exact kf5 h.u (show UOk ⟨_,s.Lo,s.Hi⟩ from hs) _
 ·exact h.u
theorem gy2 {w:Pl} (h:PlOk w) (i:Ins) {x y:v3} (hx:w9 x.Lo/\w9 x.Hi) (hy:w9 y.Lo/\w9 y.Hi):PlOk (gv8 w i x y):=by
 unfold gv8;split
 ·exact jo9 h _ hx
 ·split
  ·exact h
  ·exact jo9 (jo9 h _ hx) _ hy
theorem qc4 {least:Int} {x:Known} {s:v3} (hx:UOk x) (h:yo1 least x=.inl s):w9 s.Lo/\w9 s.Hi:=by
 unfold yo1 at h;split at h
 ·cases h
 ·split at h
  ·cases h;exact hx
  ·split at h
   ·cases h;refine ⟨?_,by show w9 (65535:Int);decide⟩;show w9 (IntKind.u64.wrap least);rw [za2];omega
   ·cases h
theorem vr9 {w:Pl} (h:PlOk w) (i:Ins) {m n:v3} (hm:w9 m.Lo/\w9 m.Hi) (hn:w9 n.Lo/\w9 n.Hi) (yes:Bool) (t:Int):qb2 (qb7 w i m n yes t):=by
 have hu:=up5 i.Op i.Narrow yes hm hn;unfold qb7;split
 ·intro x hx;rw [List.mem_singleton] at hx;subst hx;exact gy2 h i hu.1 hu.2
 ·intro x hx;cases hx
theorem vy7 {w:Pl} (h:PlOk w) (i:Ins) (a:Int) {ts:List (Int×Pl)} (e:yf9 w i a=.inl ts):qb2 ts:=by
 unfold yf9 at e;dsimp only at e;split at e
 ·cases e
 ·split at e
  ·cases e
  ·rename_i m hm;split at e
   ·cases e
   ·rename_i n hn;cases e;intro x hx;rw [List.mem_append] at hx;rcases hx with hx|hx
    ·exact vr9 h i (qc4 (h.u _) hm) (qc4 (va6 h.u i) hn) _ _ x hx
    ·exact vr9 h i (qc4 (h.u _) hm) (qc4 (va6 h.u i) hn) _ _ x hx
theorem gv9 {s:Int} (h:zu9 s=true):UOk (qg0 s):=by
 unfold zu9 at h;simp only [Bool.or_eq_true,beq_iff_eq] at h;rcases h with rfl|rfl|rfl|rfl<;>exact ⟨by decide,by decide⟩
theorem gv7 {w:Pl} (h:PlOk w) (i:Ins) (a:Int) (hz:zu9 i.Size=true) {ts:List (Int×Pl)} (e:js8 w i a=.inl ts):qb2 ts:=by
 unfold js8 at e;split at e
 ·cases e;intro x hx;rw [List.mem_singleton] at hx;subst hx;exact ⟨(List.length_set ..).trans h.regs,h.bytes,kf5 h.u (gv9 hz) _⟩
 ·cases e
theorem kn3 {b:List Bool} {x z:Int} (h:(qa0 b x z).2=0):(qa0 b x z).1.length=b.length:=by
 unfold qa0 at h⊢;split
 ·exact yz9 ..
 ·rename_i hn;rw [if_neg hn] at h;exact absurd h hn
theorem ua7 {w:Pl} (h:PlOk w) (i:Ins) (a:Int) {ts:List (Int×Pl)} (e:kg5 w i a=.inl ts):qb2 ts:=by
 unfold kg5 at e;dsimp only at e;split at e
 ·cases e
 ·split at e
  ·cases e
  ·split at e
   ·cases e
   ·split at e
    ·cases e
    ·split at e
     ·rename_i h0;cases e;intro x hx;rw [List.mem_singleton] at hx;subst hx;exact ⟨h.regs,(kn3 h0).trans h.bytes,h.u⟩
     ·cases e
theorem uk2 {op:Int} {nw:Bool} {x y:Known} (hx:UOk x) (hy:UOk y):UOk (doK op nw x y).1:=up6 (op:=op) (nw:=nw) (a:=tk x) (b:=tk y) hx hy
theorem vt4 {w:Pl} (h:PlOk w) (i:Ins) (a:Int) {ts:List (Int×Pl)} (e:yg4 w i a=.inl ts):qb2 ts:=by
 have hb:UOk (if i.Op=13 then ⟨0,0,0⟩ else jt1 w.Regs i):=by
  split
  ·exact ⟨by show w9 (0:Int);decide,by show w9 (0:Int);decide⟩
  ·exact va6 h.u i
 have hd:=uk2 (op:=i.Op) (nw:=i.Narrow) (h.u i.Dst.toNat) hb;unfold yg4 at e;dsimp only at e;generalize doK i.Op i.Narrow (w.Regs.getD i.Dst.toNat v8) (if i.Op=13 then ⟨0,0,0⟩ else jt1 w.Regs i)=r at e hd;by_cases h0:r.2=0
 ·rw [if_pos h0] at e;cases e;intro x hx;rw [List.mem_singleton] at hx;subst hx;exact ⟨(List.length_set ..).trans h.regs,h.bytes,kf5 h.u hd _⟩
 ·rw [if_neg h0] at e;cases e
def vb9 (w:Pl) (i:Ins) (a:Int):Out:=if i.Op=14 then js8 w i a else if i.Op=15 then kg5 w i a else if i.Op=16 then ke3 w i a else if i.Op=28 then qe5 w else if i.Op<=13 then yg4 w i a else yf9 w i a
theorem kz8 {w:Pl} (h:PlOk w) {i:Ins} (hr:zh9 i=true) (a:Int) {ts:List (Int×Pl)} (e:vb9 w i a=.inl ts):qb2 ts:=by
 unfold vb9 at e;split at e
 ·rename_i h14;refine gv7 h i a ?_ e;unfold zh9 at hr;rw [if_neg (by omega),if_neg (by omega),if_pos h14] at hr;simp only [Bool.and_eq_true] at hr;exact hr.2.2.2.1
 ·split at e
  ·exact ua7 h i a e
  ·split at e
   ·cases e;intro x hx;rw [List.mem_singleton] at hx;subst hx;exact h
   ·split at e
    ·unfold qe5 at e;split at e
     ·cases e;intro x hx;cases hx
     ·cases e
    ·split at e
     ·exact vt4 h i a e
     ·exact vy7 h i a e
end Go.Y
namespace Go.Y
open Go.RowKit Go.V Go.X Go.Proofs
def zt1 (l:List Ins):Nat->Nat->List Pl->List Pl×Fault
 |0,_,ps=>(ps,⟨0,0⟩)
 |m+1,k,ps=>if (ps.getD k k8).Live=true then (match vb9 (ps.getD k k8) (l.getD k zb1) (k:Int) with
   | .inl ts=>zt1 l m (k+1) (zg4 ps ts)
   | .inr e=>([],⟨e,(k:Int)⟩))
  else zt1 l m (k+1) ps
theorem qs3 (ps:List Pl) (k:Nat):ps.set k (ps.getD k k8)=ps:=by
 apply List.ext_getElem?;intro j;rw [List.getElem?_set];by_cases h:k=j
 ·subst h;by_cases hl:k<ps.length
  ·rw [if_pos rfl,if_pos hl,List.getD_eq_getElem?_getD,List.getElem?_eq_getElem hl];rfl
  ·rw [if_pos rfl,if_neg hl,List.getElem?_eq_none (by omega)]
 ·rw [if_neg h]
theorem vk4 {i:Ins} (h:zk2 i=true):i.UseImm=true\/0<=i.Src/\i.Src<=10:=by
 unfold zk2 at h;split at h
 ·rename_i hu;exact .inl hu
 ·simp only [Bool.and_eq_true,zz9,decide_eq_true_eq] at h;exact .inr h.1
theorem jd6 {x m:Int} (h:zz9 x m=true):0<=x/\x<=m:=by
 simp only [zz9,Bool.and_eq_true,decide_eq_true_eq] at h;exact h
structure InsOk (l:List Ins) (k:Nat) (i:Ins):Prop where
 op:1<=i.Op/\i.Op<=28
 dst:0<=i.Dst/\i.Dst<=10
 sec:i.Op≠14->i.UseImm=true\/0<=i.Src/\i.Src<=10
 src:i.Op=14->(0<=i.Src/\i.Src<=10)/\zu9 i.Size=true
 next:i.Op≠28->i.Op≠16->k+1<l.length
 far:i.Op=16\/(17<=i.Op/\i.Op<=27)->0<=i.Off/\(k:Int)+1+i.Off<l.length
theorem wh2 {l:List Ins} (h:Okay l) {k:Nat} (hk:k<l.length):InsOk l k (l.getD k zb1)/\zh9 (l.getD k zb1)=true:=by
 have hr:=jo2 (h.z1 k hk);have ho:=yy3 _ hr;have h2:=h.z2 k hk;have h3:=h.z3 k hk;unfold c2 ke9 at h2;unfold c3 at h3;generalize l.getD k zb1=i at hr ho h2 h3;refine ⟨⟨ho.2.2,?_,?_,?_,?_,?_⟩,hr⟩
 ·unfold zh9 at hr;split at hr
  ·simp only [Bool.and_eq_true] at hr;have:=jd6 hr.1;omega
  ·split at hr
   ·simp only [Bool.and_eq_true] at hr;have:=jd6 hr.1;omega
   ·split at hr
    ·simp only [Bool.and_eq_true] at hr;have:=jd6 hr.1;omega
    ·split at hr
     ·simp only [Bool.and_eq_true] at hr;exact jd6 hr.1
     ·split at hr
      ·simp only [Bool.and_eq_true,beq_iff_eq] at hr;omega
      ·split at hr
       ·simp only [Bool.and_eq_true] at hr;exact jd6 hr.1
       ·simp only [Bool.and_eq_true,beq_iff_eq] at hr;omega
 ·intro h14;unfold zh9 at hr;split at hr
  ·simp only [Bool.and_eq_true] at hr;exact vk4 hr.2.1
  ·split at hr
   ·simp only [Bool.and_eq_true,beq_iff_eq] at hr;omega
   ·split at hr
    ·simp only [Bool.and_eq_true] at hr;exact vk4 hr.2.2.2.1
    ·split at hr
     ·simp only [Bool.and_eq_true,beq_iff_eq] at hr;omega
     ·split at hr
      ·simp only [Bool.and_eq_true] at hr;exact vk4 hr.2.2.1
      ·simp only [Bool.and_eq_true,beq_iff_eq] at hr;omega
 ·intro h14;unfold zh9 at hr;rw [if_neg (by omega),if_neg (by omega),if_pos h14] at hr;simp only [Bool.and_eq_true] at hr;exact ⟨jd6 hr.2.1,hr.2.2.2.1⟩
 ·intro h28 h16;by_cases he:k+1=l.length
  ·rw [if_pos ⟨he,h28,h16⟩] at h3;exact absurd h3 (by decide)
  ·omega
 ·intro hj;rw [if_pos (by simp only [Bool.and_eq_true,decide_eq_true_eq];omega)] at h2;split at h2
  ·exact absurd h2 (by decide)
  ·split at h2
   ·exact absurd h2 (by decide)
   ·omega
def vg6 (x:List Pl×Fault):Option (Unit×(List Pl×Fault×Unit)):=some ((),(x.1,x.2,()))
theorem kr9 (n m:Nat) (l:List Ins) (hok:Okay l) (k:Nat) (hk:k<l.length) (ps:List Pl) (hn:ps.length=l.length) (hA:AllOk ps) (lv:Bool) (bs:List Bool) (le:Int) (rs:List Known)
  (hJ: ∀(ps2:List Pl) (w:Pl),ps2.length=l.length->AllOk ps2->zu1 n l 0 0 l (k:Int) w.Live w.Bytes w.Least [] ps2 w.Regs=vg6 (zt1 l m (k+1) ps2)):
  qg8 (n+1) l 0 0 l (k:Int) lv bs le [] ps rs=vg6 (zt1 l (m+1) k ps):=by
 have hl:=hok.len;obtain ⟨hi,hright⟩:=wh2 hok hk;rw [jx6,decide_eq_true (by omega),j8,if_pos (by omega),if_pos (by omega),Int.toNat_natCast]
 conv=>rhs;rw [zt1]
 by_cases hlv:(ps.getD k k8).Live=true
 case neg=>
  rw [if_neg hlv,zl0 (by simpa using hlv)];exact hJ ps ⟨lv,rs,bs,le⟩ hn hA
 rw [if_pos hlv,zj6 hlv];have hw:=hA k hlv;have hset:=qs3 ps k;rw [if_pos (by omega),if_pos (by omega)];generalize hwd:ps.getD k k8=w at hw hset hlv⊢;rw [yd6 _ _ _ _ hw.regs (by rw [hw.bytes];exact Nat.le_refl _),j4,if_pos (by omega)];dsimp only;rw [show ps.set k (⟨w.Live,w.Regs,w.Bytes,w.Least⟩:Pl)=ps from hset];generalize hid:l.getD k zb1=i at hi hright⊢;have fin: ∀(o:Out) (w2:Pl),(∀ts,o=.inl ts->qb2 ts)->(match (((W l (zm2 ps o) (k:Int) w2:PW),yu7 o):PW×(Unit⊕(Int×Unit))).2 with
   | .inl _=>(zu1 n l 0 0 (W l (zm2 ps o) (k:Int) w2).1.1 (W l (zm2 ps o) (k:Int) w2).1.2.2.1 (W l (zm2 ps o) (k:Int) w2).1.2.2.2.1 (W l (zm2 ps o) (k:Int) w2).1.2.2.2.2.2.1 (W l (zm2 ps o) (k:Int) w2).1.2.2.2.2.2.2.1 [] (W l (zm2 ps o) (k:Int) w2).2.1 (W l (zm2 ps o) (k:Int) w2).2.2.1)
   | .inr e3=>(j7 (qbi (W l (zm2 ps o) (k:Int) w2).1.1 (W l (zm2 ps o) (k:Int) w2).2.1 (W l (zm2 ps o) (k:Int) w2).1.2.2.1 (W l (zm2 ps o) (k:Int) w2).1.2.2.2.1 (W l (zm2 ps o) (k:Int) w2).2.2.1 (W l (zm2 ps o) (k:Int) w2).1.2.2.2.2.2.1 (W l (zm2 ps o) (k:Int) w2).1.2.2.2.2.2.2.1 [] 0 0 e3.1) fun y4=>
   some ((),(([]:List Pl),(⟨y4.2.2.2.2.2.2.1.1,y4.2.2.2.2.2.2.1.2.1⟩:Fault),()))))=vg6 (match o with| .inl ts=>zt1 l m (k+1) (zg4 ps ts)| .inr e=>([],⟨e,(k:Int)⟩)):=by
  intro o w2 ho;cases o with
  |inl ts=>exact hJ (zg4 ps ts) w2 ((yi6 ..).trans hn) (yr1 ts hA (ho ts rfl))
  |inr e=>
   show j7 (qbi _ _ _ _ _ _ _ _ _ _ _) _=_;rw [kw5,j4];rfl
 have hb:w.Bytes.length<=512:=by rw [hw.bytes];exact Nat.le_refl _
 have hout: ∀ts,vb9 w i (k:Int)=.inl ts->qb2 ts:=fun ts=>kz8 hw hright (k:Int);unfold vb9 at hout⊢;by_cases h14:i.Op=14
 ·rw [if_pos h14] at hout⊢;rw [decide_eq_true h14,j8,kx2,if_pos h14,j4,if_pos (by omega)];obtain ⟨w2,e⟩:=ga4 l ps (k:Int) w i (by have:=hi.next (by omega) (by omega);omega) (by omega) hw.regs hb hA.q hi.dst (hi.src h14).1 (hi.src h14).2;rw [e,j4];exact fin _ w2 hout
 rw [if_neg h14] at hout⊢;rw [decide_eq_false h14,j6];by_cases h15:i.Op=15
 ·rw [if_pos h15] at hout⊢;rw [zj6 (by simp [h15]),gb8,if_neg h14,if_pos h15,j4,if_pos (by omega)];obtain ⟨w2,e⟩:=wd2 l ps (k:Int) w i (by have:=hi.next (by omega) (by omega);omega) (by omega) hw.regs hb hA.q hi.dst (hi.sec h14);rw [e,j4];exact fin _ w2 hout
 rw [if_neg h15] at hout⊢;rw [zl0 (by simp [h15])];by_cases h16:i.Op=16
 ·rw [if_pos h16] at hout⊢;rw [zj6 (by simp [h16]),kw7,if_neg h14,if_neg h15,if_pos h16,j4,if_pos (by omega)];have hf:=hi.far (.inl h16);rw [ga6 l ps (k:Int) w i (by rw [Int.toNat_natCast];exact hid) (by omega) (by omega) hl (by omega) hw.regs hb hA.q,j4];exact fin (ke3 w i (k:Int)) w hout
 rw [if_neg h16] at hout⊢;rw [zl0 (by simp [h16])];by_cases h28:i.Op=28
 ·rw [if_pos h28] at hout⊢;rw [zj6 (by simp [h28]),ga2,if_neg h14,if_neg h15,if_neg h16,if_pos h28,j4,if_pos (by omega),kz7 l ps (k:Int) w i hw.regs,j4];exact fin _ w hout
 rw [if_neg h28] at hout⊢;rw [zl0 (by simp [h28])];have hnx:=hi.next h28 h16;by_cases h13:i.Op<=13
 ·rw [if_pos h13] at hout⊢;rw [zj6 (by simp [h14,h15,h16,h28,h13]),ky3,if_neg h14,if_neg h15,if_neg h16,if_neg h28,decide_eq_true h13,j8,j4,if_pos (by omega)];obtain ⟨w2,e⟩:=qq0 l ps (k:Int) w i (by omega) (by omega) hw.regs hb hA.q hw.u hi.dst (hi.sec h14);rw [e,j4];exact fin _ w2 hout
 rw [if_neg h13] at hout⊢;rw [zl0 (by simp [h13]),gb3,if_neg h14,if_neg h15,if_neg h16,if_neg h28,decide_eq_false h13,j6,j4,if_pos (by omega)];have hf:=hi.far (.inr (by have:=hi.op;omega));obtain ⟨w2,e⟩:=qo8 l ps (k:Int) w i (by rw [Int.toNat_natCast];exact hid) (by omega) hl hn hw.regs hb hA.q (by omega) (by omega) hi.dst (hi.sec h14) hw.u;rw [e,j4];exact fin _ w2 hout
theorem go0 (n m:Nat) (l:List Ins) (hok:Okay l) (k:Nat) (hk:k<l.length) (ps:List Pl) (hn:ps.length=l.length) (hA:AllOk ps) (lv:Bool) (le:Int) (rs:List Known) (bs:List Bool) (hlv:(ps.getD k k8).Live=true)
  (hJ: ∀(ps2:List Pl) (w:Pl),ps2.length=l.length->AllOk ps2->zu1 n l 0 0 l (k:Int) w.Live w.Bytes w.Least [] ps2 w.Regs=vg6 (zt1 l m (k+1) ps2)):
  kc6 (n+1) l 0 0 l (k:Int) lv le ps [] rs bs=vg6 (zt1 l (m+1) k ps):=by
 have hl:=hok.len;obtain ⟨hi,hright⟩:=wh2 hok hk;rw [kl7,decide_eq_true (by omega),j8,if_pos (by omega),if_pos (by omega),Int.toNat_natCast]
 conv=>rhs;rw [zt1]
 rw [if_pos hlv,zj6 hlv];have hw:=hA k hlv;have hset:=qs3 ps k;rw [if_pos (by omega),if_pos (by omega)];generalize hwd:ps.getD k k8=w at hw hset hlv⊢;rw [yd6 _ _ _ _ hw.regs (by rw [hw.bytes];exact Nat.le_refl _),j4,if_pos (by omega)];dsimp only;rw [show ps.set k (⟨w.Live,w.Regs,w.Bytes,w.Least⟩:Pl)=ps from hset];generalize hid:l.getD k zb1=i at hi hright⊢;have fin: ∀(o:Out) (w2:Pl),(∀ts,o=.inl ts->qb2 ts)->(match (((W l (zm2 ps o) (k:Int) w2:PW),yu7 o):PW×(Unit⊕(Int×Unit))).2 with
   | .inl _=>(zu1 n l 0 0 (W l (zm2 ps o) (k:Int) w2).1.1 (W l (zm2 ps o) (k:Int) w2).1.2.2.1 (W l (zm2 ps o) (k:Int) w2).1.2.2.2.1 (W l (zm2 ps o) (k:Int) w2).1.2.2.2.2.2.1 (W l (zm2 ps o) (k:Int) w2).1.2.2.2.2.2.2.1 [] (W l (zm2 ps o) (k:Int) w2).2.1 (W l (zm2 ps o) (k:Int) w2).2.2.1)
   | .inr e3=>(j7 (qbi (W l (zm2 ps o) (k:Int) w2).1.1 (W l (zm2 ps o) (k:Int) w2).2.1 (W l (zm2 ps o) (k:Int) w2).1.2.2.1 (W l (zm2 ps o) (k:Int) w2).1.2.2.2.1 (W l (zm2 ps o) (k:Int) w2).2.2.1 (W l (zm2 ps o) (k:Int) w2).1.2.2.2.2.2.1 (W l (zm2 ps o) (k:Int) w2).1.2.2.2.2.2.2.1 [] 0 0 e3.1) fun y4=>
   some ((),(([]:List Pl),(⟨y4.2.2.2.2.2.2.1.1,y4.2.2.2.2.2.2.1.2.1⟩:Fault),()))))=vg6 (match o with| .inl ts=>zt1 l m (k+1) (zg4 ps ts)| .inr e=>([],⟨e,(k:Int)⟩)):=by
  intro o w2 ho;cases o with
  |inl ts=>exact hJ (zg4 ps ts) w2 ((yi6 ..).trans hn) (yr1 ts hA (ho ts rfl))
  |inr e=>
   show j7 (qbi _ _ _ _ _ _ _ _ _ _ _) _=_;rw [kw5,j4];rfl
 have hb:w.Bytes.length<=512:=by rw [hw.bytes];exact Nat.le_refl _
 have hout: ∀ts,vb9 w i (k:Int)=.inl ts->qb2 ts:=fun ts=>kz8 hw hright (k:Int);unfold vb9 at hout⊢;by_cases h14:i.Op=14
 ·rw [if_pos h14] at hout⊢;rw [decide_eq_true h14,j8,kx2,if_pos h14,j4,if_pos (by omega)];obtain ⟨w2,e⟩:=ga4 l ps (k:Int) w i (by have:=hi.next (by omega) (by omega);omega) (by omega) hw.regs hb hA.q hi.dst (hi.src h14).1 (hi.src h14).2;rw [e,j4];exact fin _ w2 hout
 rw [if_neg h14] at hout⊢;rw [decide_eq_false h14,j6];by_cases h15:i.Op=15
 ·rw [if_pos h15] at hout⊢;rw [zj6 (by simp [h15]),gb8,if_neg h14,if_pos h15,j4,if_pos (by omega)];obtain ⟨w2,e⟩:=wd2 l ps (k:Int) w i (by have:=hi.next (by omega) (by omega);omega) (by omega) hw.regs hb hA.q hi.dst (hi.sec h14);rw [e,j4];exact fin _ w2 hout
 rw [if_neg h15] at hout⊢;rw [zl0 (by simp [h15])];by_cases h16:i.Op=16
 ·rw [if_pos h16] at hout⊢;rw [zj6 (by simp [h16]),kw7,if_neg h14,if_neg h15,if_pos h16,j4,if_pos (by omega)];have hf:=hi.far (.inl h16);rw [ga6 l ps (k:Int) w i (by rw [Int.toNat_natCast];exact hid) (by omega) (by omega) hl (by omega) hw.regs hb hA.q,j4];exact fin (ke3 w i (k:Int)) w hout
 rw [if_neg h16] at hout⊢;rw [zl0 (by simp [h16])];by_cases h28:i.Op=28
 ·rw [if_pos h28] at hout⊢;rw [zj6 (by simp [h28]),ga2,if_neg h14,if_neg h15,if_neg h16,if_pos h28,j4,if_pos (by omega),kz7 l ps (k:Int) w i hw.regs,j4];exact fin _ w hout
 rw [if_neg h28] at hout⊢;rw [zl0 (by simp [h28])];have hnx:=hi.next h28 h16;by_cases h13:i.Op<=13
 ·rw [if_pos h13] at hout⊢;rw [zj6 (by simp [h14,h15,h16,h28,h13]),ky3,if_neg h14,if_neg h15,if_neg h16,if_neg h28,decide_eq_true h13,j8,j4,if_pos (by omega)];obtain ⟨w2,e⟩:=qq0 l ps (k:Int) w i (by omega) (by omega) hw.regs hb hA.q hw.u hi.dst (hi.sec h14);rw [e,j4];exact fin _ w2 hout
 rw [if_neg h13] at hout⊢;rw [zl0 (by simp [h13]),gb3,if_neg h14,if_neg h15,if_neg h16,if_neg h28,decide_eq_false h13,j6,j4,if_pos (by omega)];have hf:=hi.far (.inr (by have:=hi.op;omega));obtain ⟨w2,e⟩:=qo8 l ps (k:Int) w i (by rw [Int.toNat_natCast];exact hid) (by omega) hl hn hw.regs hb hA.q (by omega) (by omega) hi.dst (hi.sec h14) hw.u;rw [e,j4];exact fin _ w2 hout
theorem ky0 (l:List Ins) (hok:Okay l): ∀(m k n:Nat) (ps:List Pl) (lv:Bool) (bs:List Bool) (le:Int) (rs:List Known),k+m=l.length->2*m+1<=n->ps.length=l.length->AllOk ps->qg8 n l 0 0 l (k:Int) lv bs le [] ps rs=vg6 (zt1 l m k ps)
 |0,k,n,ps,lv,bs,le,rs,hk,hn,hp,hA=>by
  obtain ⟨n,rfl⟩: ∃j,n=j+1:=⟨n-1,by omega⟩;rw [jx6,decide_eq_false (by omega),j6,wj3,j4];rfl
 |m+1,k,n,ps,lv,bs,le,rs,hk,hn,hp,hA=>by
  obtain ⟨n,rfl⟩: ∃j,n=j+1+1:=⟨n-2,by omega⟩;have hl:=hok.len;refine kr9 (n+1) m l hok k (by omega) ps hp hA lv bs le rs fun ps2 w h1 h2=>?_;rw [qj2,nx (k:=k) (len:=l.length) (by omega) (by omega)];exact ky0 l hok m (k+1) n ps2 w.Live w.Bytes w.Least w.Regs (by omega) (by omega) h1 h2
def startP:Pl:=⟨true,[⟨0,0,0⟩,⟨2,0,0⟩,⟨4,0,0⟩,⟨0,0,0⟩,⟨0,0,0⟩,⟨0,0,0⟩,⟨0,0,0⟩,⟨0,0,0⟩,⟨0,0,0⟩,⟨0,0,0⟩,⟨3,0,0⟩],List.replicate 512 false,0⟩
theorem gg9:qdg v5=some ((),((startP.Live,startP.Regs,startP.Bytes,startP.Least,()),())):=by
 rw [wr1,ul7];kernel_rfl
theorem kt2:PlOk startP:=by
 refine ⟨rfl,List.length_replicate ..,fun k=>?_⟩;unfold UOk startP;dsimp only;rcases Nat.lt_or_ge k 11 with h|h
 ·have:k=0\/k=1\/k=2\/k=3\/k=4\/k=5\/k=6\/k=7\/k=8\/k=9\/k=10:=by omega
  rcases this with rfl|rfl|rfl|rfl|rfl|rfl|rfl|rfl|rfl|rfl|rfl<;>decide
 ·rw [List.getD_eq_getElem?_getD,List.getElem?_eq_none (by simpa using h)];decide
def zy8 (l:List Ins):List Pl:=(List.replicate l.length k8).set 0 startP
def zd3 (l:List Ins):List Pl×Fault:=if (zp4 l).Err=0 then zt1 l l.length 0 (zy8 l) else ([],zp4 l)
theorem kj6 (l:List Ins):AllOk (zy8 l):=by
 intro k hk;unfold zy8 at hk⊢;rw [zv1] at hk⊢;split
 ·exact kt2
 ·rename_i hn;rw [if_neg hn] at hk;rw [List.getD_eq_getElem?_getD,List.getElem?_replicate] at hk;split at hk<;>exact absurd hk (by decide)
theorem qt0 (l:List Ins):qe v5 l=vg6 (zd3 l):=by
 rw [us4,gi8,j4];unfold zd3;by_cases he:(zp4 l).Err=0
 ·have hok:=gs5 he;have hl:=hok.len;have hp:=hok.pos;rw [if_pos he,show ((zp4 l).Err != 0)=false by rw [he];rfl,j6,if_pos (by omega),gg9,j4,Int.toNat_natCast,if_pos (by rw [List.length_replicate];omega),if_pos (by rw [List.length_replicate];omega)];show kc6 v5 l 0 0 l ((0:Nat):Int) false 0 (zy8 l) [] [] []=_;obtain ⟨n,e⟩: ∃n:Nat,(v5:Nat)=n+1+1:=⟨999999998,rfl⟩;have hn:999999998=n:=by unfold v5 at e;omega
  obtain ⟨m,hm⟩: ∃m,l.length=m+1:=⟨l.length-1,by omega⟩;have hf:(zy8 l).length=l.length:=by unfold zy8;rw [List.length_set,List.length_replicate]
  rw [e,hm];refine go0 (n+1) m l hok 0 hp (zy8 l) hf (kj6 l) false 0 [] [] ?_ fun ps2 w h1 h2=>?_
  ·unfold zy8;rw [zv1,if_pos ⟨rfl,by rw [List.length_replicate];exact hp⟩];rfl
  ·rw [qj2,nx (k:=0) (len:=l.length) (by omega) (by omega)];exact ky0 l hok m 1 n ps2 w.Live w.Bytes w.Least w.Regs (by omega) (by omega) h1 h2
 ·rw [if_neg he,show ((zp4 l).Err != 0)=true from bne_iff_ne.2 he,j8];rfl
theorem qk8 (l:List Ins):qcb v5 l=some (zd3 l).2:=by
 rw [wp0,qt0];rfl
end Go.Y
namespace Go.Y
open Go.RowKit Go.V Go.X Go.Proofs
def exL:List Ins:= [⟨12,false,0,0,true,0,0,0⟩,⟨20,false,2,0,true,1,14,0⟩,⟨28,false,0,0,false,0,0,0⟩,⟨14,false,0,1,false,12,0,2⟩,⟨28,false,0,0,false,0,0,0⟩]
def gd7:List Ins:= [⟨12,false,0,0,true,0,0,0⟩,⟨14,false,0,1,false,12,0,2⟩,⟨28,false,0,0,false,0,0,0⟩]
theorem ux3:qck v5=some exL:=by rw [wn0];rfl
theorem ex1:(zd3 exL).2.Err=0/\(zd3 exL).1.length=5/\((zd3 exL).1.getD 3 k8).Least=14/\((zd3 exL).1.getD 2 k8).Least=0/\((zd3 exL).1.getD 4 k8).Regs.length=11/\(((zd3 exL).1.getD 4 k8).Regs.getD 0 v8).Kind=1/\(((zd3 exL).1.getD 4 k8).Regs.getD 0 v8).In_Lo=0/\(((zd3 exL).1.getD 4 k8).Regs.getD 0 v8).In_Hi=65535:=by decide+kernel
theorem ex2:(zd3 gd7).2.Err=112/\(zd3 gd7).2.At=1:=by decide+kernel
theorem gk0:qaq v5=some true:=by
 obtain ⟨n,e⟩: ∃n:Nat,(v5:Nat)=n+1:=⟨999999999,rfl⟩;obtain ⟨a1,a2,a3,a4,a5,a6,a7,a8⟩:=ex1;rw [wu1,ux3,j4,qt0,vg6,j4,j4,if_pos (by decide),if_pos (by decide),j4,if_pos (by decide),if_pos (by decide)];dsimp only;generalize zd3 exL=p at a1 a2 a3 a4 a5 a6 a7 a8⊢;rw [a1,show ((0:Int) != 0)=false from rfl,j6,a2,show (((5:Nat):Int) != 5)=false from rfl,j6,if_pos (by decide),a3,show ((14:Int) != 14)=false from rfl,j6,if_pos (by decide),a4,show ((0:Int) != 0)=false from rfl,j6,if_pos (by decide),a5,show (((11:Nat):Int) != 11)=false from rfl,e,vu1,j6];rw [show (([]:List Ins)++List.take 1 (List.drop 0 exL))++List.take (((exL.length:Nat):Int).toNat-3) (List.drop 3 exL)=gd7 from rfl,qk8,j4,ex2.1,ex2.2,show (((112:Int)==112)&&((1:Int)==1))=true from rfl,j8,a2,if_pos (by decide),a5,if_pos (by decide),a6,a7,a8];rfl
theorem wy4 {w:Pl} {i:Ins} {a e:Int} (h:vb9 w i a=.inr e):e≠0:=by
 unfold vb9 at h;split at h
 ·unfold js8 at h;split at h
  ·cases h
  ·rename_i hn;cases h;exact hn
 ·split at h
  ·unfold kg5 at h;dsimp only at h;split at h
   ·cases h;decide
   ·split at h
    ·cases h;decide
    ·split at h
     ·cases h;decide
     ·split at h
      ·rename_i hx;cases h;exact jr3 hx
      ·split at h
       ·cases h
       ·rename_i hn;cases h;exact hn
  ·split at h
   ·cases h
   ·split at h
    ·unfold qe5 at h;split at h
     ·cases h
     ·rename_i hx;cases h;exact jr3 hx
    ·split at h
     ·unfold yg4 at h;dsimp only at h;generalize doK i.Op i.Narrow (w.Regs.getD i.Dst.toNat v8) (if i.Op=13 then ⟨0,0,0⟩ else jt1 w.Regs i)=r at h;by_cases h0:r.2=0
      ·rw [if_pos h0] at h;cases h
      ·rw [if_neg h0] at h;cases h;exact h0
     ·unfold yf9 at h;dsimp only at h;split at h
      ·cases h;decide
      ·split at h
       ·rename_i hx;cases h;exact jr3 hx
       ·split at h
        ·rename_i hx;cases h;exact jr3 hx
        ·cases h
theorem qa9 (l:List Ins): ∀(m k:Nat) (ps:List Pl),k+m=l.length->((zt1 l m k ps).2.Err=0/\(zt1 l m k ps).2.At=0)\/((zt1 l m k ps).2.Err≠0/\0<=(zt1 l m k ps).2.At/\(zt1 l m k ps).2.At<(l.length:Int))
 |0,k,ps,_=>.inl ⟨rfl,rfl⟩
 |m+1,k,ps,hk=>by
  rw [zt1];split
  ·split
   ·exact qa9 l m (k+1) _ (by omega)
   ·rename_i e he;exact .inr ⟨wy4 he,by show (0:Int)<=(k:Int);omega,by show (k:Int)<l.length;omega⟩
  ·exact qa9 l m (k+1) _ (by omega)
theorem kr0 {l:List Ins} (h:(zp4 l).Err≠0):0<=(zp4 l).At/\(zp4 l).At<max (l.length:Int) 1:=by
 unfold zp4 at h⊢;split
 ·exact ⟨by show (0:Int)<=0;decide,by show (0:Int)<_;omega⟩
 ·rename_i h0;rw [if_neg h0] at h;split
  ·exact ⟨by show (0:Int)<=0;decide,by show (0:Int)<_;omega⟩
  ·rename_i h1;rw [if_neg h1] at h;have one: ∀(code:Nat->Int) (d:Fault),(0<=d.At/\d.At<max (l.length:Int) 1)->0<=((yp7 code 0 l.length).getD d).At/\((yp7 code 0 l.length).getD d).At<max (l.length:Int) 1:=by
    intro code d hd;cases hs:yp7 code 0 l.length with
    |none=>exact hd
    |some F=>
     obtain ⟨j,h1,h2,_,rfl⟩:=yx8 code _ _ _ hs;exact ⟨by show (0:Int)<=(j:Int);omega,by show (j:Int)<_;omega⟩
   exact one _ _ (one _ _ (one _ _ (one _ _ ⟨by show (0:Int)<=0;decide,by show (0:Int)<_;omega⟩)))
theorem asked_true (l:List Ins):qer v5 l=some true:=by
 rw [wm0,gk0,j4,Bool.not_true,j6,qk8,j4];have key:((zd3 l).2.Err=0/\(zd3 l).2.At=0)\/((zd3 l).2.Err≠0/\0<=(zd3 l).2.At/\(zd3 l).2.At<zl5 (l.length:Int) 1):=by
  have hm:zl5 (l.length:Int) 1=max (l.length:Int) 1:=by unfold zl5;split<;>omega
  rw [hm];unfold zd3;by_cases he:(zp4 l).Err=0
  ·rw [if_pos he];rcases qa9 l l.length 0 (zy8 l) (by omega) with h|h
   ·exact .inl h
   ·exact .inr ⟨h.1,h.2.1,by omega⟩
  ·rw [if_neg he];exact .inr ⟨he,kr0 he⟩
 generalize (zd3 l).2=f at key;by_cases hl:((l.length:Nat):Int)>200
 ·rw [decide_eq_true hl];rfl
 ·rw [decide_eq_false hl,j6];rcases key with ⟨h1,h2⟩|⟨h1,h2,h3⟩
  ·rw [h1,h2];rfl
  ·rw [show (f.Err==0)=false from beq_eq_false_iff_ne.2 h1,j6,decide_eq_true h2,j8,decide_eq_true h3]
end Go.Y
