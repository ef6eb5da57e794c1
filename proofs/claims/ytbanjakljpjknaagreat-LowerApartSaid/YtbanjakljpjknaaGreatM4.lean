import Derived.Test.YtbanjakljpjknaaGreatM3
import Derived.Test.YtbanjakljpjknaaGreatIe
import Derived.Test.YtbanjakljpjknaaGreatIf
import Derived.Test.YtbanjakljpjknaaGreatIg
set_option linter.defProp false
namespace Go.Y
open Go.RowKit Go.V Go.X Go.Proofs
def ui7 {w:Pl} {i:Ins} {a e:Int} (h:jq2 w i a=.inr e):e≠0:=by
 unfold jq2 at h;split at h
 ·unfold jj4 at h
  grind
 ·split at h
  ·unfold vi7 at h;dsimp only at h;split at h
   ·cases h;decide
   ·split at h
    ·cases h;decide
    ·split at h
     ·cases h;decide
     ·split at h
      ·rename_i hx;cases h;exact qa4 hx
      ·grind
  ·split at h
   ·cases h
   ·split at h
    ·unfold jn9 at h;split at h
     ·cases h
     ·rename_i hx;cases h;exact qa4 hx
    ·split at h
     ·unfold zz7 at h
      grind
     ·unfold zu4 at h;dsimp only at h;split at h
      ·cases h;decide
      ·split at h
       ·rename_i hx;cases h;exact qa4 hx
       ·split at h
        ·rename_i hx;cases h;exact qa4 hx
        ·cases h
def wb0 {l:List Ins} {k:Nat} {i:Ins} (hi:InsOk l k i) {w:Pl} {ts:List (Int×Pl)} (e:jq2 w i (k:Int)=.inl ts): ∀x∈ts,(k:Int)+1<=x.1/\x.1<(l.length:Int):=by
 have hop:=hi.op;have one: ∀p:Pl,i.Op≠28->i.Op≠16-> ∀x∈ [((k:Int)+1,p)],(k:Int)+1<=x.1/\x.1<(l.length:Int):=fun p h1 h2 x hx=>by
  rw [Q5] at hx;subst hx;have:=hi.next h1 h2;exact ⟨Int.le_refl _,by show (k:Int)+1<l.length;omega⟩
 unfold jq2 at e;split at e
 ·unfold jj4 at e;split at e
  ·cases e;exact one _ (by omega) (by omega)
  ·cases e
 ·split at e
  ·unfold vi7 at e
   grind
  ·split at e
   ·rename_i h16;cases e;intro x hx;rw [Q5] at hx;subst hx;have:=hi.far (.inl h16);exact ⟨by show (k:Int)+1<=k+1+i.Off;omega,this.2⟩
   ·split at e
    ·unfold jn9 at e;split at e
     ·cases e;intro x hx;cases hx
     ·cases e
    ·split at e
     ·unfold zz7 at e
      grind
     ·unfold zu4 at e;dsimp only at e;split at e
      ·cases e
      ·split at e
       ·cases e
       ·split at e
        ·cases e
        ·cases e;intro x hx;rw [X4] at hx;unfold jh6 at hx;have hf:=hi.far (.inr (by omega))
         grind
def js8 (j:Nat): ∀(ts:List (Int×Pl)) (ps:List Pl),(∀x∈ts,x.1.toNat≠j)->(ze1 ps ts).getD j v6=ps.getD j v6
 | [],_,_=>rfl
 |x::r,ps,h=>by
  rw [ze1,js8 j r _ fun y hy=>h y (by simp [hy])];have hx:=h x (by simp);unfold zo4
  grind
def TsR (ts:List (Int×Pl)):Prop:= ∀x∈ts,x.2.Live=true
def kj9 {ps:List Pl} (k:Nat) {p:Pl} (hp:p.Live=true) {j:Nat} (h:(ps.getD j v6).Live=true):((zo4 ps k p).getD j v6).Live=true:=by
 unfold zo4
 grind
def kk0 {ps:List Pl} {k:Nat} {p:Pl} (hp:p.Live=true) (hk:k<ps.length):((zo4 ps k p).getD k v6).Live=true:=by
 unfold zo4
 grind
def yh6: ∀(ts:List (Int×Pl)) {ps:List Pl},TsR ts-> ∀ {j:Nat},(ps.getD j v6).Live=true->((ze1 ps ts).getD j v6).Live=true
 | [],_,_,_,h=>h
 |x::r,_,ht,_,h=>yh6 r (fun y hy=>ht y (by simp [hy])) (kj9 _ (ht x (by simp)) h)
def yx3: ∀(ts:List (Int×Pl)) {ps:List Pl},TsR ts-> ∀ {x:Int×Pl},x∈ts->x.1.toNat<ps.length->((ze1 ps ts).getD x.1.toNat v6).Live=true
 | [],_,_,_,hm,_=>by cases hm
 |y::r,ps,ht,x,hm,hl=>by
  have h2:TsR r:=fun y hy=>ht y (by simp [hy]);rcases Z0.1 hm with h|h
  ·subst h;exact yh6 r h2 (kk0 (ht _ (by simp)) hl)
  ·exact yx3 r h2 h (by rw [jg7];exact hl)
def yw2 (p:Pl) (r:Int) (x:v9):(zo5 p r x).Live=p.Live:=by unfold zo5;split<;>rfl
def kb2 (w:Pl) (i:Ins) (x y:v9):(ko9 w i x y).Live=w.Live:=by
 unfold ko9;split
 ·exact yw2 ..
 ·split
  ·rfl
  ·exact (yw2 ..).trans (yw2 ..)
def Suc (i:Ins) (k t:Int):Prop:=(i.Op=16/\t=k+1+i.Off)\/(i.Op<=15/\t=k+1)\/(17<=i.Op/\(t=k+1\/t=k+1+i.Off))
def jq7 {M K op:Int} (hop:17<=op/\op<=22) {u v:v9} (hu:In M u) (hv:In K v):(yc3 op u v).isSome=true\/(yc3 (ym2 op) u v).isSome=true:=by
 obtain ⟨_,h1,_⟩:=hu;obtain ⟨_,h2,_⟩:=hv;have hh:op=17\/op=18\/op=19\/op=20\/op=21\/op=22:=by omega
 rcases hh with rfl|rfl|rfl|rfl|rfl|rfl<;>simp only [yc3,ym2,gtE,geE,qt2,reduceIte,Int.reduceEq]<;>grind
def kq9 {M K op:Int} (hop:17<=op/\op<=27) (nw:Bool) {u v:v9} (hu:In M u) (hv:In K v):(qd7 nw op true u v).isSome=true\/(qd7 nw op false u v).isSome=true:=by
 unfold qd7;by_cases h27:op=27
 ·rw [if_pos h27,if_pos h27];obtain ⟨_,h1,_⟩:=hu;obtain ⟨_,h2,_⟩:=hv;have z: ∀a b:Int,0<=a->0<=b->a.toNat&&&b.toNat≠0->0<a/\0<b:=by
   intro a b _ _ h;constructor
   ·by_cases q:0<a
    ·exact q
    ·rw [show a.toNat=0 by omega,Nat.zero_and] at h;exact absurd rfl h
   ·by_cases q:0<b
    ·exact q
    ·rw [show b.toNat=0 by omega,Nat.and_zero] at h;exact absurd rfl h
  have:=z u.Lo v.Lo (by assumption) (by assumption);unfold yd3
  grind
 ·simp only [if_neg h27,reduceIte,M5];by_cases h23:op>=23
  ·have ho:ym2 op>=23/\ym2 (op-4)=ym2 op-4/\((ym2 op=23\/ym2 op=24)↔ ¬(op=23\/op=24)):=by
    have hh:op=23\/op=24\/op=25\/op=26:=by omega
    rcases hh with rfl|rfl|rfl|rfl<;>decide
   rw [if_pos h23,if_pos ho.1];have hp:=jq7 (op:=op-4) (by omega) hu hv;rw [ho.2.1] at hp;unfold yt9
   grind
  ·have ho: ¬ym2 op>=23:=by
    have hh:op=17\/op=18\/op=19\/op=20\/op=21\/op=22:=by omega
    rcases hh with rfl|rfl|rfl|rfl|rfl|rfl<;>decide
   rw [if_neg h23,if_neg ho];exact jq7 (by omega) hu hv
def gy7 {op:Int} (hop:17<=op/\op<=27) (nw:Bool) {a b:v9} (ha:za5 a.Lo/\za5 a.Hi) (hb:za5 b.Lo/\za5 b.Hi): ∃yes,(ifE op nw yes a b).2.2=true:=by
 unfold ifE;by_cases h:a.Lo<=a.Hi/\b.Lo<=b.Hi
 ·have hu:=zr3 (nw:=nw) ha h.1;have hv:=zr3 (nw:=nw) hb h.2;have key: ∀yes,(qd7 nw op yes (qg a nw) (qg b nw)).isSome=true->(wj9 nw a b (qd7 nw op yes (qg a nw) (qg b nw))).2.2=true:=by
   intro yes q;obtain ⟨x,hx⟩:=N3.1 q;rw [hx];rfl
  rcases kq9 hop nw (u:=qg a nw) (v:=qg b nw) ⟨hu.lo,hu.le,hu.hi⟩ ⟨hv.lo,hv.le,hv.hi⟩ with q|q
  ·exact ⟨true,by rw [if_pos ⟨hop,h⟩];exact key _ q⟩
  ·exact ⟨false,by rw [if_pos ⟨hop,h⟩];exact key _ q⟩
 ·exact ⟨true,by rw [if_neg (fun q=>h q.2)]⟩
def kr6 {w:Pl} (hw:PlOk w) (h:w.Live=true) {i:Ins} (hop:17<=i.Op/\i.Op<=27) {a:Int} {ts:List (Int×Pl)} (ho:zu4 w i a=.inl ts):TsR ts/\ ∃x∈ts,Suc i a x.1:=by
 unfold zu4 at ho;dsimp only at ho;split at ho
 ·cases ho
 split at ho
 ·cases ho
 rename_i m hm;split at ho
 ·cases ho
 rename_i n hn;cases ho;have may: ∀yes t,TsR (jh6 w i m n yes t):=by
  intro yes t x hx;unfold jh6 at hx;split at hx
  ·rw [Q5] at hx;subst hx;exact (kb2 ..).trans h
  ·cases hx
 refine ⟨fun x hx=>(X4.1 hx).elim (may _ _ x) (may _ _ x),?_⟩;obtain ⟨yes,g⟩:=gy7 hop i.Narrow (jl3 (hw.u _) hm) (jl3 (qs9 hw.u i) hn);cases yes with
 |true=>
  refine ⟨_,X4.2 (.inr (by unfold jh6;rw [if_pos g];exact Q5.2 rfl)),.inr (.inr ⟨hop.1,.inr rfl⟩)⟩
 |false=>
  refine ⟨_,X4.2 (.inl (by unfold jh6;rw [if_pos g];exact Q5.2 rfl)),.inr (.inr ⟨hop.1,.inl rfl⟩)⟩
def zan4 {w:Pl} (hw:PlOk w) (h:w.Live=true) {i:Ins} (hop:1<=i.Op/\i.Op<=28) {a:Int} {ts:List (Int×Pl)} (e:jq2 w i a=.inl ts):TsR ts/\(i.Op≠28-> ∃x∈ts,Suc i a x.1):=by
 have one: ∀p:Pl,p.Live=true->i.Op<=15->TsR [(a+1,p)]/\(i.Op≠28-> ∃x∈ [(a+1,p)],Suc i a x.1):=fun p hp ho=>
  ⟨fun x hx=>by rw [Q5] at hx;subst hx;exact hp,fun _=>⟨_,Q5.2 rfl,.inr (.inl ⟨ho,rfl⟩)⟩⟩
 unfold jq2 at e;split at e
 ·rename_i h14;unfold jj4 at e;split at e
  ·cases e;exact one _ h (by omega)
  ·cases e
 ·split at e
  ·unfold vi7 at e;dsimp only at e;split at e
   ·cases e
   ·split at e
    ·cases e
    ·split at e
     ·cases e
     ·split at e
      ·cases e
      ·split at e
       ·cases e;exact one _ h (by omega)
       ·cases e
  ·split at e
   ·rename_i h16;cases e;exact ⟨fun x hx=>by rw [Q5] at hx;subst hx;exact h,fun _=>⟨_,Q5.2 rfl,.inl ⟨h16,rfl⟩⟩⟩
   ·split at e
    ·rename_i h28;unfold jn9 at e;split at e
     ·cases e;exact ⟨fun x hx=>(by cases hx),fun q=>absurd h28 q⟩
     ·cases e
    ·split at e
     ·unfold zz7 at e;dsimp only at e;generalize doK i.Op i.Narrow (w.Regs.getD i.Dst.toNat v5) (if i.Op=13 then ⟨0,0,0⟩ else qi9 w.Regs i)=r at e;by_cases h0:r.2=0
      ·rw [if_pos h0] at e;cases e;exact one _ h (by omega)
      ·rw [if_neg h0] at e;cases e
     ·obtain ⟨g1,g2⟩:=kr6 hw h (by omega) e;exact ⟨g1,fun _=>g2⟩
section
variable {l:List Ins} (hok:Okay l)
include hok
theorem vr2: ∀(m k:Nat) (ps:List Pl),k+m=l.length->ps.length=l.length->AllOk ps->(zs5 l m k ps).2.Err=0->
  (∀j,j<k->(zs5 l m k ps).1.getD j v6=ps.getD j v6)/\(∀j,(ps.getD j v6).Live=true->((zs5 l m k ps).1.getD j v6).Live=true)/\
  (∀j,k<=j->j<l.length->((zs5 l m k ps).1.getD j v6).Live=true->(l.getD j zb5).Op≠28-> ∃t:Int,Suc (l.getD j zb5) (j:Int) t/\(j:Int)+1<=t/\t<(l.length:Int)/\((zs5 l m k ps).1.getD t.toNat v6).Live=true)/\(zs5 l m k ps).1.length=l.length/\AllOk (zs5 l m k ps).1
 |0,k,ps,hk,hp,hA,_=>⟨fun _ _=>rfl,fun _ h=>h,fun j h1 h2=>by omega,hp,hA⟩
 |m+1,k,ps,hk,hp,hA,he=>by
  obtain ⟨hi,hr⟩:=qp1 hok (k:=k) (by omega);rw [zs5] at he⊢;by_cases hl:(ps.getD k v6).Live=true
  ·rw [if_pos hl] at he⊢;have hw:=hA k hl;cases ho:jq2 (ps.getD k v6) (l.getD k zb5) (k:Int) with
   |inr e=>rw [ho] at he;exact absurd he (ui7 ho)
   |inl ts=>
    rw [ho] at he;dsimp only at he⊢;have hto:=vo5 hw hr (k:Int) ho;obtain ⟨htn,hsu⟩:=zan4 hw hl hi.op ho;have htf:=wb0 hi ho;obtain ⟨w1,w2,w3,w4⟩:=vr2 m (k+1) (ze1 ps ts) (by omega) ((yb5 ..).trans hp) (yj6 ts hA hto) he;have same: ∀j,j<=k->(ze1 ps ts).getD j v6=ps.getD j v6:=fun j hj=>js8 j ts ps fun x hx=>by have:=htf x hx;omega
    refine ⟨fun j hj=>(w1 j (by omega)).trans (same j (by omega)),fun j h=>w2 j (yh6 ts htn h),fun j h1 h2 h3 h4=>?_,w4⟩;by_cases hj:j=k
    ·subst hj;obtain ⟨x,hx,hs⟩:=hsu h4;have hf:=htf x hx;exact ⟨x.1,hs,hf.1,hf.2,w2 _ (yx3 ts htn hx (by omega))⟩
    ·exact w3 j (by omega) h2 h3 h4
  ·rw [if_neg hl] at he⊢;obtain ⟨w1,w2,w3,w4⟩:=vr2 m (k+1) ps (by omega) hp hA he
   grind
end
abbrev Fl:=Go.X.Flat
def u64 (x:Int):Int:=IntKind.u64.wrap x
def qn2 (i:Ins):List Fl:=if i.UseImm=true then [⟨1,0,false,15,0,0,u64 i.Imm,0,0⟩] else []
def vk6 (i:Ins):Int:=if i.UseImm=true then 15 else i.Src
def qp0 (k t:Int):List Fl:=if k+1<t then [⟨7,0,false,0,0,0,0,0,t⟩] else []
def jo9 (ps:List Pl) (t:Int):Bool:=(ps.getD t.toNat v6).Live
def jn4 (ps:List Pl) (k:Int) (i:Ins):List Fl:=
 if i.Off=0\/jo9 ps (k+1+i.Off)=false then [] else if jo9 ps (k+1)=false then qp0 k (k+1+i.Off)
 else qn2 i++ [⟨8,i.Op,i.Narrow,0,i.Dst,vk6 i,0,0,k+1+i.Off⟩]
def jr9 (i:Ins):List Fl:=
 if i.Op=13 then [⟨3,13,i.Narrow,i.Dst,i.Dst,0,0,0,0⟩]
 else if i.Op=12/\i.Narrow=false/\i.UseImm=true then [⟨1,0,false,i.Dst,0,0,u64 i.Imm,0,0⟩]
 else if i.Op=12/\i.Narrow=false then [⟨2,0,false,i.Dst,i.Src,0,0,0,0⟩]
 else qn2 i++ [⟨3,i.Op,i.Narrow,i.Dst,i.Dst,vk6 i,0,0,0⟩]
def gr1 (ps:List Pl) (k:Int) (i:Ins):List Fl:= [⟨if (((ps.getD k.toNat v6).Regs.getD i.Src.toNat v5).Kind=3) then 5 else 4,0,false,i.Dst,i.Src,0,u64 i.Off,i.Size,0⟩]
def zj8 (i:Ins):List Fl:=qn2 i++ [⟨6,0,false,0,i.Dst,vk6 i,u64 i.Off,i.Size,0⟩]
def qc3 (ps:List Pl) (k:Int) (i:Ins):List Fl:=
 if i.Op=14 then gr1 ps k i else if i.Op=15 then zj8 i else if i.Op=16 then qp0 k (k+1+i.Off) else if i.Op=28 then [⟨9,0,false,0,0,0,0,0,0⟩]
 else if i.Op<=13 then jr9 i else jn4 ps k i
def atL (ps:List Pl) (l:List Ins) (k:Nat):List Fl:=if (ps.getD k v6).Live=true then qc3 ps (k:Int) (l.getD k zb5) else []
def yh7 (f:Nat->List Fl):Nat->List Fl
 |0=> []
 |k+1=>yh7 f k++f k
def yc5 (f:Nat->List Fl) (k:Nat):Nat:=(yh7 f k).length
def je2 (f k):yc5 f (k+1)=yc5 f k+(f k).length:=by unfold yc5;rw [yh7,X9]
def qd8 (f) {j k} (h:j<=k):yc5 f j<=yc5 f k:=by
 obtain ⟨d,rfl⟩:=Nat.exists_eq_add_of_le h;induction d with
 |zero=>exact W6 _
 |succ d a=>rw [<-Nat.add_assoc,je2];have:=a (by omega);omega
def jt8 (f): ∀(n i),i<yc5 f n-> ∃k j,k<n/\j<(f k).length/\i=yc5 f k+j/\(yh7 f n)[i]?=(f k)[j]?
 |0,i,h=>absurd h (Nat.not_lt_zero _)
 |n+1,i,h=>by
  rw [je2] at h;by_cases a:i<yc5 f n
  ·obtain ⟨k,j,e,b,c,d⟩:=jt8 f n i a;exact ⟨k,j,by omega,b,c,by rw [yh7,X8 a];exact d⟩
  ·have a:yc5 f n<=i:=by omega
   exact ⟨n,i-yc5 f n,by omega,by omega,by omega,by rw [yh7,Z2 a];rfl⟩
def yz1 (f) (h: ∀k,(f k).length<=2): ∀n,(yh7 f n).length<=2*n
 |0=>W6 _
 |n+1=>by rw [yh7,X9];have:=yz1 f h n;have:=h n;omega
def qe2 (f K) (h: ∀j,K<=j->f j= []): ∀d,yh7 f (K+d)=yh7 f K
 |0=>rfl
 |d+1=>by rw [<-Nat.add_assoc,yh7,h (K+d) (by omega),V5];exact qe2 f K h d
def Rg (r:Int):Prop:=0<=r/\r<=15
inductive FR:Fl->Prop
 |set {d v}:Rg d->FR ⟨1,0,false,d,0,0,v,0,0⟩
 |move {d a}:Rg d->Rg a->FR ⟨2,0,false,d,a,0,0,0,0⟩
 |alu {o nw d a b}:1<=o/\o<=13->Rg d->Rg a->Rg b->(o≠13\/b=0)->FR ⟨3,o,nw,d,a,b,0,0,0⟩
 |load {w d a n s}:w=4\/w=5->Rg d->Rg a->zm2 s=true->FR ⟨w,0,false,d,a,0,n,s,0⟩
 |write {a b n s}:Rg a->Rg b->zm2 s=true->FR ⟨6,0,false,0,a,b,n,s,0⟩
 |goes {t}:FR ⟨7,0,false,0,0,0,0,0,t⟩
 |ask {o nw a b t}:17<=o/\o<=27->Rg a->Rg b->FR ⟨8,o,nw,0,a,b,0,0,t⟩
 |fin {a}:Rg a->FR ⟨9,0,false,0,a,0,0,0,0⟩
def qk9 (x:Fl):Prop:=x.Do=7\/x.Do=8
structure OkL (ps:List Pl) (n k:Nat) (xs:List Fl):Prop where
 fr: ∀x∈xs,FR x
 to: ∀x∈xs,qk9 x->(k:Int)+1<x.To/\x.To<(n:Int)/\(ps.getD x.To.toNat v6).Live=true
 len:xs.length<=2
def OkL.nil {ps n k}:OkL ps n k []:=⟨fun _ h=>(by cases h),fun _ h=>(by cases h),U8 _⟩
def OkL.one {ps:List Pl} {n k:Nat} {x:Fl} (h:FR x) (b:qk9 x->(k:Int)+1<x.To/\x.To<(n:Int)/\(ps.getD x.To.toNat v6).Live=true):OkL ps n k [x]:=
 ⟨fun y a=>by rw [Q5] at a;subst a;exact h,fun y a=>by rw [Q5] at a;subst a;exact b,by simp⟩
def OkL.sec {ps n k x} (i) (h:OkL ps n k [x]):OkL ps n k (qn2 i++ [x]):=by
 unfold qn2;split
 ·refine ⟨fun y a=>?_,fun y a=>?_,by simp⟩
  ·rcases Z0.1 a with rfl|a
   ·exact .set (by unfold Rg;omega)
   ·exact h.fr y a
  ·rcases Z0.1 a with rfl|a
   ·intro b;unfold qk9 at b;dsimp only at b;omega
   ·exact h.to y a
 ·exact h
def wh0 {i:Ins} (h:i.UseImm=true\/0<=i.Src/\i.Src<=10):Rg (vk6 i):=by
 unfold vk6 Rg
 grind
def vs9 {ps:List Pl} {n k:Nat} {t:Int} (h:(k:Int)+1<t->t<(n:Int)/\(ps.getD t.toNat v6).Live=true):OkL ps n k (qp0 (k:Int) t):=by
 unfold qp0;split
 ·rename_i a;exact .one .goes fun _=>⟨a,h a⟩
 ·exact .nil
def gw1 {l k i} (b:InsOk l k i) (f:zi8 i=true) {ps} (r:i.Op=16->(ps.getD ((k:Int)+1+i.Off).toNat v6).Live=true):OkL ps l.length k (qc3 ps (k:Int) i):=by
 have s:=b.op;have a:Rg i.Dst:=⟨b.dst.1,by have:=b.dst.2;omega⟩;have c: ∀ {x:Fl},¬(x.Do=7\/x.Do=8)->qk9 x->(k:Int)+1<x.To/\x.To<(l.length:Int)/\(ps.getD x.To.toNat v6).Live=true:=fun h q=>absurd q h;unfold qc3;split
 ·rename_i h;obtain ⟨m,j⟩:=b.src h;refine .one (.load ?_ a ⟨m.1,by omega⟩ j) (c ?_)
  ·split<;>omega
  ·dsimp only;split<;>omega
 ·rename_i e;have d:=wh0 (b.sec e);split
  ·rename_i h;have t:zm2 i.Size=true:=by
    unfold zi8 at f;rw [if_neg (by omega),if_neg (by omega),if_neg (by omega),if_pos h] at f;simp only [X3] at f;exact f.2.2.1
   exact .sec _ (.one (.write a d t) (c (by dsimp only;omega)))
  ·split
   ·rename_i h;exact vs9 fun _=>⟨(b.far (.inl h)).2,r h⟩
   ·split
    ·exact .one (.fin (by unfold Rg;omega)) (c (by dsimp only;omega))
    ·split
     ·unfold jr9;split
      ·exact .one (.alu (by omega) a a (by unfold Rg;omega) (.inr rfl)) (c (by dsimp only;omega))
      ·split
       ·exact .one (.set a) (c (by dsimp only;omega))
       ·split
        ·rename_i m j n;have:Rg i.Src:=by
          have:=(b.sec e).resolve_left fun q=>j ⟨n.1,n.2,q⟩;exact ⟨this.1,by omega⟩
         exact .one (.move a this) (c (by dsimp only;omega))
        ·exact .sec _ (.one (.alu (by omega) a a d (by omega)) (c (by dsimp only;omega)))
     ·have o:=b.far (.inr (by omega));unfold jn4;split
      ·exact .nil
      ·rename_i g;have g: ¬i.Off=0/\ ¬jo9 ps ((k:Int)+1+i.Off)=false:=⟨fun q=>g (.inl q),fun q=>g (.inr q)⟩;have p:(ps.getD ((k:Int)+1+i.Off).toNat v6).Live=true:=by have:=g.2;unfold jo9 at this;simpa using this
       split
       ·exact vs9 fun _=>⟨o.2,p⟩
       ·exact .sec _ (.one (.ask (by omega) a d) fun _=>⟨by show (k:Int)+1<k+1+i.Off;omega,o.2,p⟩)
structure Walked (l:List Ins) (ps:List Pl):Prop where
 ok:Okay l
 z:(ps.getD 0 v6).Live=true
 len:ps.length=l.length
 all:AllOk ps
 suc: ∀j,j<l.length->(ps.getD j v6).Live=true->(l.getD j zb5).Op≠28-> ∃t:Int,Suc (l.getD j zb5) (j:Int) t/\(j:Int)+1<=t/\t<(l.length:Int)/\(ps.getD t.toNat v6).Live=true
def yt3 {l} (h:(zi0 l).2.Err=0):Walked l (zi0 l).1:=by
 unfold zi0 at h⊢;by_cases b:(yf5 l).Err=0
 ·rw [if_pos b] at h⊢;have a:=vu6 b;have c:=a.pos;have d:(zq1 l).length=l.length:=by unfold zq1;rw [Q1,Z9]
  have e:(zq1 l).getD 0 v6=startP:=by unfold zq1;rw [zs8,if_pos ⟨rfl,by rw [Z9];exact c⟩]
  obtain ⟨n,f,g,i,k⟩:=vr2 a l.length 0 (zq1 l) (by omega) d (qw7 l) h;exact ⟨a,f 0 (by rw [e];rfl),i,k,fun j m=>g j (U8 _) m⟩
 ·rw [if_neg b] at h;exact absurd h b
section
variable {l:List Ins} {ps:List Pl} (W:Walked l ps)
include W
theorem ys9 {j} (h:(ps.getD j v6).Live=true):j<l.length:=by
 rcases J9 j l.length with a|a
 ·exact a
 ·rw [Y2,Y5 (by rw [W.len];exact a)] at h;exact absurd h (by decide)
theorem zbh6 {j} (h:(ps.getD j v6).Live=true) (a:(l.getD j zb5).Op=16):(ps.getD ((j:Int)+1+(l.getD j zb5).Off).toNat v6).Live=true:=by
 obtain ⟨t,b,_,_,c⟩:=W.suc j (ys9 W h) h (by omega);rcases b with ⟨_,rfl⟩|⟨h,_⟩|⟨h,_⟩
 ·exact c
 ·omega
 ·omega
theorem ve7 (k):OkL ps l.length k (atL ps l k):=by
 unfold atL;split
 ·rename_i h;exact gw1 (qp1 W.ok (ys9 W h)).1 (qp1 W.ok (ys9 W h)).2 (zbh6 W h)
 ·exact .nil
theorem ends: ∀(d j:Nat),l.length<=j+d->(ps.getD j v6).Live=true-> ∃K,j<=K/\(ps.getD K v6).Live=true/\(l.getD K zb5).Op=28/\ ∀m,K<m->(ps.getD m v6).Live=false
 |0,j,hd,h=>by have:=ys9 W h;omega
 |d+1,j,hd,h=>by
  by_cases hm: ∃m,j<m/\(ps.getD m v6).Live=true
  ·obtain ⟨m,h1,h2⟩:=hm;obtain ⟨K,k1,k2,k3,k4⟩:=ends d m (by omega) h2;exact ⟨K,by omega,k2,k3,k4⟩
  ·have hm: ∀m,j<m->(ps.getD m v6).Live=false:=fun m h1=>by
    cases hv:(ps.getD m v6).Live with
    |false=>rfl
    |true=>exact absurd ⟨m,h1,hv⟩ hm
   refine ⟨j,W6 _,h,?_,hm⟩;by_cases h28:(l.getD j zb5).Op=28
   ·exact h28
   ·obtain ⟨t,_,h1,_,h2⟩:=W.suc j (ys9 W h) h h28
    grind
end
def jo2 (b:Nat->Nat) (x:Fl):Fl:=if x.Do=7\/x.Do=8 then ⟨x.Do,x.What,x.Narrow,x.D,x.A,x.B,x.N,x.Size,(b x.To.toNat:Int)⟩ else x
def jp3 (ps:List Pl) (l:List Ins):List Fl:=(yh7 (atL ps l) l.length).map (jo2 (yc5 (atL ps l)))
def gh7 (b x):(jo2 b x).Do=x.Do:=by unfold jo2;split<;>rfl
def uh2 {x} (b) (h:FR x):FR (jo2 b x):=by
 unfold jo2;split
 ·rename_i a;cases h with
  |goes=>exact .goes
  |ask c d e=>exact .ask c d e
  |load c d e f=>exact absurd a (by dsimp only;omega)
  |_=>exact absurd a (by dsimp only;omega)
 ·exact h
def uh3 {x} (b) (h:qk9 x):(jo2 b x).To=(b x.To.toNat:Int):=by unfold jo2;rw [if_pos (show x.Do=7\/x.Do=8 from h)]
structure CodeOk (c:List Fl) (n:Nat):Prop where
 pos:1<=c.length
 len:c.length<=2*n
 last:(c.getD (c.length-1) k9).Do=9
 each: ∀(i:Nat) (x:Fl),c[i]?=some x->FR x/\(qk9 x->(i:Int)<x.To/\x.To<(c.length:Int))
def wa0 {l ps} (W:Walked l ps):CodeOk (jp3 ps l) l.length:=by
 obtain ⟨K,_,n,s,o⟩:=ends W l.length 0 (by omega) W.z;have A:=ys9 W n;have g:atL ps l K= [⟨9,0,false,0,0,0,0,0,0⟩]:=by
  unfold atL qc3;rw [if_pos n,if_neg (by omega),if_neg (by omega),if_neg (by omega),if_pos s]
 have e: ∀j,K+1<=j->atL ps l j= []:=fun j d=>by
  unfold atL;rw [o j (by omega),if_neg (by decide)]
 have c:yh7 (atL ps l) l.length=yh7 (atL ps l) K++ [⟨9,0,false,0,0,0,0,0,0⟩]:=by
  have m:=qe2 (atL ps l) (K+1) e (l.length-(K+1));rw [show K+1+(l.length-(K+1))=l.length by omega,yh7,g] at m;exact m
 have a:(jp3 ps l).length=yc5 (atL ps l) l.length:=by unfold jp3 yc5;rw [V1]
 have b:yc5 (atL ps l) l.length=yc5 (atL ps l) K+1:=by unfold yc5;rw [c,X9];rfl
 refine ⟨by rw [a,b];omega,by rw [a];exact yz1 _ (fun k=>(ve7 W k).len) _,?_,fun i x f=>?_⟩
 ·rw [a,b,Nat.add_sub_cancel,Y2];unfold jp3;rw [W2,c,Z2 (show (yh7 (atL ps l) K).length<=yc5 (atL ps l) K from W6 _)];show (((([⟨9,0,false,0,0,0,0,0,0⟩]:List Fl)[(yh7 (atL ps l) K).length-(yh7 (atL ps l) K).length]?).map _).getD k9).Do=9;rw [Nat.sub_self];exact gh7 _ _
 ·have t:i<yc5 (atL ps l) l.length:=by rw [<-a];exact (X2.1 f).1
  obtain ⟨k,j,m,B,C,u⟩:=jt8 (atL ps l) l.length i t;unfold jp3 at f;rw [W2,u] at f;obtain ⟨y,v,rfl⟩:=Option.map_eq_some_iff.1 f;have p:=X6 v;have q:=ve7 W k;refine ⟨uh2 _ (q.fr y p),fun d=>?_⟩;have d:qk9 y:=by unfold qk9 at d⊢;rw [gh7] at d;exact d
  obtain ⟨D,E,r⟩:=q.to y p d;rw [uh3 _ d,a,b];have w:=qd8 (atL ps l) (j:=k+1) (k:=y.To.toNat) (by omega);have F:=qd8 (atL ps l) (j:=y.To.toNat) (k:=K) (by
   rcases J9 K y.To.toNat with h|h
   ·rw [o _ h] at r;cases r
   ·exact h)
  rw [je2] at w;omega
def qa3 (l:List Ins):List Fl×Fault:=if (zi0 l).2.Err=0 then (jp3 (zi0 l).1 l,⟨0,0⟩) else ([],(zi0 l).2)
def wl6 {α:Type} (f:Nat->Nat->Option α) (c len:Nat) (hstep: ∀n k,k<len->f (n+c) k=f n (k+1)): ∀m k n,k+m=len->f (n+c*m) k=f n len
 |0,k,n,hk=>by
  grind
 |m+1,k,n,hk=>by
  rw [show n+c*(m+1)=n+c*m+c by rw [Nat.mul_succ];omega,hstep _ k (by omega)];exact wl6 f c len hstep m (k+1) n (by omega)
def M (l:List Ins) (ps:List Pl) (a:Int) (out:List Fl) (bg:List Int):(List Ins×Unit×Int×List Fl×Unit×Unit)×List Pl×Unit×List Int×Unit:=((l,(),a,out,(),()),ps,(),bg,())
section
variable (l:List Ins) (ps:List Pl) (a:Int) (out:List Fl) (bg:List Int)
theorem ui4 (xs) (h:(out.length+xs.length)*56<=140737488355328):qz g9 l ps a out bg xs=some (((l,(),a,out++xs,(),()),ps,(),bg,xs,()),()):=by rw [zbg5,if_pos h]
theorem yv6 (x) (h:out.length<=100000):qz g9 l ps a out bg [x]=some (((l,(),a,out++ [x],(),()),ps,(),bg,[x],()),()):=ui4 l ps a out bg [x] (by show (out.length+1)*56<=_;omega)
theorem ql4 (t) (h:0<=t/\t<(ps.length:Int)):qce g9 l ps a out bg t=some (((l,(),a,(),(),()),ps,out,bg,()),(jo9 ps t,())):=by rw [ur6,if_pos h];rfl
theorem wa7 (i) (d:0<=a/\a<(ps.length:Int)) (e:0<=i.Src/\i.Src<(((ps.getD a.toNat v6).Regs.length:Nat):Int)) (c:out.length<=100000):qdu g9 l ps a out bg i=some (M l ps a (out++gr1 ps a i) bg,()):=by
 rw [uy1,if_pos d,if_pos e];unfold gr1;by_cases b:((ps.getD a.toNat v6).Regs.getD i.Src.toNat v5).Kind=3
 ·rw [show (((ps.getD a.toNat v6).Regs.getD i.Src.toNat v5).Kind==3)=true from beq_iff_eq.2 b,j7,yv6 _ _ _ _ _ _ c,j4,if_pos b];rfl
 ·rw [show (((ps.getD a.toNat v6).Regs.getD i.Src.toNat v5).Kind==3)=false from beq_eq_false_iff_ne.2 b,j5,yv6 _ _ _ _ _ _ c,j4,if_neg b];rfl
theorem vo2 (i) (b:out.length<=100000):qbu g9 l ps a out bg i=some (M l ps a (out++qn2 i) bg,(vk6 i,())):=by
 rw [up9];unfold qn2 vk6;cases i.UseImm with
 |false=>rw [U1,j7,if_neg (by decide),if_neg (by decide),V5];rfl
 |true=>rw [W7,j5,yv6 _ _ _ _ _ _ b,j4,if_pos rfl,if_pos rfl];rfl
theorem jx6 (i):(qn2 i).length<=1:=by unfold qn2;split<;>simp
theorem vt8 (t) (c:0<=a/\a<100000) (b:out.length<=100000):qcm g9 l ps a out bg t=some (M l ps a (out++qp0 a t) bg,()):=by
 rw [us6,zg7 (by omega)];unfold qp0;by_cases h:a+1<t
 ·rw [W4 (by omega:t>a+1),j7,yv6 _ _ _ _ _ _ b,j4,if_pos h];rfl
 ·rw [W5 (by omega: ¬t>a+1),j5,if_neg h,V5];rfl
theorem kd6 (i:Ins) (ha:0<=a/\a+1<(ps.length:Int)) (hp:ps.length<=4096) (hf:0<=i.Off/\a+1+i.Off<(ps.length:Int)) (ho:out.length<=90000):qbd g9 l ps a out bg i=some (M l ps a (out++jn4 ps a i) bg,()):=by
 obtain ⟨n,e⟩: ∃n:Nat,(g9:Nat)=n+1:=⟨999999999,rfl⟩;rw [un5,zg7 (x:=a+1) (by omega),zg7 (x:=a+1+i.Off) (by omega)];unfold jn4;by_cases h0:i.Off=0
 ·rw [show (a+1+i.Off==a+1)=true from beq_iff_eq.2 (by omega),j7,e,qh9,j7,if_pos (.inl h0),V5];rfl
 ·rw [show (a+1+i.Off==a+1)=false from beq_eq_false_iff_ne.2 (by omega),j5,ql4 _ _ _ _ _ _ (by omega),j4];dsimp only;rw [e,qh9];cases hl:jo9 ps (a+1+i.Off) with
  |false=>rw [U1,j7,if_pos (.inr rfl),V5];rfl
  |true=>
   rw [W7,j5,ql4 _ _ _ _ _ _ (by omega),j4,if_neg (fun q=>q.elim h0 (by decide))];dsimp only;cases jo9 ps (a+1) with
   |false=>rw [U1,j7,vt8 _ _ _ _ _ _ (by omega) (by omega),j4,if_pos rfl]
   |true=>
    have hs:=jx6 i;rw [W7,j5,show (⟨_,_,_,_,_,_,_,_⟩:Ins)=i from rfl,vo2 _ _ _ _ _ _ (by omega),j4];unfold M;dsimp only;rw [yv6 _ _ _ _ _ _ (by rw [X9];omega),j4,if_neg (by decide),Q2]
theorem ke0 (i:Ins) (ho:out.length<=90000):qak g9 l ps a out bg i=some (M l ps a (out++jr9 i) bg,()):=by
 obtain ⟨n,e⟩: ∃n:Nat,(g9:Nat)=n+1+1:=⟨999999998,rfl⟩;have hs:=jx6 i;have j1: ∀c:Bool,qr1 (n+1) c l a ps out bg i.Op i.Narrow i.Dst i.Src i.UseImm i.Off i.Imm i.Size=some (M l ps a (out++if c=true then [⟨2,0,false,i.Dst,i.Src,0,0,0,0⟩] else qn2 i++ [⟨3,i.Op,i.Narrow,i.Dst,i.Dst,vk6 i,0,0,0⟩]) bg,()):=by
  intro c;rw [kf6];cases c with
  |true=>rw [j7,yv6 _ _ _ _ _ _ (by omega),j4,if_pos rfl];rfl
  |false=>
   rw [j5,show (⟨_,_,_,_,_,_,_,_⟩:Ins)=i from rfl,vo2 _ _ _ _ _ _ (by omega),j4];unfold M;dsimp only;rw [yv6 _ _ _ _ _ _ (by rw [X9];omega),j4,if_neg (by decide),Q2]
 have j0: ∀c:Bool,qa7 (n+1+1) c l a ps out bg i.Op i.Narrow i.Dst i.Src i.UseImm i.Off i.Imm i.Size=some (M l ps a (out++if c=true then [⟨1,0,false,i.Dst,0,0,u64 i.Imm,0,0⟩] else if i.Op=12/\i.Narrow=false then [⟨2,0,false,i.Dst,i.Src,0,0,0,0⟩] else qn2 i++ [⟨3,i.Op,i.Narrow,i.Dst,i.Dst,vk6 i,0,0,0⟩]) bg,()):=by
  intro c;rw [kf5];cases c with
  |true=>rw [j7,yv6 _ _ _ _ _ _ (by omega),j4,if_pos rfl];rfl
  |false=>
   rw [j5,if_neg (by decide)];by_cases h12:i.Op=12
   ·rw [show (i.Op==12)=true from beq_iff_eq.2 h12,j7,j1];cases hn:i.Narrow with
    |false=>rw [if_pos (by decide),if_pos ⟨h12,rfl⟩]
    |true=>rw [if_neg (by decide),if_neg (fun q=>by cases q.2)]
   ·rw [show (i.Op==12)=false from beq_eq_false_iff_ne.2 h12,j5,j1,if_neg (by decide),if_neg (fun q=>h12 q.1)]
 rw [uk8];unfold jr9;by_cases h13:i.Op=13
 ·rw [show (i.Op==13)=true from beq_iff_eq.2 h13,j7,yv6 _ _ _ _ _ _ (by omega),j4,if_pos h13,h13];rfl
 ·rw [show (i.Op==13)=false from beq_eq_false_iff_ne.2 h13,j5,if_neg h13];by_cases h12:i.Op=12
  ·rw [show (i.Op==12)=true from beq_iff_eq.2 h12,j7,e];by_cases hn:i.Narrow=true
   ·rw [show (!i.Narrow)=false by rw [hn];rfl,j5,j0];simp [h12,hn]
   ·have hn2:i.Narrow=false:=by simpa using hn
    rw [show (!i.Narrow)=true by rw [hn2];rfl,j7,j0];simp [h12,hn2]
  ·rw [show (i.Op==12)=false from beq_eq_false_iff_ne.2 h12,j5,e,j0];simp [h12]
theorem ui3 (i) {k} (b:InsOk l k i) (r:(k:Int)=a) (s:ps.length=l.length) (g:k<l.length) (j:ps.length<=4096) (m:(ps.getD a.toNat v6).Regs.length=11) (t:out.length<=80000):qdv g9 l ps a out bg i=some (M l ps a (out++qc3 ps a i) bg,()):=by
 have n:=b.op;have u:=jx6 i;have f:(⟨i.Op,i.Narrow,i.Dst,i.Src,i.UseImm,i.Off,i.Imm,i.Size⟩:Ins)=i:=rfl;rw [uy3];unfold qc3;split
 ·rename_i h;have v:=(b.src h).1;rw [zag3,f,wa7 _ _ _ _ _ _ (by omega) (by rw [m];omega) (by omega),j4];rfl
 ·split
  ·rw [zag5,f,vo2 _ _ _ _ _ _ (by omega),j4];unfold M zj8;dsimp only;rw [yv6 _ _ _ _ _ _ (by rw [X9];omega),j4,Q2];rfl
  ·split
   ·rename_i h;have o:=b.far (.inl h);rw [zag7,zg7 (x:=a+1) (by omega),zg7 (x:=a+1+i.Off) (by omega),vt8 _ _ _ _ _ _ (by omega) (by omega),j4];rfl
   ·split
    ·rw [zag9,yv6 _ _ _ _ _ _ (by omega),j4];rfl
    ·rename_i p q d e;rw [ql0,j4];by_cases c:i.Op<=13
     ·rw [W5 (by omega: ¬16<=i.Op),Bool.false_and,j5,ke0 _ _ _ _ _ _ (by omega),j4,if_pos c]
     ·have o:=b.far (.inr (by omega));have w:=b.next e d;rw [W4 (by omega:16<=i.Op),W4 (by omega:i.Op<=27),V2,j7,kd6 _ _ _ _ _ _ (by omega) j (by omega) (by omega),j4,if_neg c]
end
def bgL (f:Nat->List Fl) (k:Nat):List Int:=(List.range k).map fun j=>((yc5 f j:Nat):Int)
def kr0 (f k):bgL f (k+1)=bgL f k++ [((yc5 f k:Nat):Int)]:=by unfold bgL;rw [List.range_succ,V8];rfl
def vs1 (f k):(bgL f k).length=k:=by unfold bgL;rw [V1,List.length_range]
def gv6 (f:Nat->List Fl) {k j:Nat} (h:j<k):(bgL f k).getD j 0=((yc5 f j:Nat):Int):=by
 unfold bgL
 grind
def wa1 {l ps} (W:Walked l ps) (n b c):
  jr3 (n+2*l.length) l ((l.length:Nat):Int) 0 b c l 0 ps [] []=jr3 n l ((l.length:Nat):Int) ((l.length:Nat):Int) b c l (((l.length-1:Nat):Nat):Int) ps (yh7 (atL ps l) l.length) (bgL (atL ps l) l.length):=by
 have g:=W.ok.len;refine wl6 (fun n k=>jr3 n l ((l.length:Nat):Int) ((k:Nat):Int) b c l (((k-1:Nat):Nat):Int) ps (yh7 (atL ps l) k) (bgL (atL ps l) k)) 2 l.length (fun n k d=>?_) l.length 0 n (by omega);have h:=yz1 (atL ps l) (fun k=>(ve7 W k).len) k;obtain ⟨f,_⟩:=qp1 W.ok d;show jr3 (n+1+1) l _ _ b c l _ ps _ _=_;rw [va4,W4 (by omega:(k:Int)<(l.length:Int)),j7,if_pos (by rw [vs1];omega),ql4 _ _ _ _ _ _ (by rw [W.len];omega),j4];dsimp only;have e:(ps.getD ((k:Nat):Int).toNat v6).Live=(ps.getD k v6).Live:=rfl;unfold jo9;rw [e,show bgL (atL ps l) k++ [(((yh7 (atL ps l) k).length:Nat):Int)]=bgL (atL ps l) (k+1) from (kr0 _ _).symm];show j9 _ (if _ then _ else _) _=jr3 n l _ ((k+1:Nat):Int) b c l ((k:Nat):Int) ps (yh7 (atL ps l) k++atL ps l k) _;rw [show atL ps l k=if (ps.getD k v6).Live=true then qc3 ps (k:Int) (l.getD k zb5) else [] from rfl];cases hv:(ps.getD k v6).Live with
 |true=>
  rw [j7,if_pos (by omega),show (((k:Nat):Int)).toNat=k from rfl,ui3 l ps (k:Int) _ _ (l.getD k zb5) f rfl W.len d (by rw [W.len];omega) (W.all k hv).regs (by omega),j4];unfold M;dsimp only;rw [va2,nx d (by omega),if_pos rfl]
 |false=>
  rw [j5,va2,nx d (by omega),if_neg (by decide),V5]
def vt6 {l:List Ins} {ps:List Pl} (f:Nat->List Fl) (xs:List Fl) (b00 b01 b12:Int) (hx:xs.length<=100000) (hj: ∀x∈xs,qk9 x->0<=x.To/\x.To<(l.length:Int)) (bg:List Int) (hb:bg=bgL f l.length) (n:Nat):
  ∀(m k:Nat) (ys:List Fl),k+m=xs.length->ys.length=xs.length->(∀j,ys[j]?=if j<k then (xs[j]?).map (jo2 (yc5 f)) else xs[j]?)->vj6 (n+1+3*m) ((xs.length:Nat):Int) ((k:Nat):Int) b00 b01 l b12 ys ps bg=some (xs.map (jo2 (yc5 f)),⟨0,0⟩)
 |0,k,ys,hk,hy,hP=>by
  rw [show n+1+3*0=n+1 from rfl,va5,W5 (by omega: ¬(k:Int)<(xs.length:Int)),j5];congr 2;apply M1;intro j;rw [hP,W2];split
  ·rfl
  ·rw [Y5 (by omega)];rfl
 |m+1,k,ys,hk,hy,hP=>by
  obtain ⟨x,hx1⟩: ∃x,xs[k]?=some x:=⟨_,Y0 (by omega:k<xs.length)⟩;have hg:ys.getD ((k:Nat):Int).toNat k9=x:=by
   show ys.getD k k9=x;rw [Y2,hP,if_neg (Nat.lt_irrefl _),hx1];rfl
  have next: ∀zs:List Fl,zs=ys.set k (jo2 (yc5 f) x)->vj6 (n+1+3*m) ((xs.length:Nat):Int) ((k+1:Nat):Int) b00 b01 l b12 zs ps bg=some (xs.map (jo2 (yc5 f)),⟨0,0⟩):=by
   rintro zs rfl
   refine vt6 f xs b00 b01 b12 hx hj bg hb n m (k+1) _ (by omega) (by rw [Q1];exact hy) fun j=>?_
   grind
  have j3: ∀(c:Bool) (b:Fl),b=x->(c=true↔qk9 x)->km6 (n+1+3*m+1+1) ((k:Nat):Int) ((xs.length:Nat):Int) ((k:Nat):Int) c b00 b01 l b12 b.Do b.What b.Narrow b.D b.A b.B b.N b.Size b.To ys ps bg=some (xs.map (jo2 (yc5 f)),⟨0,0⟩):=by
   rintro c b rfl hc
   rw [kz4];cases c with
   |true=>
    have hj2:=hc.1 rfl;have ht:=hj b (X6 hx1) hj2;rw [j7,if_pos (by rw [hb,vs1];exact ht),if_pos (by omega),va3,nx (k:=k) (len:=xs.length) (by omega) (by omega)];refine next _ ?_
    show ys.set k _=_;rw [show ys.getD ((k:Nat):Int).toNat k9=b from hg,hb,gv6 f (by omega)];unfold jo2;rw [if_pos (show b.Do=7\/b.Do=8 from hj2)]
   |false=>
    rw [j5,va3,nx (k:=k) (len:=xs.length) (by omega) (by omega)];refine next _ ?_
    unfold jo2;rw [if_neg (fun q:b.Do=7\/b.Do=8=>absurd (hc.2 q) (by decide))];apply M1
    grind
  rw [show n+1+3*(m+1)=n+1+3*m+1+1+1 by omega,va5,W4 (by omega:(k:Int)<(xs.length:Int)),j7,if_pos (by omega),hg];by_cases h7:x.Do=7
  ·rw [show (x.Do==7)=true from beq_iff_eq.2 h7,j7];exact j3 true x rfl ⟨fun _=>.inl h7,fun _=>rfl⟩
  ·rw [show (x.Do==7)=false from beq_eq_false_iff_ne.2 h7,j5];refine j3 (x.Do==8) x rfl ⟨fun q=>.inr (beq_iff_eq.1 q),fun q=>beq_iff_eq.2 (q.resolve_left h7)⟩
def ql3 (l:List Ins):qe g9 l=some (qa3 l):=by
 rw [zax5,kw2];unfold vg1 qa3;rw [j4];dsimp only;by_cases he:(zi0 l).2.Err=0
 ·have W:=yt3 he;have hl:=W.ok.len;rw [show ((zi0 l).2.Err != 0)=false by rw [he];rfl,j5,if_pos he];generalize (zi0 l).1=ps at W;have hc:=yz1 (atL ps l) (fun k=>(ve7 W k).len) l.length;obtain ⟨n,e⟩: ∃n:Nat,(g9:Nat)=n+1+3*(yh7 (atL ps l) l.length).length+1+2*l.length:=⟨g9-(1+3*(yh7 (atL ps l) l.length).length+1+2*l.length),by unfold g9;omega⟩;rw [e,wa1 W,va4,W5 (Int.lt_irrefl _),j5];unfold jp3;refine vt6 (atL ps l) _ 0 0 _ (by omega) (fun x hx hj=>?_) _ rfl n _ 0 _ (by omega) rfl fun j=>by rw [if_neg (Nat.not_lt_zero _)]
  obtain ⟨i,hi⟩:=List.getElem?_of_mem hx;obtain ⟨k,j,_,_,_,h4⟩:=jt8 (atL ps l) l.length i (X2.1 hi).1;have:=(ve7 W k).to x (X6 (h4.symm.trans hi)) hj;omega
 ·rw [show ((zi0 l).2.Err != 0)=true from bne_iff_ne.2 he,j7,if_neg he]
def qm9 (xs) (c:xs.length<=1000) (h: ∀x∈xs,Rg x):qj g9 xs=some true:=by
 rw [zbe6];refine jj6 (fun n k=>qs4 n xs ((xs.length:Nat):Int) (k:Int)) 2 xs.length _ (fun n k a=>?_) (fun n=>?_) g9 (by unfold g9;omega)
 ·obtain ⟨d,e⟩:=h _ (List.getElem_mem a);have b:xs.getD ((k:Nat):Int).toNat 0=xs[k]:=by show xs.getD k 0=_;rw [Y2,Y0 a];rfl
  show qs4 (n+1+1) xs _ _=_;rw [va7,W4 (by omega:(k:Int)<(xs.length:Int)),j7,if_pos (by omega),b,W5 (by omega: ¬xs[k]<0),j5,W5 (by omega: ¬xs[k]>15),gb6,j5,nx a (by omega)]
 ·show qs4 (n+1) xs _ _=_;rw [va7,W5 (by omega),j5]
def ue3 {a} (c:Rg a):qj g9 [a]=some true:=qm9 _ (by simp) fun x b=>by rw [Q5] at b;subst b;exact c
def ko1 {a b:Int} (h1:Rg a) (h2:Rg b):qj g9 [a,b]=some true:=qm9 _ (by simp) fun x hx=>by
 grind
def zbg7 {a b c:Int} (h1:Rg a) (h2:Rg b) (h3:Rg c):qj g9 [a,b,c]=some true:=qm9 _ (by simp) fun x hx=>by
 grind
def vd3 {c d e f g i j b k l a} (h:zm2 b=true):qcl g9 c d e f g i j b k l a=some ((),(true,())):=by
 rw [us5];unfold zm2 at h;simp only [J2,beq_iff_eq] at h;rcases h with rfl|rfl|rfl|rfl<;>rfl
def gh5 {d e f g i j k l b c a} (h:c<b/\b<a):qcj g9 d e f g i j k l b c a=some ((),(true,())):=by
 rw [us2,W4 (by omega:b>c),W4 h.2];rfl
noncomputable def qs7 (x:Fl) (a n:Int):Option (Unit×(Bool×Unit)):=
 if x.Do=1 then qdr g9 x.Do x.What x.Narrow x.D x.A x.B x.N x.Size x.To a n
 else if x.Do=2 then qdq g9 x.Do x.What x.Narrow x.D x.A x.B x.N x.Size x.To a n
 else if x.Do=3 then qdm g9 x.Do x.What x.Narrow x.D x.A x.B x.N x.Size x.To a n
 else if x.Do=4 then qck g9 x.Do x.What x.Narrow x.D x.A x.B x.N x.Size x.To a n
 else if x.Do=5 then qck g9 x.Do x.What x.Narrow x.D x.A x.B x.N x.Size x.To a n
 else if x.Do=6 then qds g9 x.Do x.What x.Narrow x.D x.A x.B x.N x.Size x.To a n
 else if x.Do=7 then qdp g9 x.Do x.What x.Narrow x.D x.A x.B x.N x.Size x.To a n
 else if x.Do=8 then qdn g9 x.Do x.What x.Narrow x.D x.A x.B x.N x.Size x.To a n
 else if x.Do=9 then qdo g9 x.Do x.What x.Narrow x.D x.A x.B x.N x.Size x.To a n
 else some ((),(false,()))
def ge2 (n a c k) (b:0<=k/\k<((c.length:Nat):Int)):qd3 (n+1) a c ((c.length:Nat):Int) k=j6 (qs7 (c.getD k.toNat k9) k a) fun y=>yq5 n a c ((c.length:Nat):Int) k (!y.2.1):=by
 rw [va8,W4 b.2,j7,if_pos b];generalize c.getD k.toNat k9=x;unfold qs7
 repeat' split
 all_goals rfl
def ki6 {x:Fl} {a n:Int} (h:FR x) (hj:qk9 x->a<x.To/\x.To<n):qs7 x a n=some ((),(true,())):=by
 unfold qs7;cases h with
 |set h1=>
  dsimp only;rw [if_pos rfl,ux5,jr5,j4];simp only [beq_self_eq_true,V2,j7,ue3 h1,j4]
 |move h1 h2=>
  dsimp only;rw [if_neg (by decide),if_pos rfl,ux3,jr5,j4];simp only [beq_self_eq_true,V2,j7,ko1 h1 h2,j4]
 |alu h1 h2 h3 h4 h5=>
  simp only [Int.reduceEq,reduceIte];rw [uw5,jr5,j4];simp only [beq_self_eq_true,V2,j7];rw [W4 h1.1,j7,W4 h1.2,j7,zbg7 h2 h3 h4,j4,j7];rcases h5 with h5|h5
  ·rw [bne_iff_ne.2 h5,j7]
  ·subst h5;unfold j9;split<;>rfl
 |load h1 h2 h3 h4=>
  have key: ∀w d a' v s,Rg d->Rg a'->zm2 s=true->qck g9 w 0 false d a' 0 v s 0 a n=some ((),(true,())):=by
   intro w d a' v s h2 h3 h4;rw [us3,jr5,j4];simp only [beq_self_eq_true,V2,j7,ko1 h2 h3,j4,vd3 h4]
  grind
 |write h1 h2 h3=>
  simp only [Int.reduceEq,reduceIte];rw [ux7,jr5,j4];simp only [beq_self_eq_true,V2,j7,ko1 h1 h2,j4,vd3 h3]
 |goes=>
  simp only [Int.reduceEq,reduceIte];rw [ux1,jr5,j4];simp only [beq_self_eq_true,V2,j7];rw [gh5 (hj (.inl rfl)),j4]
 |ask h1 h2 h3=>
  simp only [Int.reduceEq,reduceIte];rw [uw7,jr5,j4];simp only [beq_self_eq_true,V2,j7];rw [W4 h1.1,j7,W4 h1.2,j7,ko1 h2 h3,j4,j7,gh5 (hj (.inr rfl)),j4]
 |fin h1=>
  simp only [Int.reduceEq,reduceIte];rw [uw9,jr5,j4];simp only [beq_self_eq_true,V2,j7,ue3 h1,j4]
def vk4 {c:List Fl} {m:Nat} (h:CodeOk c m) (hm:m<=4096):qk g9 c=some true:=by
 have h1:=h.pos;have h2:=h.len;have hl:IntKind.i64.wrap (((c.length:Nat):Int)-1)=((c.length-1:Nat):Int):=by rw [zg7 (by omega)];omega
 obtain ⟨n,e⟩: ∃n:Nat,(g9:Nat)=n+1:=⟨999999999,rfl⟩;have hn:n=999999999:=by unfold g9 at e;omega
 rw [zbe7,W5 (by omega),j5,W5 (by omega),j5,hl,if_pos (by omega),show (((c.length-1:Nat):Int)).toNat=c.length-1 from rfl,h.last,e,gb7,show ((9:Int) != 9)=false from rfl,j5,zag1,j4];refine jj6 (fun n k=>qd3 n ((c.length:Nat):Int) c ((c.length:Nat):Int) (k:Int)) 2 c.length _ (fun n k hk=>?_) (fun n=>?_) n (by omega)
 ·obtain ⟨x,hx⟩: ∃x,c[k]?=some x:=⟨_,Y0 hk⟩;obtain ⟨hf,hj⟩:=h.each k x hx;have hg:c.getD ((k:Nat):Int).toNat k9=x:=by show c.getD k k9=_;rw [Y2,hx];rfl
  show qd3 (n+1+1) _ c _ _=_;rw [ge2 _ _ _ _ (by omega),hg,ki6 hf hj,j4];dsimp only;rw [W7,gb8,j5,nx hk (by omega)]
 ·show qd3 (n+1) _ c _ _=_;rw [va8,W5 (by omega),j5]
def egL:List Ins:= [⟨12,false,0,0,true,0,7,0⟩,⟨28,false,0,0,false,0,0,0⟩]
def enL:List Ins:= [⟨28,false,0,0,false,0,0,0⟩]
def eg_v:qa3 egL=([⟨1,0,false,0,0,0,7,0,0⟩,⟨9,0,false,0,0,0,0,0,0⟩],⟨0,0⟩):=by rfl
def en_v:qa3 enL=([],⟨110,0⟩):=by rfl
def gv5:qdt g9=some true:=by
 rw [ux9];show j6 (qe g9 egL) _=_;rw [ql3,j4];show j6 (qe g9 enL) _=_;rw [ql3,j4,eg_v,en_v];have h:qfr g9 [⟨1,0,false,0,0,0,7,0,0⟩,⟨9,0,false,0,0,0,0,0,0⟩] []=some ⟨0,0,7,2⟩:=by kernel_rfl
 show j6 (qfr g9 [⟨1,0,false,0,0,0,7,0,0⟩,⟨9,0,false,0,0,0,0,0,0⟩] []) _=_;rw [h,j4];rfl
def js4 (c:List Fl) (hc:c.length<=100000):qat g9 c c=some true:=by
 rw [um2,show (((c.length:Nat):Int) != ((c.length:Nat):Int))=false by simp,j5];refine jj6 (fun n k=>jm0 n c c (k:Int)) 1 c.length _ (fun n k hk=>?_) (fun n=>?_) g9 (by unfold g9;omega)
 ·show jm0 (n+1) c c _=_;rw [qh8,W4 (by omega:(k:Int)<(c.length:Int)),j7,if_pos (by omega),if_pos (by omega)];simp only [beq_self_eq_true,V2,W7,j5];rw [nx hk (by omega)]
 ·show jm0 (n+1) c c _=_;rw [qh8,W5 (by omega),j5]
def gz3 {c:List Fl} {m:Nat} (h:CodeOk c m) (hm:m<=4096) (n:Nat) (hn:n>=100000):jr4 n 0 c c=some true:=by
 have h2:=h.len;have hr:=vk4 h hm;refine jj6 (fun n k=>jr4 n (k:Int) c c) 2 c.length _ (fun n k hk=>?_) (fun n=>?_) n (by omega)
 ·obtain ⟨x,hx⟩: ∃x,c[k]?=some x:=⟨_,Y0 hk⟩;obtain ⟨hf,hj⟩:=h.each k x hx;have hg:c.getD ((k:Nat):Int).toNat k9=x:=by show c.getD k k9=_;rw [Y2,hx];rfl
  have j2:qd4 (n+1) (k:Int) false c c=jr4 n ((k+1:Nat):Int) c c:=by rw [gc5,j5,nx hk (by omega)]
  show jr4 (n+1+1) _ c c=_;rw [vb0,W4 (by omega:(k:Int)<(c.length:Int)),j7];simp only [hg];rw [if_pos (by omega)];by_cases h7:x.Do=7
  ·have:=hj (.inl h7);rw [show (x.Do==7)=true from beq_iff_eq.2 h7,j7,if_pos (by omega),W5 (by omega),j5,if_pos (by omega),W5 (by omega),j2]
  ·rw [show (x.Do==7)=false from beq_eq_false_iff_ne.2 h7,j5,if_pos (by omega)];by_cases h8:x.Do=8
   ·have:=hj (.inr h8);rw [show (x.Do==8)=true from beq_iff_eq.2 h8,j7,if_pos (by omega),W5 (by omega),j5,if_pos (by omega),W5 (by omega),j2]
   ·rw [show (x.Do==8)=false from beq_eq_false_iff_ne.2 h8,j5,j2]
 ·have ha:wi9 c c=some (((),(),(),()),(true,())):=by
   have e:yr0 (α:=List Fl) List.length [c,c]=true:=by
    unfold yr0;have h1:Nat.ble c.length 1073741824=true:=W3 (by omega);show (Nat.ble 2 1048576&&(Nat.ble c.length 1073741824&&(Nat.ble c.length 1073741824&&true)))=true;rw [h1];rfl
   unfold wi9;rw [e]
  show jr4 (n+1) _ c c=_;rw [vb0,W5 (by omega),j5,hr,j4,j7,ha,j4]
def lowerApart_true (l:List Ins):qp g9 l=some true:=by
 rw [zbf4,gv5,j4,W7,j5];by_cases hl:l.length>200
 ·rw [W4 (by omega),j7]
 ·rw [W5 (by omega),j5,ql3,j4,j4];simp only [beq_self_eq_true,V2,W7,j5];obtain ⟨n,e⟩: ∃n:Nat,(g9:Nat)=n+1:=⟨999999999,rfl⟩;have hn:n=999999999:=by unfold g9 at e;omega
  unfold qa3;by_cases he:(zi0 l).2.Err=0
  ·rw [if_pos he];have h:=wa0 (yt3 he);have h2:=h.len;rw [js4 _ (by show (jp3 (zi0 l).1 l).length<=_;omega),j4,e,va9,W7,j5];show j9 ((0:Int) != 0) _ _=_;rw [show ((0:Int) != 0)=false from rfl,j5];exact gz3 h (by omega) n (by omega)
  ·rw [if_neg he,js4 _ (U8 _),j4,e,va9,W7,j5,show ((zi0 l).2.Err != 0)=true from bne_iff_ne.2 he,j7];rfl
end Go.Y
