import Derived.Test.YtliopfopmhhdeaaGreatRp
set_option linter.defProp false
namespace Go.Y
open Go.RowKit Go.V Go.X
def yj5 (v:Int):List Int->List Int
 | []=> [v]
 |x::r=>if x<v then x::yj5 v r else if x=v then x::r else v::x::r
def zp3 (v:Int):List Int->Nat
 | []=>0
 |x::r=>if x<v then zp3 v r+1 else 0
def yi4 (r:List Come):List Int:=r.foldl (fun o c=>yj5 c.version o) []
def jw2 (v:Int): ∀o:List Int,zp3 v o<=o.length
 | []=>W8 0
 |x::r=>by unfold zp3;have:=jw2 v r;split<;>simp<;>omega
def qz1 (v:Int): ∀(o:List Int) (k:Nat),k<zp3 v o->o.getD k 0<v
 | [],k,h=>by simp [zp3] at h
 |x::r,k,h=>by
  unfold zp3 at h;split at h
  ·rename_i hx;cases k with
   |zero=>exact hx
   |succ k=>exact qz1 v r k (by omega)
  ·omega
def qg8 (v:Int): ∀(o:List Int),zp3 v o<o.length-> ¬o.getD (zp3 v o) 0<v
 | [],h=>by simp at h
 |x::r,h=>by
  unfold zp3 at h⊢;split
  ·rename_i hx;rw [if_pos hx] at h;exact qg8 v r (by simpa using h)
  ·rename_i hx;exact hx
def jx4 (v:Int): ∀(o:List Int),yj5 v o=if zp3 v o=o.length\/o.getD (zp3 v o) 0≠v then (o.take (zp3 v o)++ [v])++o.drop (zp3 v o) else o
 | []=>rfl
 |x::r=>by
  have ih:=jx4 v r;unfold yj5 zp3;by_cases hx:x<v
  ·rw [if_pos hx,if_pos hx,ih];have e:(zp3 v r+1=(x::r).length\/(x::r).getD (zp3 v r+1) 0≠v)↔(zp3 v r=r.length\/r.getD (zp3 v r) 0≠v):=by simp
   by_cases h:zp3 v r=r.length\/r.getD (zp3 v r) 0≠v
   ·rw [if_pos h,if_pos (e.2 h)];rfl
   ·rw [if_neg h,if_neg (fun h'=>h (e.1 h'))]
  ·rw [if_neg hx,if_neg hx];by_cases he:x=v
   ·rw [if_pos he,if_neg (fun h=>h.elim (fun h=>by simp at h) fun h=>h he)]
   ·rw [if_neg he,if_pos (.inr (by exact he))];rfl
def vt7 (v:Int) (o:List Int):(yj5 v o).length<=o.length+1:=by
 rw [jx4];split
 ·have:=jw2 v o;simp;omega
 ·omega
def jr5: ∀(r:List Come) (o:List Int),(r.foldl (fun o c=>yj5 c.version o) o).length<=o.length+r.length
 | [],o=>by simp
 |c::r,o=>by
  have h1:=jr5 r (yj5 c.version o);have h2:=vt7 c.version o;show (r.foldl _ (yj5 c.version o)).length<=_;simp only [U7];omega
def vk1 (r:List Come):(yi4 r).length<=r.length:=by have:=jr5 r [];simpa [yi4] using this
def qt6 {r:List Come} {k:Nat} (h:k<r.length):yi4 (r.take (k+1))=yj5 (r.getD k zi4).version (yi4 (r.take k)):=by
 unfold yi4;rw [qa7 (d:=zi4) h,List.foldl_append];rfl
def gf4 (r:List Come) (o:List Int) (k:Nat) (v:Int) (hk:k<r.length) (hr:r.length<=1000) (ho:o.length<=1000) (n:Nat) (hn:3000<=n):
  ∃n',n<=n'+3000/\yv2 n (k:Int) v 0 r o=jh7 n' ((k+1:Nat):Int) r (yj5 v o):=by
 have hp:=jw2 v o;have j3: ∀n j b,qu0 (n+1) (k:Int) v j b r o=if b=true then yv2 n (k:Int) v (IntKind.i64.wrap (j+1)) r o else z8 (j==((o.length:Nat):Int)) (qc8 n (k:Int) v j true r o) (if 0<=j/\j<((o.length:Nat):Int) then (qc8 n (k:Int) v j ((o.getD j.toNat (0:Int)) != v) r o) else none):=fun n j b=>by
  rw [vx4,ze5]
 obtain ⟨n1,_,h1,_,h2⟩:=jf6 (fun n (_:Unit) j=>yv2 n (k:Int) v (j:Int) r o) (fun _ _=>True) 2 (zp3 v o) (fun n _ j hj hc _=>by
  obtain ⟨n,rfl⟩: ∃m,n=m+1+1:=⟨n-2,by omega⟩;refine ⟨n,(),by omega,trivial,?_⟩;show yv2 (n+1+1) (k:Int) v (j:Int) r o=yv2 n (k:Int) v ((j+1:Nat):Int) r o;have hlt:=qz1 v o j hj;rw [ql4,W6 (by omega),z6,if_pos (by omega),Z1,j3,W6 hlt,if_pos rfl,nx (len:=1000) (by omega) (by omega)]) (zp3 v o) 0 n () (by omega) (by omega) trivial
 have h2:yv2 n (k:Int) v 0 r o=yv2 n1 (k:Int) v ((zp3 v o:Nat):Int) r o:=h2;obtain ⟨m,rfl⟩: ∃m,n1=m+1+1+1+1:=⟨n1-4,by omega⟩;refine ⟨m,by omega,?_⟩;rw [h2];have j4: ∀s,qc8 (m+1+1) (k:Int) v ((zp3 v o:Nat):Int) s r o=jh7 m ((k+1:Nat):Int) r (if s=true then (o.take (zp3 v o)++ [v])++o.drop (zp3 v o) else o):=fun s=>by
  rw [vx5,ze5];by_cases hs:s=true
  ·have e:(((o.length:Nat):Int).toNat-(((zp3 v o:Nat):Int)).toNat)=o.length-zp3 v o:=by omega
   have e2:List.take (o.length-zp3 v o) (List.drop (zp3 v o) o)=o.drop (zp3 v o):=Q4 (by rw [Q7];omega);rw [if_pos hs,if_pos hs,e,Z1,J4,e2,M2];rw [if_pos (by omega),if_pos (by omega),if_pos (by rw [Q7];omega),if_pos (by omega),if_pos (by omega),if_pos (by rw [Y6];omega),if_pos (by simp;omega),ql2,nx hk (by omega)]
  ·rw [if_neg hs,if_neg hs,ql2,nx hk (by omega)]
 have fin:qu0 (m+1+1+1) (k:Int) v ((zp3 v o:Nat):Int) false r o=jh7 m ((k+1:Nat):Int) r (yj5 v o):=by
  rw [j3,if_neg (by simp),jx4];by_cases he:zp3 v o=o.length
  ·rw [ka9 (by omega),z6,j4,if_pos rfl,if_pos (.inl he)]
  ·rw [kb0 (by omega),z2,if_pos (by omega),j4,Z1];by_cases hv:o.getD (zp3 v o) 0=v
   ·rw [show (o.getD (zp3 v o) (0:Int) != v)=false from by rw [hv];exact bne_self_eq_false _,if_neg (by simp),if_neg (fun h=>h.elim he fun h=>h hv)]
   ·rw [show (o.getD (zp3 v o) (0:Int) != v)=true from bne_iff_ne.2 hv,if_pos rfl,if_pos (.inr hv)]
 rw [ql4];by_cases he:zp3 v o=o.length
 ·rw [W7 (by omega),z2,fin]
 ·have:=qg8 v o (by omega);rw [W6 (by omega),z6,if_pos (by omega),Z1,W7 this,fin]
def km0 (r:List Come) (hr:r.length<=1000):qb BIG r=some ((((),()),r,()),(yi4 r,())):=by
 rw [gf9];obtain ⟨n1,s1,h1,h2,h3⟩:=jf6 (fun n (s:List Int) k=>jh7 n (k:Int) r s) (fun k s=>s=yi4 (r.take k)) 3001 r.length (fun n s k hk hc hs=>by
  obtain ⟨n,rfl⟩: ∃m,n=m+1:=⟨n-1,by omega⟩;have hl:s.length<=1000:=by rw [hs];have:=vk1 (r.take k);rw [Y6] at this;omega
  obtain ⟨n',g1,g2⟩:=gf4 r s k (r.getD k zi4).version hk hr hl n (by omega);refine ⟨n',yj5 (r.getD k zi4).version s,by omega,?_,(ql3 n (k:Int) r s).trans ?_⟩
  ·rw [hs,qt6 hk]
  ·rw [W6 (by omega),z6,if_pos (by omega),Z1,g2]) r.length 0 BIG [] (by omega) (by unfold BIG;omega) rfl
 refine (h3:jh7 BIG 0 r []=_).trans ?_;obtain ⟨n,rfl⟩: ∃m,n1=m+1:=⟨n1-1,by unfold BIG at h1;omega⟩;rw [ql3,W7 (by omega),z2,h2,Q4 (W8 _)]
def jk4 (v x:Int): ∀o:List Int,x∈yj5 v o↔x=v\/x∈o
 | []=>by simp [yj5]
 |y::r=>by
  have ih:=jk4 v x r;unfold yj5;split
  ·simp only [Z0,ih];constructor
   ·rintro (h|h|h)
    ·exact .inr (.inl h)
    ·exact .inl h
    ·exact .inr (.inr h)
   ·rintro (h|h|h)
    ·exact .inr (.inl h)
    ·exact .inl h
    ·exact .inr (.inr h)
  ·split
   ·rename_i he;subst he;simp
   ·simp
def jb0 (v:Int): ∀ {o:List Int},o.Pairwise (· < ·)->(yj5 v o).Pairwise (· < ·)
 | [],_=>by simp [yj5]
 |y::r,h=>by
  have h1:=T4.1 h;unfold yj5;split
  ·rename_i hy;refine T4.2 ⟨fun x hx=>?_,jb0 v h1.2⟩;rcases (jk4 v x r).1 hx with rfl|hx
   ·exact hy
   ·exact h1.1 x hx
  ·rename_i hy;split
   ·exact h
   ·rename_i hne;refine T4.2 ⟨fun x hx=>?_,h⟩;rcases Z0.1 hx with rfl|hx
    ·omega
    ·have:=h1.1 x hx;omega
def ys1: ∀(r:List Come) {o:List Int},o.Pairwise (· < ·)->(r.foldl (fun o c=>yj5 c.version o) o).Pairwise (· < ·)
 | [],_,h=>h
 |c::r,o,h=>ys1 r (jb0 c.version h)
def jr6 (x:Int): ∀(r:List Come) (o:List Int),x∈r.foldl (fun o c=>yj5 c.version o) o↔x∈o\/ ∃c∈r,c.version=x
 | [],o=>by simp
 |c::r,o=>by
  show x∈r.foldl _ (yj5 c.version o)↔_;rw [jr6 x r,jk4];constructor
  ·rintro ((h|h)|⟨c',h1,h2⟩)
   ·exact .inr ⟨c,by simp,h.symm⟩
   ·exact .inl h
   ·exact .inr ⟨c',by simp [h1],h2⟩
  ·rintro (h|⟨c',h1,h2⟩)
   ·exact .inl (.inr h)
   ·rcases Z0.1 h1 with rfl|h1
    ·exact .inl (.inl h2.symm)
    ·exact .inr ⟨c',h1,h2⟩
def vk2 (x:Int) (r:List Come):x∈yi4 r↔ ∃c∈r,c.version=x:=by unfold yi4;rw [jr6];simp
def ys3 (r:List Come):(yi4 r).Pairwise (· < ·):=ys1 r .nil
end Go.Y
