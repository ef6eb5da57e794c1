import Derived.Test.YtliopfopmhhdeaaGreatRp
set_option linter.defProp false
namespace Go.Y
open Go.RowKit Go.V Go.X
def yi1 (v:Int):List Int->List Int
 | []=> [v]
 |x::r=>if x<v then x::yi1 v r else if x=v then x::r else v::x::r
def zn9 (v:Int):List Int->Nat
 | []=>0
 |x::r=>if x<v then zn9 v r+1 else 0
def yg7 (r:List Come):List Int:=r.foldl (fun o c=>yi1 c.version o) []
def jt9 (v:Int): ∀o:List Int,zn9 v o<=o.length
 | []=>W8 0
 |x::r=>by unfold zn9;have:=jt9 v r;split<;>simp<;>omega
def qu7 (v:Int): ∀(o:List Int) (k:Nat),k<zn9 v o->o.getD k 0<v
 | [],k,h=>by simp [zn9] at h
 |x::r,k,h=>by
  unfold zn9 at h;split at h
  ·rename_i hx;cases k with
   |zero=>exact hx
   |succ k=>exact qu7 v r k (by omega)
  ·omega
def qd9 (v:Int): ∀(o:List Int),zn9 v o<o.length-> ¬o.getD (zn9 v o) 0<v
 | [],h=>by simp at h
 |x::r,h=>by
  unfold zn9 at h⊢;split
  ·rename_i hx;rw [if_pos hx] at h;exact qd9 v r (by simpa using h)
  ·rename_i hx;exact hx
def ju9 (v:Int): ∀(o:List Int),yi1 v o=if zn9 v o=o.length\/o.getD (zn9 v o) 0≠v then (o.take (zn9 v o)++ [v])++o.drop (zn9 v o) else o
 | []=>rfl
 |x::r=>by
  have ih:=ju9 v r;unfold yi1 zn9;by_cases hx:x<v
  ·rw [if_pos hx,if_pos hx,ih];have e:(zn9 v r+1=(x::r).length\/(x::r).getD (zn9 v r+1) 0≠v)↔(zn9 v r=r.length\/r.getD (zn9 v r) 0≠v):=by simp
   by_cases h:zn9 v r=r.length\/r.getD (zn9 v r) 0≠v
   ·rw [if_pos h,if_pos (e.2 h)];rfl
   ·rw [if_neg h,if_neg (fun h'=>h (e.1 h'))]
  ·rw [if_neg hx,if_neg hx];by_cases he:x=v
   ·rw [if_pos he,if_neg (fun h=>h.elim (fun h=>by simp at h) fun h=>h he)]
   ·rw [if_neg he,if_pos (.inr (by exact he))];rfl
def vp8 (v:Int) (o:List Int):(yi1 v o).length<=o.length+1:=by
 rw [ju9];split
 ·have:=jt9 v o;simp;omega
 ·omega
def jo9: ∀(r:List Come) (o:List Int),(r.foldl (fun o c=>yi1 c.version o) o).length<=o.length+r.length
 | [],o=>by simp
 |c::r,o=>by
  have h1:=jo9 r (yi1 c.version o);have h2:=vp8 c.version o;show (r.foldl _ (yi1 c.version o)).length<=_;simp only [U5];omega
def vg4 (r:List Come):(yg7 r).length<=r.length:=by have:=jo9 r [];simpa [yg7] using this
def qp5 {r:List Come} {k:Nat} (h:k<r.length):yg7 (r.take (k+1))=yi1 (r.getD k zh3).version (yg7 (r.take k)):=by
 unfold yg7;rw [jx9 (d:=zh3) h,List.foldl_append];rfl
def ky1 (r:List Come) (o:List Int) (k:Nat) (v:Int) (hk:k<r.length) (hr:r.length<=1000) (ho:o.length<=1000) (n:Nat) (hn:3000<=n):
  ∃n',n<=n'+3000/\yt0 n (k:Int) v 0 r o=jf9 n' ((k+1:Nat):Int) r (yi1 v o):=by
 have hp:=jt9 v o;have j3: ∀n j b,qq0 (n+1) (k:Int) v j b r o=if b=true then yt0 n (k:Int) v (IntKind.i64.wrap (j+1)) r o else z7 (j==((o.length:Nat):Int)) (qa0 n (k:Int) v j true r o) (if 0<=j/\j<((o.length:Nat):Int) then (qa0 n (k:Int) v j ((o.getD j.toNat (0:Int)) != v) r o) else none):=fun n j b=>by
  rw [vt1,zd2]
 obtain ⟨n1,_,h1,_,h2⟩:=vk5 (fun n (_:Unit) j=>yt0 n (k:Int) v (j:Int) r o) (fun _ _=>True) 2 (zn9 v o) (fun n _ j hj hc _=>by
  obtain ⟨n,rfl⟩: ∃m,n=m+1+1:=⟨n-2,by omega⟩;refine ⟨n,(),by omega,trivial,?_⟩;show yt0 (n+1+1) (k:Int) v (j:Int) r o=yt0 n (k:Int) v ((j+1:Nat):Int) r o;have hlt:=qu7 v o j hj;rw [qi0,W6 (by omega),z2,if_pos (by omega),Z1,j3,W6 hlt,if_pos rfl,nx (len:=1000) (by omega) (by omega)]) (zn9 v o) 0 n () (by omega) (by omega) trivial
 have h2:yt0 n (k:Int) v 0 r o=yt0 n1 (k:Int) v ((zn9 v o:Nat):Int) r o:=h2;obtain ⟨m,rfl⟩: ∃m,n1=m+1+1+1+1:=⟨n1-4,by omega⟩;refine ⟨m,by omega,?_⟩;rw [h2];have j4: ∀s,qa0 (m+1+1) (k:Int) v ((zn9 v o:Nat):Int) s r o=jf9 m ((k+1:Nat):Int) r (if s=true then (o.take (zn9 v o)++ [v])++o.drop (zn9 v o) else o):=fun s=>by
  rw [vt2,zd2];by_cases hs:s=true
  ·have e:(((o.length:Nat):Int).toNat-(((zn9 v o:Nat):Int)).toNat)=o.length-zn9 v o:=by omega
   have e2:List.take (o.length-zn9 v o) (List.drop (zn9 v o) o)=o.drop (zn9 v o):=Q4 (by rw [Q7];omega);rw [if_pos hs,if_pos hs,e,Z1,J5,e2,M9];rw [if_pos (by omega),if_pos (by omega),if_pos (by rw [Q7];omega),if_pos (by omega),if_pos (by omega),if_pos (by rw [Y6];omega),if_pos (by simp;omega),qh8,nx hk (by omega)]
  ·rw [if_neg hs,if_neg hs,qh8,nx hk (by omega)]
 have fin:qq0 (m+1+1+1) (k:Int) v ((zn9 v o:Nat):Int) false r o=jf9 m ((k+1:Nat):Int) r (yi1 v o):=by
  rw [j3,if_neg (by simp),ju9];by_cases he:zn9 v o=o.length
  ·rw [vw1 (by omega),z2,j4,if_pos rfl,if_pos (.inl he)]
  ·rw [vw2 (by omega),z1,if_pos (by omega),j4,Z1];by_cases hv:o.getD (zn9 v o) 0=v
   ·rw [show (o.getD (zn9 v o) (0:Int) != v)=false from by rw [hv];exact bne_self_eq_false _,if_neg (by simp),if_neg (fun h=>h.elim he fun h=>h hv)]
   ·rw [show (o.getD (zn9 v o) (0:Int) != v)=true from bne_iff_ne.2 hv,if_pos rfl,if_pos (.inr hv)]
 rw [qi0];by_cases he:zn9 v o=o.length
 ·rw [W7 (by omega),z1,fin]
 ·have:=qd9 v o (by omega);rw [W6 (by omega),z2,if_pos (by omega),Z1,W7 this,fin]
def kg3 (r:List Come) (hr:r.length<=1000):qb BIG r=some ((((),()),r,()),(yg7 r,())):=by
 rw [ky6];obtain ⟨n1,s1,h1,h2,h3⟩:=vk5 (fun n (s:List Int) k=>jf9 n (k:Int) r s) (fun k s=>s=yg7 (r.take k)) 3001 r.length (fun n s k hk hc hs=>by
  obtain ⟨n,rfl⟩: ∃m,n=m+1:=⟨n-1,by omega⟩;have hl:s.length<=1000:=by rw [hs];have:=vg4 (r.take k);rw [Y6] at this;omega
  obtain ⟨n',g1,g2⟩:=ky1 r s k (r.getD k zh3).version hk hr hl n (by omega);refine ⟨n',yi1 (r.getD k zh3).version s,by omega,?_,(qh9 n (k:Int) r s).trans ?_⟩
  ·rw [hs,qp5 hk]
  ·rw [W6 (by omega),z2,if_pos (by omega),Z1,g2]) r.length 0 BIG [] (by omega) (by unfold BIG;omega) rfl
 refine (h3:jf9 BIG 0 r []=_).trans ?_;obtain ⟨n,rfl⟩: ∃m,n1=m+1:=⟨n1-1,by unfold BIG at h1;omega⟩;rw [qh9,W7 (by omega),z1,h2,Q4 (W8 _)]
def ji4 (v x:Int): ∀o:List Int,x∈yi1 v o↔x=v\/x∈o
 | []=>by simp [yi1]
 |y::r=>by
  have ih:=ji4 v x r;unfold yi1;split
  ·simp only [Z0,ih];constructor
   ·rintro (h|h|h)
    ·exact .inr (.inl h)
    ·exact .inl h
    ·exact .inr (.inr h)
   ·rintro (h|h|h)
    ·exact .inr (.inl h)
    ·exact .inl h
    ·exact .inr (.inr h)
  ·split
   ·rename_i he;subst he;simp
   ·simp
def yy7 (v:Int): ∀ {o:List Int},o.Pairwise (· < ·)->(yi1 v o).Pairwise (· < ·)
 | [],_=>by simp [yi1]
 |y::r,h=>by
  have h1:=T0.1 h;unfold yi1;split
  ·rename_i hy;refine T0.2 ⟨fun x hx=>?_,yy7 v h1.2⟩;rcases (ji4 v x r).1 hx with rfl|hx
   ·exact hy
   ·exact h1.1 x hx
  ·rename_i hy;split
   ·exact h
   ·rename_i hne;refine T0.2 ⟨fun x hx=>?_,h⟩;rcases Z0.1 hx with rfl|hx
    ·omega
    ·have:=h1.1 x hx;omega
def yp9: ∀(r:List Come) {o:List Int},o.Pairwise (· < ·)->(r.foldl (fun o c=>yi1 c.version o) o).Pairwise (· < ·)
 | [],_,h=>h
 |c::r,o,h=>yp9 r (yy7 c.version h)
def jp0 (x:Int): ∀(r:List Come) (o:List Int),x∈r.foldl (fun o c=>yi1 c.version o) o↔x∈o\/ ∃c∈r,c.version=x
 | [],o=>by simp
 |c::r,o=>by
  show x∈r.foldl _ (yi1 c.version o)↔_;rw [jp0 x r,ji4];constructor
  ·rintro ((h|h)|⟨c',h1,h2⟩)
   ·exact .inr ⟨c,by simp,h.symm⟩
   ·exact .inl h
   ·exact .inr ⟨c',by simp [h1],h2⟩
  ·rintro (h|⟨c',h1,h2⟩)
   ·exact .inl (.inr h)
   ·rcases Z0.1 h1 with rfl|h1
    ·exact .inl (.inl h2.symm)
    ·exact .inr ⟨c',h1,h2⟩
def vg5 (x:Int) (r:List Come):x∈yg7 r↔ ∃c∈r,c.version=x:=by unfold yg7;rw [jp0];simp
def yq0 (r:List Come):(yg7 r).Pairwise (· < ·):=yp9 r .nil
end Go.Y
