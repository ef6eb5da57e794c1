import Derived.Test.YtliopfopmhhdeaaGreatPc
import Derived.Test.YtliopfopmhhdeaaGreatId
set_option linter.defProp false
namespace Go.Y
open Go.RowKit Go.V Go.X
def jf6 {α σ:Type} (f:Nat->σ->Nat->Option α) (P:Nat->σ->Prop) (c len:Nat)
  (step: ∀n s k,k<len->c<=n->P k s-> ∃n' s',n<=n'+c/\P (k+1) s'/\f n s k=f n' s' (k+1)):
  ∀(m k n:Nat) (s:σ),k+m=len->c*m<=n->P k s-> ∃n' s',n<=n'+c*m/\P len s'/\f n s k=f n' s' len
 |0,k,n,s,hk,hn,h=>⟨n,s,by omega,by rw [<-hk];exact h,by rw [show k=len by omega]⟩
 |m+1,k,n,s,hk,hn,h=>by
  rw [Nat.mul_succ] at hn;obtain ⟨n1,s1,a1,a2,a3⟩:=step n s k (by omega) (by omega) h;obtain ⟨n2,s2,b1,b2,b3⟩:=jf6 f P c len step m (k+1) n1 s1 (by omega) (by omega) a2;exact ⟨n2,s2,by rw [Nat.mul_succ];omega,b2,by rw [a3,b3]⟩
def zb6:List Come->Int->Int
 | [],_=>0
 |c::r,v=>if c.version=v then c.whole else zb6 r v
def v7:List Come->Int->Int->Option (List Int)
 | [],_,_=>none
 |c::r,v,i=>if c.version=v/\c.at_=i then some c.piece else v7 r v i
def zq3 (r:List Come) (v:Int):List Come:=r.filter fun c=>c.version != v
def je8 {α:Type} {r:List α} {d:α} {k:Nat} (h:k<r.length):r.drop k=r.getD k d::r.drop (k+1):=by
 rw [Y2,Y0 h];exact M6 h
def qa7 {α:Type} {r:List α} {d:α} {k:Nat} (h:k<r.length):r.take (k+1)=r.take k++ [r.getD k d]:=by
 rw [Y2,Y0 h,List.take_add_one,Y0 h];rfl
def ka9 {x y:Int} (h:x=y):(x==y)=true:=by rw [h];exact beq_self_eq_true y
def kb0 {x y:Int} (h:x≠y):(x==y)=false:=by simpa using h
def vg0 (r:List Come) (v:Int) (hr:r.length<=1000):qq BIG r v=some ((((),()),r,()),(zb6 r v,())):=by
 rw [gh5];have:=vo3 (fun n k=>jq0 n v (k:Int) r) 1 r.length (fun k=>some ((((),()),r,()),(zb6 (r.drop k) v,()))) (fun n k hk=>?_) (fun n=>?_) r.length 0 BIG (by omega) (by unfold BIG;omega)
 ·exact this
 ·show jq0 (n+1) v (k:Int) r=some ((((),()),r,()),(zb6 (r.drop k) v,()))\/_=jq0 n v ((k+1:Nat):Int) r/\_;rw [qm8,W6 (by omega),z6,if_pos (by omega),Z1,nx hk (by omega),je8 (d:=zi4) hk];have e:zb6 (r.getD k zi4::r.drop (k+1)) v=if (r.getD k zi4).version=v then (r.getD k zi4).whole else zb6 (r.drop (k+1)) v:=rfl
  rw [e];by_cases h:(r.getD k zi4).version=v
  ·left;rw [ka9 h,z6,if_pos (by omega),if_pos h]
  ·right;rw [kb0 h,z2,if_neg h];exact ⟨rfl,rfl⟩
 ·show jq0 (n+1) v ((r.length:Nat):Int) r=_;rw [qm8,W7 (by omega),z2,List.drop_length];rfl
def yx2 (r:List Come) (v i:Int) (hr:r.length<=1000):qj BIG r v i=some ((((),()),r,()),((v7 r v i).getD [],(v7 r v i).isSome,())):=by
 rw [gg8];have:=vo3 (fun n k=>ji0 n v i (k:Int) r) 2 r.length (fun k=>some ((((),()),r,()),((v7 (r.drop k) v i).getD [],(v7 (r.drop k) v i).isSome,()))) (fun n k hk=>?_) (fun n=>?_) r.length 0 BIG (by omega) (by unfold BIG;omega)
 ·exact this
 ·show ji0 (n+1+1) v i (k:Int) r=some ((((),()),r,()),((v7 (r.drop k) v i).getD [],(v7 (r.drop k) v i).isSome,()))\/_=ji0 n v i ((k+1:Nat):Int) r/\_;have j: ∀b,vp3 (n+1) v i (k:Int) b r=if b=true then some ((((),()),r,()),((r.getD k zi4).piece,true,())) else ji0 n v i ((k+1:Nat):Int) r:=fun b=>by
   rw [vy1,if_pos (by omega),Z1,nx hk (by omega),ze5]
  rw [qm6,W6 (by omega),z6,if_pos (by omega),if_pos (by omega),Z1,j,j,je8 (d:=zi4) hk];have e:v7 (r.getD k zi4::r.drop (k+1)) v i=if (r.getD k zi4).version=v/\(r.getD k zi4).at_=i then some (r.getD k zi4).piece else v7 (r.drop (k+1)) v i:=rfl
  rw [e];by_cases h:(r.getD k zi4).version=v
  ·rw [ka9 h,z6];by_cases h2:(r.getD k zi4).at_=i
   ·left;rw [ka9 h2,if_pos rfl,if_pos ⟨h,h2⟩];rfl
   ·right;rw [kb0 h2,if_neg (by simp),if_neg (fun h=>h2 h.2)];exact ⟨rfl,rfl⟩
  ·right;rw [kb0 h,z2,if_neg (by simp),if_neg (fun h'=>h h'.1)];exact ⟨rfl,rfl⟩
 ·show ji0 (n+1) v i ((r.length:Nat):Int) r=_;rw [qm6,W7 (by omega),z2,List.drop_length];rfl
def yy4 (r:List Come) (v:Int):(zq3 r v).length<=r.length:=List.length_filter_le _ _
def qw8 (r:List Come) (v:Int) (hr:r.length<=1000):qi BIG r v=some (((zq3 r v,()),r,()),()):=by
 rw [gg7];have:=yq4 (fun n k=>jp6 n v (k:Int) r (zq3 (r.take k) v)) 2 r.length (some (((zq3 r v,()),r,()),())) (fun n k hk=>?_) (fun n=>?_) BIG (by unfold BIG;omega)
 ·exact this
 ·show jp6 (n+1+1) v (k:Int) r (zq3 (r.take k) v)=jp6 n v ((k+1:Nat):Int) r (zq3 (r.take (k+1)) v);have hl:=yy4 (r.take k) v;have hl2:(r.take k).length<=1000:=by rw [Y6];omega
  have e:zq3 (r.take (k+1)) v=zq3 (r.take k) v++zq3 [r.getD k zi4] v:=by
   rw [qa7 (d:=zi4) hk];exact List.filter_append ..
  have e2:zq3 [r.getD k zi4] v=if ((r.getD k zi4).version != v)=true then [r.getD k zi4] else []:=by unfold zq3;rw [List.filter_cons];rfl
  rw [qm5,W6 (by omega),z6,if_pos (by omega),if_pos (by omega),Z1,if_pos (by omega),qm4,qm4,nx hk (by omega),ze5,e,e2];split
  ·rfl
  ·rw [J7]
 ·show jp6 (n+1) v ((r.length:Nat):Int) r _=_;rw [qm5,W7 (by omega),z2,Q4 (W8 _)]
def vf1 {a b:List Int} (h:a.length<=100000000):qh BIG a b=some (decide (a=b)):=by
 rw [kt4];by_cases hl:a.length=b.length
 ·rw [show (((a.length:Nat):Int) != ((b.length:Nat):Int))=false by simp [hl],z2];have:=vo3 (fun n k=>yr2 n a b (k:Int)) 1 a.length (fun k=>some (decide (a.drop k=b.drop k))) (fun n k hk=>?_) (fun n=>?_) a.length 0 BIG (by omega) (by unfold BIG;omega)
  ·exact this
  ·show yr2 (n+1) a b (k:Int)=some (decide (a.drop k=b.drop k))\/_=yr2 n a b ((k+1:Nat):Int)/\some (decide (a.drop k=b.drop k))=some (decide (a.drop (k+1)=b.drop (k+1)));rw [yv3,W6 (by omega),z6,if_pos (by omega),if_pos (by omega),Z1,nx hk (by omega),je8 (d:=(0:Int)) hk,je8 (r:=b) (d:=(0:Int)) (by omega)];by_cases he:a.getD k (0:Int)=b.getD k (0:Int)
   ·right;rw [show (a.getD k (0:Int) != b.getD k (0:Int))=false from by rw [he];exact bne_self_eq_false _,z2];refine ⟨rfl,?_⟩;rw [he];by_cases h2:a.drop (k+1)=b.drop (k+1)
    ·rw [W6 h2,W6 (by rw [h2])]
    ·rw [W7 h2,W7 (fun h=>h2 (List.cons.inj h).2)]
   ·left;rw [show (a.getD k (0:Int) != b.getD k (0:Int))=true from bne_iff_ne.2 he,z6,W7 (fun h=>he (List.cons.inj h).1)]
  ·show yr2 (n+1) a b ((a.length:Nat):Int)=_;rw [yv3,W7 (by omega),z2,List.drop_length,M3 (by omega)];rfl
 ·rw [show (((a.length:Nat):Int) != ((b.length:Nat):Int))=true by simp;omega,z6,W7 (fun h=>hl (by rw [h]))]
end Go.Y
