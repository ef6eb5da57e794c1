import Derived.Test.YtliopfopmhhdeaaGreatPc
import Derived.Test.YtliopfopmhhdeaaGreatId
set_option linter.defProp false
namespace Go.Y
open Go.RowKit Go.V Go.X
def vk5 {α σ:Type} (f:Nat->σ->Nat->Option α) (P:Nat->σ->Prop) (c len:Nat)
  (step: ∀n s k,k<len->c<=n->P k s-> ∃n' s',n<=n'+c/\P (k+1) s'/\f n s k=f n' s' (k+1)):
  ∀(m k n:Nat) (s:σ),k+m=len->c*m<=n->P k s-> ∃n' s',n<=n'+c*m/\P len s'/\f n s k=f n' s' len
 |0,k,n,s,hk,hn,h=>⟨n,s,by omega,by rw [<-hk];exact h,by rw [show k=len by omega]⟩
 |m+1,k,n,s,hk,hn,h=>by
  rw [Nat.mul_succ] at hn;obtain ⟨n1,s1,a1,a2,a3⟩:=step n s k (by omega) (by omega) h;obtain ⟨n2,s2,b1,b2,b3⟩:=vk5 f P c len step m (k+1) n1 s1 (by omega) (by omega) a2;exact ⟨n2,s2,by rw [Nat.mul_succ];omega,b2,by rw [a3,b3]⟩
def zb1:List Come->Int->Int
 | [],_=>0
 |c::r,v=>if c.version=v then c.whole else zb1 r v
def q9:List Come->Int->Int->Option (List Int)
 | [],_,_=>none
 |c::r,v,i=>if c.version=v/\c.at_=i then some c.piece else q9 r v i
def zp0 (r:List Come) (v:Int):List Come:=r.filter fun c=>c.version != v
def jc8 {α:Type} {r:List α} {d:α} {k:Nat} (h:k<r.length):r.drop k=r.getD k d::r.drop (k+1):=by
 rw [Y2,Y0 h];exact M5 h
def jx9 {α:Type} {r:List α} {d:α} {k:Nat} (h:k<r.length):r.take (k+1)=r.take k++ [r.getD k d]:=by
 rw [Y2,Y0 h,List.take_add_one,Y0 h];rfl
def vw1 {x y:Int} (h:x=y):(x==y)=true:=by rw [h];exact beq_self_eq_true y
def vw2 {x y:Int} (h:x≠y):(x==y)=false:=by simpa using h
def vc1 (r:List Come) (v:Int) (hr:r.length<=1000):qm BIG r v=some ((((),()),r,()),(zb1 r v,())):=by
 rw [kz9];have:=vk8 (fun n k=>jn6 n v (k:Int) r) 1 r.length (fun k=>some ((((),()),r,()),(zb1 (r.drop k) v,()))) (fun n k hk=>?_) (fun n=>?_) r.length 0 BIG (by omega) (by unfold BIG;omega)
 ·exact this
 ·show jn6 (n+1) v (k:Int) r=some ((((),()),r,()),(zb1 (r.drop k) v,()))\/_=jn6 n v ((k+1:Nat):Int) r/\_;rw [qj0,W6 (by omega),z2,if_pos (by omega),Z1,nx hk (by omega),jc8 (d:=zh3) hk];have e:zb1 (r.getD k zh3::r.drop (k+1)) v=if (r.getD k zh3).version=v then (r.getD k zh3).whole else zb1 (r.drop (k+1)) v:=rfl
  rw [e];by_cases h:(r.getD k zh3).version=v
  ·left;rw [vw1 h,z2,if_pos (by omega),if_pos h]
  ·right;rw [vw2 h,z1,if_neg h];exact ⟨rfl,rfl⟩
 ·show jn6 (n+1) v ((r.length:Nat):Int) r=_;rw [qj0,W7 (by omega),z1,List.drop_length];rfl
def yv0 (r:List Come) (v i:Int) (hr:r.length<=1000):qh BIG r v i=some ((((),()),r,()),((q9 r v i).getD [],(q9 r v i).isSome,())):=by
 rw [kz4];have:=vk8 (fun n k=>jg1 n v i (k:Int) r) 2 r.length (fun k=>some ((((),()),r,()),((q9 (r.drop k) v i).getD [],(q9 (r.drop k) v i).isSome,()))) (fun n k hk=>?_) (fun n=>?_) r.length 0 BIG (by omega) (by unfold BIG;omega)
 ·exact this
 ·show jg1 (n+1+1) v i (k:Int) r=some ((((),()),r,()),((q9 (r.drop k) v i).getD [],(q9 (r.drop k) v i).isSome,()))\/_=jg1 n v i ((k+1:Nat):Int) r/\_;have j: ∀b,vl8 (n+1) v i (k:Int) b r=if b=true then some ((((),()),r,()),((r.getD k zh3).piece,true,())) else jg1 n v i ((k+1:Nat):Int) r:=fun b=>by
   rw [vt7,if_pos (by omega),Z1,nx hk (by omega),zd2]
  rw [qi8,W6 (by omega),z2,if_pos (by omega),if_pos (by omega),Z1,j,j,jc8 (d:=zh3) hk];have e:q9 (r.getD k zh3::r.drop (k+1)) v i=if (r.getD k zh3).version=v/\(r.getD k zh3).at_=i then some (r.getD k zh3).piece else q9 (r.drop (k+1)) v i:=rfl
  rw [e];by_cases h:(r.getD k zh3).version=v
  ·rw [vw1 h,z2];by_cases h2:(r.getD k zh3).at_=i
   ·left;rw [vw1 h2,if_pos rfl,if_pos ⟨h,h2⟩];rfl
   ·right;rw [vw2 h2,if_neg (by simp),if_neg (fun h=>h2 h.2)];exact ⟨rfl,rfl⟩
  ·right;rw [vw2 h,z1,if_neg (by simp),if_neg (fun h'=>h h'.1)];exact ⟨rfl,rfl⟩
 ·show jg1 (n+1) v i ((r.length:Nat):Int) r=_;rw [qi8,W7 (by omega),z1,List.drop_length];rfl
def yw2 (r:List Come) (v:Int):(zp0 r v).length<=r.length:=List.length_filter_le _ _
def qs6 (r:List Come) (v:Int) (hr:r.length<=1000):qg BIG r v=some (((zp0 r v,()),r,()),()):=by
 rw [kz3];have:=je1 (fun n k=>jn3 n v (k:Int) r (zp0 (r.take k) v)) 2 r.length (some (((zp0 r v,()),r,()),())) (fun n k hk=>?_) (fun n=>?_) BIG (by unfold BIG;omega)
 ·exact this
 ·show jn3 (n+1+1) v (k:Int) r (zp0 (r.take k) v)=jn3 n v ((k+1:Nat):Int) r (zp0 (r.take (k+1)) v);have hl:=yw2 (r.take k) v;have hl2:(r.take k).length<=1000:=by rw [Y6];omega
  have e:zp0 (r.take (k+1)) v=zp0 (r.take k) v++zp0 [r.getD k zh3] v:=by
   rw [jx9 (d:=zh3) hk];exact List.filter_append ..
  have e2:zp0 [r.getD k zh3] v=if ((r.getD k zh3).version != v)=true then [r.getD k zh3] else []:=by unfold zp0;rw [List.filter_cons];rfl
  rw [qi7,W6 (by omega),z2,if_pos (by omega),if_pos (by omega),Z1,if_pos (by omega),qi6,qi6,nx hk (by omega),zd2,e,e2];split
  ·rfl
  ·rw [J4]
 ·show jn3 (n+1) v ((r.length:Nat):Int) r _=_;rw [qi7,W7 (by omega),z1,Q4 (W8 _)]
def vb3 {a b:List Int} (h:a.length<=100000000):qj BIG a b=some (decide (a=b)):=by
 rw [kz6];by_cases hl:a.length=b.length
 ·rw [show (((a.length:Nat):Int) != ((b.length:Nat):Int))=false by simp [hl],z1];have:=vk8 (fun n k=>jn5 n a b (k:Int)) 1 a.length (fun k=>some (decide (a.drop k=b.drop k))) (fun n k hk=>?_) (fun n=>?_) a.length 0 BIG (by omega) (by unfold BIG;omega)
  ·exact this
  ·show jn5 (n+1) a b (k:Int)=some (decide (a.drop k=b.drop k))\/_=jn5 n a b ((k+1:Nat):Int)/\some (decide (a.drop k=b.drop k))=some (decide (a.drop (k+1)=b.drop (k+1)));rw [qi9,W6 (by omega),z2,if_pos (by omega),if_pos (by omega),Z1,nx hk (by omega),jc8 (d:=(0:Int)) hk,jc8 (r:=b) (d:=(0:Int)) (by omega)];by_cases he:a.getD k (0:Int)=b.getD k (0:Int)
   ·right;rw [show (a.getD k (0:Int) != b.getD k (0:Int))=false from by rw [he];exact bne_self_eq_false _,z1];refine ⟨rfl,?_⟩;rw [he];by_cases h2:a.drop (k+1)=b.drop (k+1)
    ·rw [W6 h2,W6 (by rw [h2])]
    ·rw [W7 h2,W7 (fun h=>h2 (List.cons.inj h).2)]
   ·left;rw [show (a.getD k (0:Int) != b.getD k (0:Int))=true from bne_iff_ne.2 he,z2,W7 (fun h=>he (List.cons.inj h).1)]
  ·show jn5 (n+1) a b ((a.length:Nat):Int)=_;rw [qi9,W7 (by omega),z1,List.drop_length,M4 (by omega)];rfl
 ·rw [show (((a.length:Nat):Int) != ((b.length:Nat):Int))=true by simp;omega,z2,W7 (fun h=>hl (by rw [h]))]
end Go.Y
