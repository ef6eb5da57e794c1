import Derived.Test.YtliopfopmhhdeaaGreatPe
import Derived.Test.YtliopfopmhhdeaaGreatIe
set_option linter.defProp false
namespace Go.Y
open Go.RowKit Go.V Go.X
def kp9 (n:Nat):zd1 (List.replicate n (0:Int))=true:=by
 unfold zd1;rw [Y8];intro x hx;rw [T8 hx];rfl
def qy2 {a b:Do} (ha:zd1 a.Piece=true) (hb:zd1 b.Piece=true): ∀d∈ [a,b],zd1 d.Piece=true:=fun d hd=>by
 rcases Z0.1 hd with rfl|hd
 ·exact ha
 ·rw [Q5.1 hd];exact hb
def gm0 {r0:List Int} (hr:r0.length=13) {i:Nat} (hi:i<13) (n:Nat) (hn:20<=n): ∃n',n<=n'+20/\qd0 n (i:Int) 0 r0 []=qc9 n' ((i+1:Nat):Int) r0:=by
 obtain ⟨n1,s,h1,⟨h2,h3⟩,h4⟩:=jf6 (fun n (s:List Do) k=>qd0 n (i:Int) (k:Int) r0 s) (fun k s=>s.length=4*k/\ ∀d∈s,zd1 d.Piece=true) 1 13 (fun n s k hk hc hs=>by
  obtain ⟨n,rfl⟩: ∃m,n=m+1:=⟨n-1,by omega⟩;have e:=ql6 n (i:Int) (k:Int) r0 s;rw [W6 (by omega),z6,if_pos (by omega),if_pos (by omega),if_pos (by omega),if_pos (by omega),if_pos (by omega),if_pos (by omega),if_pos (by omega),if_pos (by omega),if_pos (by have:=hs.1;omega),nx (len:=13) hk (by omega)] at e;refine ⟨n,_,W8 _,?_,e⟩
  ·refine ⟨by rw [X9,hs.1];rfl,fun d hd=>?_⟩;rcases X4.1 hd with hd|hd
   ·exact hs.2 d hd
   ·rcases Z0.1 hd with rfl|hd
    ·rfl
    ·rcases Z0.1 hd with rfl|hd
     ·rfl
     ·exact qy2 (by rfl) (by rfl) d hd) 13 0 n [] (by omega) (by omega) ⟨rfl,fun d hd=>(N5 hd).elim⟩
 obtain ⟨m,rfl⟩: ∃m,n1=m+1:=⟨n1-1,by omega⟩;refine ⟨m,by omega,(h4:qd0 n (i:Int) 0 r0 []=_).trans ?_⟩;rw [ql6,W7 (by omega),z2,zs8 s h3,z7,U5,z2,nx (len:=13) hi (by omega)]
def gm2 {j:Nat} (hj:j<2) (n:Nat) (hn:20<=n): ∃n',n<=n'+20/\jp4 n (j:Int) 1022=jh8 n' ((j+1:Nat):Int):=by
 obtain ⟨n1,_,h1,_,h4⟩:=jf6 (fun n (_:Unit) k=>jp4 n (j:Int) ((1022+k:Nat):Int)) (fun _ _=>True) 2 5 (fun n _ k hk hc _=>by
  obtain ⟨n,rfl⟩: ∃m,n=m+1+1:=⟨n-2,by omega⟩;refine ⟨n,(),by omega,trivial,(ql8 (n+1) (j:Int) ((1022+k:Nat):Int)).trans ?_⟩;obtain ⟨z,hz,hz2⟩: ∃z:Nat,IntKind.i64.wrap (((1022+k:Nat):Int)*(IntKind.i64.wrap ((2:Int)-(j:Int))))=(z:Int)/\z<=10000:=by
   rcases (by omega:j=0\/j=1) with rfl|rfl
   ·exact ⟨(1022+k)*2,by rw [zp9 (x:=(2:Int)-((0:Nat):Int)) (by omega),zp9 (by omega)];omega,by omega⟩
   ·exact ⟨1022+k,by rw [zp9 (x:=(2:Int)-((1:Nat):Int)) (by omega),zp9 (by omega)];omega,by omega⟩
  rw [hz,W6 (by omega),z6,if_pos (by omega),zs8 _ (qy2 (kp9 _) (by rfl)),z7,U5,z2,if_pos (by omega),zv8,z7,U5,vx6,z2,zp9 (by omega)];rfl) 5 0 n () (by omega) (by omega) trivial
 obtain ⟨m,rfl⟩: ∃m,n1=m+1:=⟨n1-1,by omega⟩;refine ⟨m,by omega,(h4:jp4 n (j:Int) 1022=_).trans ?_⟩;show jp4 (m+1) (j:Int) ((1022+5:Nat):Int)=_;rw [ql8,W7 (by omega),z2,nx (len:=2) hj (by omega)]
def gm1 (n:Nat) (hn:50<=n):jh8 n 0=some true:=by
 obtain ⟨n1,_,h1,_,h4⟩:=jf6 (fun n (_:Unit) j=>jh8 n (j:Int)) (fun _ _=>True) 21 2 (fun n _ j hj hc _=>by
  obtain ⟨n,rfl⟩: ∃m,n=m+1:=⟨n-1,by omega⟩;obtain ⟨n',g1,g2⟩:=gm2 hj n (by omega);refine ⟨n',(),by omega,trivial,(ql7 n (j:Int)).trans ?_⟩;rw [W6 (by omega),z6,g2]) 2 0 n () (by omega) (by omega) trivial
 obtain ⟨m,rfl⟩: ∃m,n1=m+1:=⟨n1-1,by omega⟩;refine (h4:jh8 n 0=_).trans ?_;show jh8 (m+1) ((2:Nat):Int)=_;rw [ql7,W7 (by omega),z2,zv8,z7,z6,if_pos (by omega),zv8,z7,z6,zs8 _ (qy2 (by rfl) (by rfl)),z7,z6,yf4,z7]
def chunkNumbers_true:qd BIG=some true:=by
 rw [gg1];generalize hr:([(-9223372036854775808:Int),(-1:Int),(0:Int),(1:Int),(2:Int),(3:Int),(39:Int),(40:Int),(41:Int),(1073741823:Int),(1073741824:Int),(1073741825:Int),(9223372036854775807:Int)]:List Int)=r0;have hl:r0.length=13:=by rw [<-hr];rfl
 clear hr;obtain ⟨n1,_,h1,_,h4⟩:=jf6 (fun n (_:Unit) i=>qc9 n (i:Int) r0) (fun _ _=>True) 21 13 (fun n _ i hi hc _=>by
  obtain ⟨n,rfl⟩: ∃m,n=m+1:=⟨n-1,by omega⟩;obtain ⟨n',g1,g2⟩:=gm0 hl hi n (by omega);refine ⟨n',(),by omega,trivial,(ql5 n (i:Int) r0).trans ?_⟩;rw [W6 (by omega),z6,g2]) 13 0 BIG () (by omega) (by unfold BIG;omega) trivial
 obtain ⟨m,rfl⟩: ∃m,n1=m+1:=⟨n1-1,by unfold BIG at h1;omega⟩;refine (h4:qc9 BIG 0 r0=_).trans ?_;rw [ql5,W7 (by omega),z2];exact gm1 m (by unfold BIG at h1;omega)
end Go.Y
