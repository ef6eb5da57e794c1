import Derived.Test.YtnhnejjdokeikaaGreatM1
import Derived.Test.YtnhnejjdokeikaaGreatIe
set_option linter.defProp false
namespace Go.Y.E
open Go.RowKit Go.V Go.X Go.Proofs Go.Y
def ByteL (b:List Int):Prop:= ∀x∈b,0<=x/\x<=255
def ByteL.getD {b} (h:ByteL b) (k):0<=b.getD k 0/\b.getD k 0<=255:=by
 rw [Y2];cases hk:b[k]? with
 |none=>exact ⟨by decide,by decide⟩
 |some x=>exact h x (X6 hk)
def beF (b:List Int):Nat->Nat->Int
 |_,0=>0
 |p,m+1=>b.getD p 0*256^m+beF b (p+1) m
def vd9 {b} (h:ByteL b): ∀(m p),0<=beF b p m/\beF b p m<256^m
 |0,p=>by simp [beF]
 |m+1,p=>by
  obtain ⟨e,f⟩:=vd9 h m (p+1);obtain ⟨c,d⟩:=h.getD p;have a:(0:Int)<256^m:=K6 (by decide);rw [beF,Int.pow_succ];have g:=Int.mul_nonneg c (M7 a);have i:=Int.mul_le_mul_of_nonneg_right d (M7 a);omega
def qc4 (k m x y) (i:m<=k.bits) (j:x%2^m=0) (a:0<=y/\y<2^m):bOr k x y=k.wrap (x%2^k.bits+y):=by
 unfold bOr;congr 1;rw [BitVec.toNat_or,BitVec.toNat_ofInt,BitVec.toNat_ofInt];have s:(2:Int)^m<=2^k.bits:=by exact_mod_cast Nat.pow_le_pow_right (by decide) i
 have n:(0:Int)<2^k.bits:=K6 (by decide);have o:y%((2^k.bits:Nat):Int)=y:=by push_cast;exact Int.emod_eq_of_lt a.1 (by omega)
 have b:(x%((2^k.bits:Nat):Int))%2^m=0:=by
  push_cast
  rw [Int.emod_emod_of_dvd _ ⟨2^(k.bits-m),by rw [<-Int.pow_add];congr 1;omega⟩];exact j
 have f:0<=x%((2^k.bits:Nat):Int):=Int.emod_nonneg _ (by push_cast;omega);rw [o]
 push_cast at b f⊢
 generalize x%2^k.bits=X at b f⊢;obtain ⟨q,g⟩:=Int.dvd_of_emod_eq_zero b;have e:0<=q:=by
  have:(0:Int)<2^m:=K6 (by decide);rcases Int.lt_or_le q 0 with h|h
  ·have:=Int.mul_neg_of_pos_of_neg this h;omega
  ·exact h
 obtain ⟨c,rfl⟩:=T2 e;obtain ⟨d,rfl⟩:=T2 a.1;have p:d<2^m:=by have:=a.2;exact_mod_cast this
 have r:X.toNat=2^m*c:=by rw [g];exact_mod_cast Z1 (2^m*c)
 rw [r,Z1,<-Nat.two_pow_add_eq_or_of_lt p c,g]
 push_cast;rfl
def qc7 (m):(256:Int)^m=2^(8*m):=by rw [Int.pow_mul];rfl
def we0 {A x m k} (g:k+(m+1)<=8) (i:0<=A/\A<256^k) (j:0<=x/\x<=255):bOr .u64 (A*256^(m+1)) (zm3 .u64 x ((8*m:Nat):Int))=(A*256+x)*256^m:=by
 have f:(0:Int)<256^m:=K6 (by decide);have t:(256:Int)^(k+(m+1))<=256^8:=by
  have h:=Nat.pow_le_pow_right (n:=256) (by decide) g;have o:((256^(k+(m+1)):Nat):Int)=(256:Int)^(k+(m+1)):=by rw [Int.natCast_pow];rfl
  have p:((256^8:Nat):Int)=(256:Int)^8:=by rw [Int.natCast_pow];rfl
  rw [<-o,<-p];exact Int.ofNat_le.2 h
 have q:A*256^(m+1)+256^(m+1)<=256^(k+(m+1)):=by
  have e:A*256^(m+1)+256^(m+1)=(A+1)*256^(m+1):=by rw [Int.add_mul,Int.one_mul]
  rw [e,Int.pow_add 256 k (m+1)];exact Int.mul_le_mul_of_nonneg_right (by omega) (M7 (K6 (show (0:Int)<256 by decide)))
 have c:0<=A*256^(m+1):=Int.mul_nonneg i.1 (M7 (K6 (show (0:Int)<256 by decide)));have a:0<=x*256^m:=Int.mul_nonneg j.1 (M7 f);have d:x*256^m<256^(m+1):=by
  rw [Int.pow_succ,Int.mul_comm (256^m) 256];exact Int.mul_lt_mul_of_pos_right (by omega) f
 have u:(256:Int)^8=18446744073709551616:=by decide
 have r:zm3 .u64 x ((8*m:Nat):Int)=x*256^m:=by
  unfold zm3;have b:min (((8*m:Nat):Int)).toNat (IntKind.u64.bits)=8*m:=by
   show min (((8*m:Nat):Int)).toNat 64=8*m;omega
  rw [b,<-qc7];exact ji7 ⟨a,by omega⟩
 rw [r,qc4 .u64 (8*(m+1)) _ _ (by show 8*(m+1)<=64;omega) (by rw [<-qc7];exact Int.mul_emod_left _ _) ⟨a,by rw [<-qc7];exact d⟩];have s:(2:Int)^IntKind.u64.bits=18446744073709551616:=by decide
 rw [s,Int.emod_eq_of_lt c (by omega),ji7 ⟨by omega,by omega⟩,Int.pow_succ]
 grind
def ki6 {b} (g:ByteL b) {at_ sz} (c:at_+sz<=b.length) (a:b.length<=1000000000) (d:sz<=8) (e f): ∀(m k A),k+m=sz->0<=A/\A<256^k->
  jm5 m k b e f (A*256^m) (sz:Int) (at_:Int)=some (((b,()),(e,()),(f,()),(A*256^m+beF b (at_+k) m,()),()),.inl ())
 |0,k,A,j,h=>by rw [qh0];simp [beF]
 |m+1,k,A,j,h=>by
  have n:IntKind.i64.wrap ((at_:Int)+(k:Int))=((at_+k:Nat):Int):=by rw [zb7 (by omega)];omega
  have o:IntKind.i64.wrap (8*IntKind.i64.wrap (IntKind.i64.wrap ((sz:Int)-1)-(k:Int)))=((8*m:Nat):Int):=by
   rw [zb7 (x:=(sz:Int)-1) (by omega),zb7 (x:=(sz:Int)-1-(k:Int)) (by omega),zb7 (by omega)];omega
  rw [qg9,n,o,if_pos (by omega),if_neg (by omega)];have i:=g.getD (at_+k);have p:IntKind.u64.wrap (b.getD (((at_+k:Nat):Int)).toNat 0)=b.getD (at_+k) 0:=by rw [Z1];exact ji7 ⟨i.1,by omega⟩
  rw [p,we0 (by omega) h i,ki6 g c a d e f m (k+1) (A*256+b.getD (at_+k) 0) (by omega) ⟨by omega,by rw [Int.pow_succ];omega⟩];rw [beF,Int.pow_succ,show at_+k+1=at_+(k+1) by omega];congr 6
  grind
def vj7:qcq v7=some ((),(([false,true,true,false,true,false,false,false,true]:List Bool),())):=wn4 v7
def qp9 (x) (a:0<=x) (b:x<9):([false,true,true,false,true,false,false,false,true]:List Bool).getD x.toNat false=ze7 x:=by
 have:x=0\/x=1\/x=2\/x=3\/x=4\/x=5\/x=6\/x=7\/x=8:=by omega
 rcases this with h|h|h|h|h|h|h|h|h<;>subst h<;>rfl
def ze5 {x} (h:ze7 x=true):x=1\/x=2\/x=4\/x=8:=by
 unfold ze7 at h;simp at h;omega
def yj2 {x} (h:x<0\/9<=x):ze7 x=false:=by
 unfold ze7;simp;omega
def zb6 (len at_ a:Int):Int:=if ze7 a=true then (if at_<0\/at_>len-a then 112 else 0) else 2
def ka0 (b:List Int) (at_ size:Int) (hlen:b.length<=1000000000):qy v7 b at_ size=some ((),if zb6 b.length at_ size=0 then .inl () else .inr (zb6 b.length at_ size,())):=by
 obtain ⟨n,e⟩: ∃n:Nat,(v7:Nat)=n+1+1:=⟨999999998,rfl⟩;rw [uk6,vj7,j4,e];have hj: ∀s,s= !ze7 size->qv6 (n+1+1) b at_ size s=some ((),if zb6 b.length at_ size=0 then .inl () else .inr (zb6 b.length at_ size,())):=by
  intro s hs;rw [kf5,hs,q7];cases hz:ze7 size with
  |false=>rw [show zb6 b.length at_ size=2 by unfold zb6;rw [hz];rfl];rfl
  |true=>
   have:=ze5 hz;rw [if_neg (by decide),kf4,zb7 (by omega),q7,q7];by_cases h1:at_<0
   ·rw [if_pos (by simpa using h1),show zb6 b.length at_ size=112 by unfold zb6;rw [if_pos hz,if_pos (.inl h1)]];rfl
   ·rw [if_neg (by simpa using h1)];by_cases h2:at_>(b.length:Int)-size
    ·rw [if_pos (by simpa using h2),show zb6 b.length at_ size=112 by unfold zb6;rw [if_pos hz,if_pos (.inr h2)]];rfl
    ·rw [if_neg (by simpa using h2),show zb6 b.length at_ size=0 by unfold zb6;rw [if_pos hz,if_neg (by omega)]];rfl
 rw [q7,q7];by_cases h1:size<0
 ·rw [if_pos (by simpa using h1),hj _ (by rw [yj2 (.inl h1)];rfl)]
 ·rw [if_neg (by simpa using h1)];by_cases h2:size>=9
  ·rw [if_pos (by simpa using h2),hj _ (by rw [yj2 (.inr h2)];rfl)]
  ·rw [if_neg (by simpa using h2),if_pos (by omega),hj _ (by rw [qp9 _ (by omega) (by omega)])]
def ve7 (b:List Int) (at_ a:Int):Int×Int:=if zb6 b.length at_ a=0 then (beF b at_.toNat a.toNat,0) else (0,zb6 b.length at_ a)
def get_p (b) (f:ByteL b) (at_ a) (c:b.length<=1000000000):qdj v7 b at_ a=some (ve7 b at_ a):=by
 rw [wq7,wi3,wf0,ka0 b at_ a c];unfold ve7;by_cases h:zb6 b.length at_ a=0
 ·simp only [if_pos h,j4];have d:ze7 a=true:=by unfold zb6 at h;split at h;assumption;cases h
  have i: ¬(at_<0\/at_>(b.length:Int)-a):=by unfold zb6 at h;rw [if_pos d] at h;intro g;rw [if_pos g] at h;cases h
  have j:=ze5 d;rw [kn0];simp only [j4];rw [q7,if_pos (by simp;omega)];have e:=ki6 f (at_:=at_.toNat) (sz:=a.toNat) (by omega) c (by omega) at_ a a.toNat 0 0 (by omega) ⟨by decide,by decide⟩;rw [show ((a.toNat:Nat):Int)=a by omega,show ((at_.toNat:Nat):Int)=at_ by omega,Int.zero_mul] at e;simp only [e,j4,km4,J9,Int.zero_add]
 ·simp only [if_neg h,j4,km5]
def gg9 {b:List Int} (h:b.length=512):List.take 512 (List.drop 0 b)=b:=by rw [M8,Q3 (by omega)]
def qp5 (v:Int):List Int->Nat->Nat->List Int
 |b,_,0=>b
 |b,p,m+1=>qp5 v (b.set p (v/256^m%256)) (p+1) m
def qp6 (v): ∀(m b p),(qp5 v b p m).length=b.length
 |0,b,p=>rfl
 |m+1,b,p=>by rw [qp5,qp6 v m];simp
def jh7 {v}: ∀(m) {b} (p),ByteL b->ByteL (qp5 v b p m)
 |0,b,p,h=>h
 |m+1,b,p,h=>by
  rw [qp5];refine jh7 m (p+1) fun x a=>?_;rcases K3 a with a|a
  ·exact h x a
  ·subst a;omega
def wu8 (x):IntKind.u8.wrap x=x%256:=by
 unfold IntKind.wrap;simp [IntKind.bits,IntKind.signed]
def kq2 {at_ sz:Nat} (c:at_+sz<=512) (d:sz<=8) (r:List Val) (e:List Bool) (f:List Int) (pc g h v:Int): ∀(m k:Nat) (b:List Int),k+m=sz->
  jm6 m k 0 512 r b e f pc g h v (sz:Int) (at_:Int)=some ((((0,512),()),(r,qp5 v b (at_+k) m,e,f,pc,(),()),(g,()),(h,()),(v,()),()),.inl ())
 |0,k,b,i=>by rw [qh2];rfl
 |m+1,k,b,i=>by
  have j:IntKind.i64.wrap ((at_:Int)+(k:Int))=((at_+k:Nat):Int):=by rw [zb7 (by omega)];omega
  have n:IntKind.i64.wrap (8*IntKind.i64.wrap (IntKind.i64.wrap ((sz:Int)-1)-(k:Int)))=((8*m:Nat):Int):=by
   rw [zb7 (x:=(sz:Int)-1) (by omega),zb7 (x:=(sz:Int)-1-(k:Int)) (by omega),zb7 (by omega)];omega
  have o:IntKind.u8.wrap (zr2 .u64 v ((8*m:Nat):Int))=v/256^m%256:=by
   rw [wu8];unfold zr2;have a:min (((8*m:Nat):Int)).toNat (IntKind.u64.bits)=8*m:=by
    show min (((8*m:Nat):Int)).toNat 64=8*m;omega
   rw [a,<-qc7,Int.fdiv_eq_ediv_of_nonneg _ (M7 (K6 (by decide)))]
  rw [qh1,j,n,o,if_neg (by omega),if_pos (by omega),Z1,W7,kq2 c d r e f pc g h v m (k+1) _ (by omega)];rfl
def ka1 (r:List Val) (b:List Int) (se:List Bool) (pk:List Int) (pc at_ size:Int):qai v7 r b se pk pc 0 512 at_ size=some (((r,b,se,pk,pc,(),()),()),if zb6 512 at_ size=0 then .inl () else .inr (zb6 512 at_ size,())):=by
 obtain ⟨n,e⟩: ∃n:Nat,(v7:Nat)=n+1+1:=⟨999999998,rfl⟩;rw [wg0,vj7,j4,e];have hj: ∀s,s= !ze7 size->jm7 (n+1+1) 0 512 at_ size s r b se pk pc=some (((r,b,se,pk,pc,(),()),()),if zb6 512 at_ size=0 then .inl () else .inr (zb6 512 at_ size,())):=by
  intro s hs;rw [vp5,hs,q7];cases hz:ze7 size with
  |false=>rw [show zb6 512 at_ size=2 by unfold zb6;rw [hz];rfl];rfl
  |true=>
   have:=ze5 hz;rw [if_neg (by decide),vp4,zb7 (by omega),q7,q7];by_cases h1:at_<0
   ·rw [if_pos (by simpa using h1),show zb6 512 at_ size=112 by unfold zb6;rw [if_pos hz,if_pos (.inl h1)]];rfl
   ·rw [if_neg (by simpa using h1)];by_cases h2:at_>512-size
    ·rw [if_pos (by simpa using h2),show zb6 512 at_ size=112 by unfold zb6;rw [if_pos hz,if_pos (.inr h2)]];rfl
    ·rw [if_neg (by simpa using h2),show zb6 512 at_ size=0 by unfold zb6;rw [if_pos hz,if_neg (by omega)]];rfl
 rw [q7,q7];by_cases h1:size<0
 ·rw [if_pos (by simpa using h1),hj _ (by rw [yj2 (.inl h1)];rfl)]
 ·rw [if_neg (by simpa using h1)];by_cases h2:size>=9
  ·rw [if_pos (by simpa using h2),hj _ (by rw [yj2 (.inr h2)];rfl)]
  ·rw [if_neg (by simpa using h2),if_pos (by omega),hj _ (by rw [qp9 _ (by omega) (by omega)])]
def gz2 (b:List Int) (at_ a v:Int):List Int×Int:=if zb6 512 at_ a=0 then (qp5 v b at_.toNat a.toNat,0) else (b,zb6 512 at_ a)
def ul2 (r b c d pc at_ a v):qdu v7 r b c d pc 0 512 at_ a v=some (((r,(gz2 b at_ a v).1,c,d,pc,(),()),()),((gz2 b at_ a v).2,())):=by
 rw [ws9,wj2,wf2,ka1 r b c d pc at_ a];unfold gz2;by_cases h:zb6 512 at_ a=0
 ·simp only [if_pos h,j4];have e:ze7 a=true:=by unfold zb6 at h;split at h;assumption;cases h
  have i: ¬(at_<0\/at_>512-a):=by unfold zb6 at h;rw [if_pos e] at h;intro g;rw [if_pos g] at h;cases h
  have j:=ze5 e;rw [kn0];simp only [j4];rw [q7,if_pos (by simp;omega)];have f:=kq2 (at_:=at_.toNat) (sz:=a.toNat) (by omega) (by omega) r c d pc at_ a v a.toNat 0 b (by omega);rw [show ((a.toNat:Nat):Int)=a by omega,show ((at_.toNat:Nat):Int)=at_ by omega] at f;simp only [f,j4,km4,J9]
 ·simp only [if_neg h,j4,km5]
structure MS where
 R:List Val
 B:List Int
 S:List Bool
abbrev rg (R:List Val) (r:Int):Val:=R.getD r.toNat zl6
def zz0 (R:List Val) (r:Int):Int:=if (rg R r).kind=0 then 110 else 0
def secV (i:Ins) (R:List Val):Val:=if i.UseImm=true then ⟨1,IntKind.u64.wrap i.Imm⟩ else rg R i.Src
def vy2 (i:Ins) (R:List Val):Int:=if i.UseImm=true then 0 else zz0 R i.Src
def zy6 (i:Ins) (R:List Val):Int:=if zz0 R i.Dst≠0 then zz0 R i.Dst else vy2 i R
abbrev un6:=Option (((List Val×List Int×List Bool×List Int×Int×Unit×Unit)×Unit)×(Int×Unit))
def out (s:MS) (P:List Int) (pc e:Int):un6:=some (((s.R,s.B,s.S,P,pc,(),()),()),(e,()))
section
variable (R:List Val) (B:List Int) (S:List Bool) (P:List Int) (pc:Int)
theorem ga4 (r):qd v7 R B S P pc [r]=if 0<=r/\r<((11:Nat):Int) then j8 ((rg R r).kind==0) (some (((R,B,S,P,pc,(),()),[r],()),((110:Int),()))) (some (((R,B,S,P,pc,(),()),[r],()),((0:Int),()))) else none:=by kernel_rfl
theorem ga5 (r q):qd v7 R B S P pc [r,q]=if 0<=r/\r<((11:Nat):Int) then j8 ((rg R r).kind==0) (some (((R,B,S,P,pc,(),()),[r,q],()),((110:Int),()))) (if 0<=q/\q<((11:Nat):Int) then j8 ((rg R q).kind==0) (some (((R,B,S,P,pc,(),()),[r,q],()),((110:Int),()))) (some (((R,B,S,P,pc,(),()),[r,q],()),((0:Int),()))) else none) else none:=by kernel_rfl
theorem ga3:qh v7 R B S P pc=some (((R,B,S,P,pc,(),()),()),((0:Int),())):=by kernel_rfl
theorem zt3 {r} (h:0<=r/\r<=10):qd v7 R B S P pc [r]=some (((R,B,S,P,pc,(),()),[r],()),(zz0 R r,())):=by
 rw [ga4,if_pos (by omega),q7];unfold zz0;by_cases a:(rg R r).kind=0
 ·rw [if_pos (by simpa using a),if_pos a]
 ·rw [if_neg (by simpa using a),if_neg a]
theorem ga6 {r q} (h:0<=r/\r<=10) (c:0<=q/\q<=10):qd v7 R B S P pc [r,q]=some (((R,B,S,P,pc,(),()),[r,q],()),(if zz0 R r≠0 then zz0 R r else zz0 R q,())):=by
 rw [ga5,if_pos (by omega),if_pos (by omega),q7,q7];unfold zz0;by_cases a:(rg R r).kind=0
 ·rw [if_pos (by simpa using a),if_pos a,if_pos (by decide)]
 ·rw [if_neg (by simpa using a),if_neg a,if_neg (show ¬((0:Int)≠0) by decide)];by_cases b:(rg R q).kind=0
  ·rw [if_pos (by simpa using b),if_pos b]
  ·rw [if_neg (by simpa using b),if_neg b]
theorem vr3 {i} (h:i.UseImm=false->0<=i.Src/\i.Src<=10):qch v7 R B S P pc i=some (((R,B,S,P,pc,(),()),()),(secV i R,vy2 i R,())):=by
 rw [wm6];unfold secV vy2;cases hu:i.UseImm with
 |true=>rw [q7,if_neg (by decide),if_pos rfl,if_pos rfl,qe0,j4,ga3,j4]
 |false=>
  have:=h hu;rw [q7,if_pos (by decide),if_pos (by omega),zt3 R B S P pc this,j4,if_neg (by decide),if_neg (by decide)]
theorem yx4 {i} (a:0<=i.Dst/\i.Dst<=10) (h:i.UseImm=false->0<=i.Src/\i.Src<=10):qcc v7 R B S P pc i [i.Dst]=some (((R,B,S,P,pc,(),()),(),()),(secV i R,zy6 i R,())):=by
 rw [wm3];unfold secV zy6 vy2;cases hu:i.UseImm with
 |true=>
  rw [q7,if_neg (by decide),if_pos rfl,if_pos rfl,qe0,j4,zt3 R B S P pc a,j4];by_cases b:zz0 R i.Dst=0
  ·rw [b];rfl
  ·rw [if_pos b]
 |false=>
  have:=h hu;rw [q7,if_pos (by decide),if_pos (by omega),if_pos (by simp),show ([i.Dst]++ [i.Src]:List Int)= [i.Dst,i.Src] from rfl,ga6 R B S P pc a this,j4,if_neg (show ¬(false=true) by decide),if_neg (show ¬(false=true) by decide)]
def mvP (i:Ins) (s:MS):Int×MS:=
 if vy2 i s.R≠0 then (vy2 i s.R,s) else if i.Narrow=true/\(secV i s.R).kind≠1 then (114,s)
 else (0,{s with R:=s.R.set i.Dst.toNat ⟨(secV i s.R).kind,if i.Narrow=true then IntKind.u64.wrap (IntKind.u32.wrap (secV i s.R).n) else (secV i s.R).n⟩})
theorem wc9 {i:Ins} (hd:0<=i.Dst/\i.Dst<=10) (h:i.UseImm=false->0<=i.Src/\i.Src<=10):qag v7 R B S P pc i=out (mvP i ⟨R,B,S⟩).2 P pc (mvP i ⟨R,B,S⟩).1:=by
 obtain ⟨n,e⟩: ∃n:Nat,(v7:Nat)=n+1+1:=⟨999999998,rfl⟩;rw [wf6,vr3 R B S P pc h,j4,q7];unfold mvP;simp only;by_cases h0:vy2 i R=0
 ·rw [if_neg (by simpa using h0),if_neg (by simpa using h0),e,q7];cases hn:i.Narrow with
  |true=>
   rw [if_pos rfl,ju0,q7];by_cases hk:(secV i R).kind=1
   ·rw [if_neg (by simpa using hk),q7,if_pos rfl,jt9,if_pos (by omega),if_neg (by simp [hk])];rfl
   ·rw [if_pos (by simpa using hk),if_pos ⟨rfl,hk⟩];rfl
  |false=>
   rw [if_neg (by decide),ju0,q7,if_neg (by decide),q7,if_neg (by decide),jt9,if_pos (by omega),if_neg (by simp)];rfl
 ·rw [if_pos (by simpa using h0),if_pos (by simpa using h0)];rfl
def ngP (i:Ins) (s:MS):Int×MS:=
 if zz0 s.R i.Dst≠0 then (zz0 s.R i.Dst,s) else if (rg s.R i.Dst).kind≠1 then (114,s)
 else ((zy9 i.Op i.Narrow (rg s.R i.Dst).n 0).2,{s with R:=s.R.set i.Dst.toNat ⟨(rg s.R i.Dst).kind,(zy9 i.Op i.Narrow (rg s.R i.Dst).n 0).1⟩})
theorem uc9 {i} (c:0<=i.Dst/\i.Dst<=10):qdp v7 R B S P pc i=out (ngP i ⟨R,B,S⟩).2 P pc (ngP i ⟨R,B,S⟩).1:=by
 rw [wr9,zt3 R B S P pc c,j4,q7];unfold ngP;simp only;by_cases a:zz0 R i.Dst=0
 ·rw [if_neg (by simpa using a),if_pos (by omega),q7,if_neg (show ¬(zz0 R i.Dst≠0) from fun h=>h a)];by_cases b:(rg R i.Dst).kind=1
  ·rw [if_neg (by simpa using b),if_neg (show ¬((rg R i.Dst).kind≠1) from fun h=>h b),gh8 _ _ _ _ ⟨by decide,by decide⟩,j4];rfl
  ·rw [if_pos (by simpa using b),if_pos b];rfl
 ·rw [if_pos (by simpa using a),if_pos (by simpa using a)];rfl
def frP (n:Int) (i:Ins):Int×Int:=
 let k:=IntKind.i64.wrap (IntKind.i64.wrap (IntKind.u64.wrap (n+IntKind.u64.wrap i.Off))+512)
 if k<0\/k>512-i.Size then (0,112) else (k,0)
theorem ve5 (n i) (c:0<=i.Size/\i.Size<=8):qcm v7 n i=some (frP n i):=by
 rw [wn0,qe0,j4,zb7 (x:=512-i.Size) (by omega)];unfold frP;simp only [q7,decide_eq_true_eq];by_cases a:IntKind.i64.wrap (IntKind.i64.wrap (IntKind.u64.wrap (n+IntKind.u64.wrap i.Off))+512)<0
 ·rw [if_pos a,if_pos (.inl a)]
 ·rw [if_neg a];by_cases b:IntKind.i64.wrap (IntKind.i64.wrap (IntKind.u64.wrap (n+IntKind.u64.wrap i.Off))+512)>512-i.Size
  ·rw [if_pos b,if_pos (.inr b)]
  ·rw [if_neg b,if_neg (by omega)]
theorem gj1 {n i} (h:(frP n i).2=0):0<=(frP n i).1/\(frP n i).1<=512-i.Size:=by
 unfold frP at h⊢;simp only at h⊢;split at h
 ·cases h
 ·rename_i a;rw [if_neg a];simp only;omega
def kz9 (S:List Bool):Nat->Nat->Bool
 |_,0=>true
 |p,m+1=>S.getD p false&&kz9 S (p+1) m
def ldP (i:Ins) (P:List Int) (s:MS):Int×MS:=
 if zz0 s.R i.Src≠0 then (zz0 s.R i.Src,s) else if (rg s.R i.Src).kind=1 then (111,s)
 else if (rg s.R i.Src).kind=2 then
  (if (ve7 P (IntKind.i64.wrap (IntKind.u64.wrap ((rg s.R i.Src).n+IntKind.u64.wrap i.Off))) i.Size).2≠0 then ((ve7 P (IntKind.i64.wrap (IntKind.u64.wrap ((rg s.R i.Src).n+IntKind.u64.wrap i.Off))) i.Size).2,s)
   else (0,{s with R:=s.R.set i.Dst.toNat ⟨1,(ve7 P (IntKind.i64.wrap (IntKind.u64.wrap ((rg s.R i.Src).n+IntKind.u64.wrap i.Off))) i.Size).1⟩}))
 else if (frP (rg s.R i.Src).n i).2≠0 then ((frP (rg s.R i.Src).n i).2,s)
 else if kz9 s.S (frP (rg s.R i.Src).n i).1.toNat i.Size.toNat=false then (110,s)
 else (0,{s with R:=s.R.set i.Dst.toNat ⟨1,beF s.B (frP (rg s.R i.Src).n i).1.toNat i.Size.toNat⟩})
theorem vf5 (i:Ins) (e:0<=i.Dst/\i.Dst<=10) (a:ze7 i.Size=true) (c:ByteL B) (d:B.length=512) (p:Nat) (f:(p:Int)<=512-i.Size): ∀(m k n:Nat),(k:Int)+m=i.Size->m+2<=n->
  vw2 n (p:Int) i.Size (k:Int) R B S P pc i.Op i.Narrow i.Dst i.Src i.UseImm i.Off i.Imm i.Size=
   if kz9 S (p+k) m=false then out ⟨R,B,S⟩ P pc 110 else out ⟨R.set i.Dst.toNat ⟨1,beF B p i.Size.toNat⟩,B,S⟩ P pc 0
 |0,k,n,g,h=>by
  obtain ⟨n,rfl⟩: ∃b,n=b+1+1:=⟨n-2,by omega⟩;have j:=ze5 a;rw [qn6,q7,if_neg (by simp;omega),gg9 d,get_p B c _ _ (by omega),j4,qn5,if_pos (by omega)];have:zb6 B.length (p:Int) i.Size=0:=by unfold zb6;rw [if_pos a,if_neg (by omega)]
  unfold ve7;rw [if_pos this,if_neg (by simp [kz9])];rfl
 |m+1,k,n,g,h=>by
  obtain ⟨n,rfl⟩: ∃b,n=b+1:=⟨n-1,by omega⟩;have j:=ze5 a;have o:IntKind.i64.wrap ((p:Int)+(k:Int))=((p+k:Nat):Int):=by rw [zb7 (by omega)];omega
  have q:IntKind.i64.wrap ((k:Int)+1)=((k+1:Nat):Int):=by rw [zb7 (by omega)];omega
  rw [qn6,q7,if_pos (by simp;omega),o,q,if_pos (by omega),Z1,q7,kz9];cases hb:S.getD (p+k) false with
  |false=>rw [if_pos (by decide),if_pos (by simp)];rfl
  |true=>
   rw [if_neg (by decide),vf5 i e a c d p f m (k+1) n (by omega) (by omega),M4,show p+k+1=p+(k+1) by omega]
theorem wc7 {i:Ins} (hd:0<=i.Dst/\i.Dst<=10) (hs:0<=i.Src/\i.Src<=10) (hz:ze7 i.Size=true) (hB:ByteL B) (hl:B.length=512) (hP:ByteL P) (hPl:P.length<=65535):
  qz v7 R B S P pc i=out (ldP i P ⟨R,B,S⟩).2 P pc (ldP i P ⟨R,B,S⟩).1:=by
 obtain ⟨n,e⟩: ∃n:Nat,(v7:Nat)=n+20:=⟨999999980,rfl⟩;have hc:=ze5 hz;rw [uk7,zt3 R B S P pc hs,j4,q7];unfold ldP;simp only;by_cases h0:zz0 R i.Src=0
 ·rw [if_neg (by simpa using h0),if_pos (by omega),q7,if_neg (show ¬(zz0 R i.Src≠0) from fun h=>h h0)];by_cases hk:(rg R i.Src).kind=1
  ·rw [if_pos (by simpa using hk),if_pos hk];rfl
  ·rw [if_neg (by simpa using hk),if_neg hk,q7];by_cases hk2:(rg R i.Src).kind=2
   ·rw [if_pos (by simpa using hk2),if_pos hk2,qe0,j4,get_p P hP _ _ (by omega),j4,q7];by_cases h2:(ve7 P (IntKind.i64.wrap (IntKind.u64.wrap ((rg R i.Src).n+IntKind.u64.wrap i.Off))) i.Size).2=0
    ·rw [if_neg (by simpa using h2),if_neg (by simpa using h2),e,qn5,if_pos (by omega)];rfl
    ·rw [if_pos (by simpa using h2),if_pos h2];rfl
   ·rw [if_neg (by simpa using hk2),if_neg hk2,ve5 _ _ (by omega),j4,q7];by_cases h2:(frP (rg R i.Src).n i).2=0
    ·rw [if_neg (by simpa using h2),if_neg (by simpa using h2)];have hf:=gj1 h2;have:=vf5 R B S P pc i hd hz hB hl (frP (rg R i.Src).n i).1.toNat (by omega) i.Size.toNat 0 (n+20) (by omega) (by omega);rw [show (((frP (rg R i.Src).n i).1.toNat:Nat):Int)=(frP (rg R i.Src).n i).1 by omega] at this;rw [e];refine this.trans ?_;rw [J9];split<;>rfl
    ·rw [if_pos (by simpa using h2),if_pos h2];rfl
 ·rw [if_pos (by simpa using h0),if_pos (by simpa using h0)];rfl
def kq1:List Bool->Nat->Nat->List Bool
 |S,_,0=>S
 |S,p,m+1=>kq1 (S.set p true) (p+1) m
def ptP (i:Ins) (s:MS):Int×MS:=
 if zy6 i s.R≠0 then (zy6 i s.R,s) else if (rg s.R i.Dst).kind=2 then (114,s)
 else if (rg s.R i.Dst).kind=1\/(secV i s.R).kind≠1 then (111,s)
 else if (frP (rg s.R i.Dst).n i).2≠0 then ((frP (rg s.R i.Dst).n i).2,s)
 else (0,{s with B:=qp5 (secV i s.R).n s.B (frP (rg s.R i.Dst).n i).1.toNat i.Size.toNat,S:=kq1 s.S (frP (rg s.R i.Dst).n i).1.toNat i.Size.toNat})
theorem kk4 (i:Ins) (b:ze7 i.Size=true) (a v:Int) (p:Nat) (d:(p:Int)<=512-i.Size): ∀(m k n:Nat) (S:List Bool),(k:Int)+m=i.Size->m+2<=n->
  qd0 n (p:Int) i.Size (k:Int) R B S P pc i.Op i.Narrow i.Dst i.Src i.UseImm i.Off i.Imm i.Size a v=out ⟨R,qp5 v B p i.Size.toNat,kq1 S (p+k) m⟩ P pc 0
 |0,k,n,S,e,f=>by
  obtain ⟨n,rfl⟩: ∃c,n=c+1+1:=⟨n-2,by omega⟩;have g:=ze5 b;have:zb6 512 (p:Int) i.Size=0:=by unfold zb6;rw [if_pos b,if_neg (by omega)]
  rw [jt8,q7,if_neg (by simp;omega),ul2,j4];unfold gz2;rw [if_pos this];rfl
 |m+1,k,n,S,e,f=>by
  obtain ⟨n,rfl⟩: ∃c,n=c+1:=⟨n-1,by omega⟩;have g:=ze5 b;have h:IntKind.i64.wrap ((p:Int)+(k:Int))=((p+k:Nat):Int):=by rw [zb7 (by omega)];omega
  have j:IntKind.i64.wrap ((k:Int)+1)=((k+1:Nat):Int):=by rw [zb7 (by omega)];omega
  rw [jt8,q7,if_pos (by simp;omega),h,j,if_pos (by omega),Z1,kk4 i b a v p d m (k+1) n _ (by omega) (by omega)];rfl
theorem uh7 {i:Ins} (hd:0<=i.Dst/\i.Dst<=10) (h:i.UseImm=false->0<=i.Src/\i.Src<=10) (hz:ze7 i.Size=true):qaa v7 R B S P pc i=out (ptP i ⟨R,B,S⟩).2 P pc (ptP i ⟨R,B,S⟩).1:=by
 obtain ⟨n,e⟩: ∃n:Nat,(v7:Nat)=n+20+1:=⟨999999979,rfl⟩;have hc:=ze5 hz;rw [we6,yx4 R B S P pc hd h,j4,if_pos (by omega),q7];unfold ptP;simp only;by_cases h0:zy6 i R=0
 ·rw [if_neg (by simpa using h0),if_neg (by simpa using h0),q7];by_cases hk2:(rg R i.Dst).kind=2
  ·rw [if_pos (by simpa using hk2),if_pos hk2];rfl
  ·rw [if_neg (by simpa using hk2),if_neg hk2,q7];have hj: ∀s,qc9 (n+20+1) s R B S P pc i.Op i.Narrow i.Dst i.Src i.UseImm i.Off i.Imm i.Size (secV i R).kind (secV i R).n (rg R i.Dst).kind (rg R i.Dst).n=
     if s=true then out ⟨R,B,S⟩ P pc 111 else if (frP (rg R i.Dst).n i).2≠0 then out ⟨R,B,S⟩ P pc (frP (rg R i.Dst).n i).2 else out ⟨R,qp5 (secV i R).n B (frP (rg R i.Dst).n i).1.toNat i.Size.toNat,kq1 S (frP (rg R i.Dst).n i).1.toNat i.Size.toNat⟩ P pc 0:=by
    intro s;rw [vo7,q7];cases s with
    |true=>rw [if_pos rfl,if_pos rfl];rfl
    |false=>
     rw [if_neg (by decide),if_neg (by decide),ve5 _ _ (by simp only;omega),j4,q7];have ef:frP (rg R i.Dst).n ⟨i.Op,i.Narrow,i.Dst,i.Src,i.UseImm,i.Off,i.Imm,i.Size⟩=frP (rg R i.Dst).n i:=rfl;rw [ef];by_cases h2:(frP (rg R i.Dst).n i).2=0
     ·rw [if_neg (by simpa using h2),if_neg (by simpa using h2)];have hf:=gj1 h2;have:=kk4 R B P pc i hz (secV i R).kind (secV i R).n (frP (rg R i.Dst).n i).1.toNat (by omega) i.Size.toNat 0 (n+20) S (by omega) (by omega);rw [show (((frP (rg R i.Dst).n i).1.toNat:Nat):Int)=(frP (rg R i.Dst).n i).1 by omega] at this;exact this
     ·rw [if_pos (by simpa using h2),if_pos h2];rfl
   rw [e];by_cases hk:(rg R i.Dst).kind=1
   ·rw [if_pos (by simpa using hk),hj,if_pos rfl,if_pos (.inl hk)]
   ·rw [if_neg (by simpa using hk),hj];by_cases hv:(secV i R).kind=1
    ·rw [if_neg (by simpa using hv),if_neg (show ¬((rg R i.Dst).kind=1\/(secV i R).kind≠1) from fun h=>h.elim hk fun h=>h hv)];split<;>rfl
    ·rw [if_pos (by simpa using hv),if_pos (.inr hv)]
 ·rw [if_pos (by simpa using h0),if_pos (by simpa using h0)];rfl
def rkP (i:Ins) (s:MS):Int×MS:=
 if zy6 i s.R≠0 then (zy6 i s.R,s)
 else if (secV i s.R).kind≠1\/(rg s.R i.Dst).kind≠1/\ ¬((i.Op=1\/i.Op=2)/\i.Narrow=false) then (114,s)
 else if (zy9 i.Op i.Narrow (rg s.R i.Dst).n (secV i s.R).n).2=0 then (0,{s with R:=s.R.set i.Dst.toNat ⟨(rg s.R i.Dst).kind,(zy9 i.Op i.Narrow (rg s.R i.Dst).n (secV i s.R).n).1⟩})
 else ((zy9 i.Op i.Narrow (rg s.R i.Dst).n (secV i s.R).n).2,s)
theorem kf7 {i:Ins} (hd:0<=i.Dst/\i.Dst<=10) (h:i.UseImm=false->0<=i.Src/\i.Src<=10) (hv:U64 (secV i R).n):qw v7 R B S P pc i=out (rkP i ⟨R,B,S⟩).2 P pc (rkP i ⟨R,B,S⟩).1:=by
 obtain ⟨n,e⟩: ∃n:Nat,(v7:Nat)=n+1+1:=⟨999999998,rfl⟩;rw [uk3,yx4 R B S P pc hd h,j4,q7];unfold rkP;simp only;by_cases h0:zy6 i R=0
 ·rw [if_neg (by simpa using h0),if_pos (by omega),if_neg (show ¬(zy6 i R≠0) from fun h=>h h0)];have j1: ∀s,qv5 (n+1) i.Dst.toNat s R B S P pc i.Op i.Narrow i.Dst i.Src i.UseImm i.Off i.Imm i.Size (secV i R).kind (secV i R).n=
    if s=true then out ⟨R,B,S⟩ P pc 114 else if (zy9 i.Op i.Narrow (rg R i.Dst).n (secV i R).n).2=0 then out ⟨R.set i.Dst.toNat ⟨(rg R i.Dst).kind,(zy9 i.Op i.Narrow (rg R i.Dst).n (secV i R).n).1⟩,B,S⟩ P pc 0 else out ⟨R,B,S⟩ P pc (zy9 i.Op i.Narrow (rg R i.Dst).n (secV i R).n).2:=by
   intro s;rw [kf3,q7];cases s with
   |true=>rfl
   |false=>
    rw [if_neg (by decide),if_neg (by decide),gh8 _ _ _ _ hv,j4,q7];by_cases h2:(zy9 i.Op i.Narrow (rg R i.Dst).n (secV i R).n).2=0
    ·rw [if_pos (by simpa using h2),if_pos h2,h2];rfl
    ·rw [if_neg (by simpa using h2),if_neg h2];rfl
  have j0: ∀mv:Bool,(mv=true↔(i.Op=1\/i.Op=2)/\i.Narrow=false)->qv4 (n+1+1) i.Dst.toNat mv R B S P pc i.Op i.Narrow i.Dst i.Src i.UseImm i.Off i.Imm i.Size (secV i R).kind (secV i R).n=
    if (secV i R).kind≠1\/(rg R i.Dst).kind≠1/\ ¬((i.Op=1\/i.Op=2)/\i.Narrow=false) then out ⟨R,B,S⟩ P pc 114 else if (zy9 i.Op i.Narrow (rg R i.Dst).n (secV i R).n).2=0 then out ⟨R.set i.Dst.toNat ⟨(rg R i.Dst).kind,(zy9 i.Op i.Narrow (rg R i.Dst).n (secV i R).n).1⟩,B,S⟩ P pc 0 else out ⟨R,B,S⟩ P pc (zy9 i.Op i.Narrow (rg R i.Dst).n (secV i R).n).2:=by
   intro mv hmv;rw [kf2,q7,q7,j1,j1,j1];by_cases hk:(secV i R).kind=1
   ·rw [if_neg (by simpa using hk)];by_cases hr:(rg R i.Dst).kind=1
    ·rw [if_neg (by simpa using hr),if_neg (show ¬(false=true) by decide),if_neg (show ¬((secV i R).kind≠1\/(rg R i.Dst).kind≠1/\ ¬((i.Op=1\/i.Op=2)/\i.Narrow=false)) from fun h=>h.elim (fun h=>h hk) fun h=>h.1 hr)]
    ·rw [if_pos (by simpa using hr)];cases mv with
     |true=>rw [if_neg (show ¬((!true)=true) by decide),if_neg (show ¬((secV i R).kind≠1\/(rg R i.Dst).kind≠1/\ ¬((i.Op=1\/i.Op=2)/\i.Narrow=false)) from fun h=>h.elim (fun h=>h hk) fun h=>h.2 (hmv.1 rfl))]
     |false=>rw [if_pos (show (!false)=true by decide),if_pos (show ((secV i R).kind≠1\/(rg R i.Dst).kind≠1/\ ¬((i.Op=1\/i.Op=2)/\i.Narrow=false)) from .inr ⟨hr,fun h=>absurd (hmv.2 h) (by decide)⟩)]
   ·rw [if_pos (by simpa using hk),if_pos (show true=true from rfl),if_pos (show ((secV i R).kind≠1\/(rg R i.Dst).kind≠1/\ ¬((i.Op=1\/i.Op=2)/\i.Narrow=false)) from .inl hk)]
  have fin:(if (secV i R).kind≠1\/(rg R i.Dst).kind≠1/\ ¬((i.Op=1\/i.Op=2)/\i.Narrow=false) then out ⟨R,B,S⟩ P pc 114 else if (zy9 i.Op i.Narrow (rg R i.Dst).n (secV i R).n).2=0 then out ⟨R.set i.Dst.toNat ⟨(rg R i.Dst).kind,(zy9 i.Op i.Narrow (rg R i.Dst).n (secV i R).n).1⟩,B,S⟩ P pc 0 else out ⟨R,B,S⟩ P pc (zy9 i.Op i.Narrow (rg R i.Dst).n (secV i R).n).2)=
    out (if (secV i R).kind≠1\/(rg R i.Dst).kind≠1/\ ¬((i.Op=1\/i.Op=2)/\i.Narrow=false) then ((114:Int),(⟨R,B,S⟩:MS)) else if (zy9 i.Op i.Narrow (rg R i.Dst).n (secV i R).n).2=0 then (0,⟨R.set i.Dst.toNat ⟨(rg R i.Dst).kind,(zy9 i.Op i.Narrow (rg R i.Dst).n (secV i R).n).1⟩,B,S⟩) else ((zy9 i.Op i.Narrow (rg R i.Dst).n (secV i R).n).2,⟨R,B,S⟩)).2 P pc
     (if (secV i R).kind≠1\/(rg R i.Dst).kind≠1/\ ¬((i.Op=1\/i.Op=2)/\i.Narrow=false) then ((114:Int),(⟨R,B,S⟩:MS)) else if (zy9 i.Op i.Narrow (rg R i.Dst).n (secV i R).n).2=0 then (0,⟨R.set i.Dst.toNat ⟨(rg R i.Dst).kind,(zy9 i.Op i.Narrow (rg R i.Dst).n (secV i R).n).1⟩,B,S⟩) else ((zy9 i.Op i.Narrow (rg R i.Dst).n (secV i R).n).2,⟨R,B,S⟩)).1:=by
   split
   ·rfl
   ·split<;>rfl
  rw [e,q7,q7];refine Eq.trans ?_ fin;by_cases h1:i.Op=1
  ·rw [if_pos (by simpa using h1)];exact j0 _ (by cases i.Narrow<;>simp [h1])
  ·rw [if_neg (by simpa using h1)];by_cases h2:i.Op=2
   ·rw [if_pos (by simpa using h2)];exact j0 _ (by cases i.Narrow<;>simp [h2])
   ·rw [if_neg (by simpa using h2)];exact j0 _ (by simp [h1,h2])
 ·rw [if_pos (by simpa using h0),if_pos (by simpa using h0)];rfl
def brE (i:Ins) (R:List Val):Int:=if zy6 i R≠0 then zy6 i R else if (rg R i.Dst).kind≠1\/(secV i R).kind≠1 then 111 else 0
def brJ (i:Ins) (R:List Val):Bool:=decide (brE i R=0)&&(isP i.Op i.Narrow (rg R i.Dst).n (secV i R).n).1
theorem vz6 {i:Ins} (hd:0<=i.Dst/\i.Dst<=10) (h:i.UseImm=false->0<=i.Src/\i.Src<=10):qaz v7 R B S P pc i=out ⟨R,B,S⟩ P (if brJ i R=true then IntKind.i64.wrap (pc+i.Off) else pc) (brE i R):=by
 obtain ⟨n,e⟩: ∃n:Nat,(v7:Nat)=n+1:=⟨999999999,rfl⟩;rw [wj0,yx4 R B S P pc hd h,j4,if_pos (by omega),q7];by_cases h0:zy6 i R=0
 ·have j: ∀s,qd7 (n+1) s R B S P pc i.Op i.Narrow i.Dst i.Src i.UseImm i.Off i.Imm i.Size (secV i R).kind (secV i R).n (rg R i.Dst).kind (rg R i.Dst).n=
    if s=true then out ⟨R,B,S⟩ P pc 111 else out ⟨R,B,S⟩ P (if (isP i.Op i.Narrow (rg R i.Dst).n (secV i R).n).1=true then IntKind.i64.wrap (pc+i.Off) else pc) 0:=by
   intro s;rw [vq0,q7];cases s with
   |true=>rw [if_pos rfl,if_pos rfl];rfl
   |false=>
    rw [if_neg (by decide),if_neg (by decide),uo8,j4,q7];split<;>rfl
  have bad:(rg R i.Dst).kind≠1\/(secV i R).kind≠1->brE i R=111/\brJ i R=false:=fun hb=>by
   have e1:brE i R=111:=by unfold brE;rw [if_neg (fun h=>h h0),if_pos hb]
   exact ⟨e1,by unfold brJ;rw [e1];rfl⟩
  rw [if_neg (show ¬((zy6 i R != 0)=true) by simpa using h0),e,q7];by_cases hk:(rg R i.Dst).kind=1
  ·rw [if_neg (show ¬(((rg R i.Dst).kind != 1)=true) by rw [bne_iff_ne];exact fun h=>h hk),j];by_cases hv:(secV i R).kind=1
   ·have e1:brE i R=0:=by unfold brE;rw [if_neg (fun h=>h h0),if_neg (fun h=>h.elim (fun h=>h hk) fun h=>h hv)]
    have e2:brJ i R=(isP i.Op i.Narrow (rg R i.Dst).n (secV i R).n).1:=by unfold brJ;rw [e1];rfl
    rw [if_neg (show ¬(((secV i R).kind != 1)=true) by rw [bne_iff_ne];exact fun h=>h hv),e1,e2]
   ·obtain ⟨e1,e2⟩:=bad (.inr hv);rw [if_pos (show ((secV i R).kind != 1)=true by simp only [bne_iff_ne,ne_eq];exact hv),e1,e2];rfl
  ·obtain ⟨e1,e2⟩:=bad (.inl hk);rw [if_pos (show ((rg R i.Dst).kind != 1)=true by simp only [bne_iff_ne,ne_eq];exact hk),j,if_pos (show true=true from rfl),e1,e2];rfl
 ·have e1:brE i R=zy6 i R:=by unfold brE;rw [if_pos h0]
  have e2:brJ i R=false:=by unfold brJ;rw [e1];simp [h0]
  rw [if_pos (show (zy6 i R != 0)=true by simp only [bne_iff_ne,ne_eq];exact h0),e1,e2];rfl
def exE (R:List Val):Int:=if zz0 R 0≠0 then zz0 R 0 else if (rg R 0).kind≠1 then 111 else 0
theorem gb4 (i) (h:exE R≠0):qdf v7 R B S P pc i=out ⟨R,B,S⟩ P pc (exE R):=by
 rw [wp9,zt3 R B S P pc (by decide),j4,q7];unfold exE at h⊢;by_cases a:zz0 R 0=0
 ·rw [if_neg (by simpa using a)] at h⊢;rw [if_neg (by simpa using a),q7];by_cases b:(rg R 0).kind=1
  ·rw [if_neg (by simpa using b)] at h;exact absurd rfl h
  ·have c:((R.getD 0 zl6).kind != 1)=true:=by simpa using b
   rw [if_pos c,if_pos b];rfl
 ·rw [if_pos (by simpa using a),if_pos (by simpa using a)];rfl
theorem gb5 (i) (h:exE R=0):qdg v7 R B S P pc i=some (((R,B,S,P,pc,0,()),()),((0:Int),())):=by
 rw [wq1,zt3 R B S P pc (by decide),j4,q7];unfold exE at h;by_cases a:zz0 R 0=0
 ·rw [if_neg (by simpa using a)] at h;rw [if_neg (by simpa using a),q7];by_cases c:(rg R 0).kind=1
  ·have b: ¬((R.getD 0 zl6).kind != 1)=true:=by simpa using c
   rw [if_neg b]
  ·rw [if_pos c] at h;cases h
 ·rw [if_pos (by simpa using a)] at h;exact absurd h a
theorem gb6:(match qd v7 R B S P pc [0] with|some c=>((c.2.1 != (0:Int))||(((R.getD 0 zl6).kind) != (1:Int)))|none=>false)=decide (exE R≠0):=by
 rw [zt3 R B S P pc (by decide)];unfold exE;by_cases b:zz0 R 0=0
 ·have e:(zz0 R 0 != 0)=false:=by simpa using b
  simp only [e,Bool.false_or,b];rw [if_neg (show ¬((0:Int)≠0) by decide)];by_cases a:(rg R 0).kind=1
  ·rw [if_neg (show ¬((rg R 0).kind≠1) from fun h=>h a),show ((R.getD 0 zl6).kind != 1)=false by rw [bne_eq_false_iff_eq];exact a];rfl
  ·rw [if_pos (show (rg R 0).kind≠1 from a),show ((R.getD 0 zl6).kind != 1)=true by rw [bne_iff_ne];exact a];rfl
 ·simp [b]
end
structure MOk (s:MS):Prop where
 rl:s.R.length=11
 ru: ∀v∈s.R,U64 v.n
 bl:s.B.length=512
 bb:ByteL s.B
 sl:s.S.length=512
def MOk.rg {s} (h:MOk s) (r):U64 (rg s.R r).n:=by
 show U64 (s.R.getD r.toNat zl6).n;rw [Y2];cases hk:s.R[r.toNat]? with
 |none=>exact ⟨by decide,by decide⟩
 |some x=>exact h.ru x (X6 hk)
def MOk.secV {s} (h:MOk s) (i):U64 (secV i s.R).n:=by
 unfold Go.Y.E.secV;split
 ·exact jo8 _
 ·exact h.rg _
def MOk.setR {s} (h:MOk s) (d:Int) {v} (b:U64 v.n):MOk {s with R:=s.R.set d.toNat v}:=by
 refine ⟨by simp [h.rl],fun x a=>?_,h.bl,h.bb,h.sl⟩;rcases K3 a with a|a
 ·exact h.ru x a
 ·subst a;exact b
def qp7: ∀(m S p),(kq1 S p m).length=S.length
 |0,S,p=>rfl
 |m+1,S,p=>by rw [kq1,qp7 m];simp
def kh6 {b} (h:ByteL b) {m} (a:m<=8) (p):U64 (beF b p m):=by
 obtain ⟨c,f⟩:=vd9 h m p;have g:(256:Int)^m<=256^8:=by
  have h:=Nat.pow_le_pow_right (n:=256) (by decide) a;have d:((256^m:Nat):Int)=(256:Int)^m:=by rw [Int.natCast_pow];rfl
  have e:((256^8:Nat):Int)=(256:Int)^8:=by rw [Int.natCast_pow];rfl
  rw [<-d,<-e];exact Int.ofNat_le.2 h
 have i:(256:Int)^8=18446744073709551616:=by decide
 exact ⟨c,by omega⟩
def zv5 (i:Ins) (P:List Int) (s:MS):Int×MS:=
 if i.Op=12 then mvP i s else if i.Op=13 then ngP i s else if i.Op=14 then ldP i P s else if i.Op=15 then ptP i s else if i.Op=16 then (0,s) else if i.Op=28 then (exE s.R,s) else if i.Op<12 then rkP i s else (brE i s.R,s)
def yt4 (i:Ins) (R:List Val):Int:=if i.Op=16 then i.Off else if 17<=i.Op/\i.Op<=27 then (if brJ i R=true then i.Off else 0) else 0
structure ROk (i:Ins):Prop where
 op:1<=i.Op/\i.Op<=28
 off: -32768<=i.Off/\i.Off<=32767
 dst:i.Op≠16->i.Op≠28->0<=i.Dst/\i.Dst<=10
 src:i.Op≠13->i.Op≠16->i.Op≠28->i.UseImm=false->0<=i.Src/\i.Src<=10
 sz:i.Op=14\/i.Op=15->ze7 i.Size=true
 ni:i.Op=14->i.UseImm=false
def rok {i} (h:zd4 i=true):ROk i:=by
 have a:=yj1 i h;unfold zd4 zd1 zv3 zl9 at h;refine ⟨⟨a.2.2.1,a.2.2.2⟩,⟨a.1,a.2.1⟩,?_,?_,?_,?_⟩<;>grind
def ul3 {i:Ins} (c:ROk i) {P:List Int} (d:ByteL P) {s:MS} (h:MOk s):MOk (zv5 i P s).2:=by
 have b:U64 0:=⟨by decide,by decide⟩;unfold zv5;split
 ·unfold mvP;split
  ·exact h
  ·split
   ·exact h
   ·exact h.setR _ (by simp only;split;exact jo8 _;exact h.secV i)
 split
 ·unfold ngP;split
  ·exact h
  ·split
   ·exact h
   ·exact h.setR _ (qi6 (h.rg _) b)
 split
 ·rename_i a;have e:=ze5 (c.sz (.inl a));unfold ldP;split
  ·exact h
  split
  ·exact h
  split
  ·split
   ·exact h
   ·refine h.setR _ ?_;unfold ve7;split
    ·exact kh6 d (by omega) _
    ·exact b
  split
  ·exact h
  split
  ·exact h
  ·exact h.setR _ (kh6 h.bb (by omega) _)
 split
 ·unfold ptP;split
  ·exact h
  split
  ·exact h
  split
  ·exact h
  split
  ·exact h
  ·exact ⟨h.rl,h.ru,by simp only;rw [qp6];exact h.bl,jh7 _ _ h.bb,by simp only;rw [qp7];exact h.sl⟩
 split
 ·exact h
 split
 ·exact h
 split
 ·unfold rkP;split
  ·exact h
  split
  ·exact h
  split
  ·exact h.setR _ (qi6 (h.rg _) (h.secV i))
  ·exact h
 ·exact h
def vg6 {l} (c:Okay l) {k} (g:k<l.length) (d:(l.getD k zb2).Op≠28) (R):(k:Int)<(k:Int)+1+yt4 (l.getD k zb2) R/\(k:Int)+1+yt4 (l.getD k zb2) R<l.length:=by
 have a:=c.fwd k g;have h:=yf5 (c.z1 k g);have n:=yj1 _ h;have j:=c.len;unfold zr6 at a;rw [if_pos (by omega)] at a;simp only [Z1] at a;generalize l.getD k zb2=i at *;rw [if_pos ⟨h,d⟩,zb7 (x:=(k:Int)+1) (by omega),zb7 (by omega)] at a;unfold yj7 at a;unfold yt4;by_cases b:i.Op=16
 ·rw [if_pos b] at a⊢;exact a _ (by simp)
 ·rw [if_neg b] at a⊢;by_cases m:17<=i.Op/\i.Op<=27
  ·rw [if_pos m] at a⊢;have e:(k:Int)<(k:Int)+1+i.Off/\(k:Int)+1+i.Off<l.length:=by
    split at a
    ·exact a _ (by simp)
    ·split at a
     ·exact a _ (by simp)
     ·have:=a ((k:Int)+1) (by simp);omega
   have f:(k:Int)<(k:Int)+1/\(k:Int)+1<l.length:=by
    split at a
    ·exact a _ (by simp)
    ·split at a
     ·exact a _ (by simp)
     ·exact a _ (by simp)
   split
   ·exact e
   ·rw [Int.add_zero];exact f
  ·rw [if_neg m] at a⊢;rw [Int.add_zero];exact a _ (by simp)
section
variable (l:List Ins) (P:List Int)
theorem uf9 {x} (h:x=12):qcx v7 x=some ((),(((),()),())):=by rw [wo2,if_pos h]
theorem ug0 {x} (h:x=13):qcy v7 x=some ((),(((),()),())):=by subst h;rw [wo4];rfl
theorem ug1 {x} (h:x=14):qcz v7 x=some ((),(((),()),())):=by subst h;rw [wo6];rfl
theorem ug2 {x} (h:x=15):qda v7 x=some ((),(((),()),())):=by subst h;rw [wo9];rfl
theorem ug3 {x} (h:x=16):qdb v7 x=some ((),(((),()),())):=by subst h;rw [wp1];rfl
theorem ug4 {x} (h:x=28):qdc v7 x=some ((),(((),()),())):=by subst h;rw [wp3];rfl
theorem ug5 {x} (h:x<12):qdd v7 x=some ((),(((),()),())):=by
 rw [wp5,if_neg (by omega),if_neg (by omega),if_neg (by omega),if_neg (by omega),if_neg (by omega),if_neg (by omega),q7,if_pos (by simpa using h)]
theorem ug6 {x} (h:17<=x/\x<=27):qde v7 x=some ((),(((),()),())):=by
 rw [wp7,if_neg (by omega),if_neg (by omega),if_neg (by omega),if_neg (by omega),if_neg (by omega),if_neg (by omega),q7,if_neg (by simp;omega)]
theorem gg6 (y:Okay l) (I:ByteL P) (z:P.length<=65535) {k} (G:k<l.length) {s} (A:MOk s) (j) (J:0<=j/\j<=1000000) (n):
  zr7 (n+1+1) l 0 0 0 j s.R s.B s.S P (k:Int)=
   if (zv5 (l.getD k zb2) P s).1≠0 then some ⟨(zv5 (l.getD k zb2) P s).1,(k:Int),0,j+1⟩
   else if (l.getD k zb2).Op=28 then some ⟨0,0,(rg s.R 0).n,j+1⟩
   else zr7 (n+1) l 0 0 0 (j+1) (zv5 (l.getD k zb2) P s).2.R (zv5 (l.getD k zb2) P s).2.B (zv5 (l.getD k zb2) P s).2.S P ((k:Int)+1+yt4 (l.getD k zb2) s.R):=by
 have H:=y.len;have m:=rok (yf5 (y.z1 k G));have v:(l.getD k zb2).Op≠28->_:=fun a=>vg6 y G a s.R;rw [kf1,if_pos (by omega)];simp only [Z1];rw [zb7 (x:=(k:Int)+1) (by omega),zb7 (x:=j+1) (by omega)];obtain ⟨i,C⟩: ∃i,l.getD k zb2=i:=⟨_,rfl⟩;simp only [C] at m v⊢;obtain ⟨R,B,S⟩:=s;dsimp only at v⊢;have t: ∀(e:Int) (p:MS) (pc:Int),j8 (e != 0) (some (⟨e,(k:Int),0,j+1⟩:X.Outcome)) (zr7 (n+1) l 0 0 0 (j+1) p.R p.B p.S P pc)=if e≠0 then some ⟨e,(k:Int),0,j+1⟩ else zr7 (n+1) l 0 0 0 (j+1) p.R p.B p.S P pc:=by
  intro e p pc;rw [q7];by_cases h:e=0
  ·rw [if_neg (by simpa using h),if_neg (by simpa using h)]
  ·rw [if_pos (by simpa using h),if_pos h]
 have o: ∀(e:Int) (p:MS) (pc:Int),i.Op≠28->zv5 i P ⟨R,B,S⟩=(e,p)->(e=0->pc=(k:Int)+1+yt4 i R)->
   j8 (e != 0) (some (⟨e,(k:Int),0,j+1⟩:X.Outcome)) (zr7 (n+1) l 0 0 0 (j+1) p.R p.B p.S P pc)=
   if (zv5 i P ⟨R,B,S⟩).1≠0 then some ⟨(zv5 i P ⟨R,B,S⟩).1,(k:Int),0,j+1⟩
   else if i.Op=28 then some ⟨0,0,(rg R 0).n,j+1⟩
   else zr7 (n+1) l 0 0 0 (j+1) (zv5 i P ⟨R,B,S⟩).2.R (zv5 i P ⟨R,B,S⟩).2.B (zv5 i P ⟨R,B,S⟩).2.S P ((k:Int)+1+yt4 i R):=by
  intro e p pc a q D;rw [t,q,if_neg a];by_cases h:e=0
  ·rw [if_neg (fun E=>E h),if_neg (fun E=>E h),D h]
  ·rw [if_pos h,if_pos h]
 by_cases b:i.Op=12
 ·rw [q7,if_pos (by simp [b]),uf9 b,j4,wc9 R B S P _ (m.dst (by omega) (by omega)) (m.src (by omega) (by omega) (by omega))];exact o _ _ ((k:Int)+1) (by omega) (by unfold zv5;rw [if_pos b]) fun _=>by unfold yt4;rw [if_neg (by omega),if_neg (by omega)];omega
 rw [q7,if_neg (by simp [b])];by_cases d:i.Op=13
 ·rw [q7,if_pos (by simp [d]),ug0 d,j4,uc9 R B S P _ (m.dst (by omega) (by omega))];exact o _ _ ((k:Int)+1) (by omega) (by unfold zv5;rw [if_neg b,if_pos d]) fun _=>by unfold yt4;rw [if_neg (by omega),if_neg (by omega)];omega
 rw [q7,if_neg (by simp [d])];by_cases c:i.Op=14
 ·rw [q7,if_pos (by simp [c]),ug1 c,j4,wc7 R B S P _ (m.dst (by omega) (by omega)) (m.src (by omega) (by omega) (by omega) (m.ni c)) (m.sz (.inl c)) A.bb A.bl I z];exact o _ _ ((k:Int)+1) (by omega) (by unfold zv5;rw [if_neg b,if_neg d,if_pos c]) fun _=>by unfold yt4;rw [if_neg (by omega),if_neg (by omega)];omega
 rw [q7,if_neg (by simp [c])];by_cases f:i.Op=15
 ·rw [q7,if_pos (by simp [f]),ug2 f,j4,uh7 R B S P _ (m.dst (by omega) (by omega)) (m.src (by omega) (by omega) (by omega)) (m.sz (.inr f))];exact o _ _ ((k:Int)+1) (by omega) (by unfold zv5;rw [if_neg b,if_neg d,if_neg c,if_pos f]) fun _=>by unfold yt4;rw [if_neg (by omega),if_neg (by omega)];omega
 rw [q7,if_neg (by simp [f])];have L:=m.off;by_cases g:i.Op=16
 ·rw [q7,if_pos (by simp [g]),ug3 g,j4,ua7,j4];exact o 0 ⟨R,B,S⟩ (IntKind.i64.wrap ((k:Int)+1+i.Off)) (by omega) (by unfold zv5;rw [if_neg b,if_neg d,if_neg c,if_neg f,if_pos g]) fun _=>by unfold yt4;rw [if_pos g,zb7 (by omega)]
 rw [q7,if_neg (by simp [g])];by_cases a:i.Op=28
 ·rw [q7,if_pos (by simp [a]),ug4 a,j4];have q:zv5 i P ⟨R,B,S⟩=(exE R,⟨R,B,S⟩):=by unfold zv5;rw [if_neg b,if_neg d,if_neg c,if_neg f,if_neg g,if_pos a]
  have w:0<=(0:Int)/\(0:Int)<=10:=by decide
  have F:((zz0 R 0 != 0)||((R.getD 0 zl6).kind != 1))=decide (exE R≠0):=by
   have:=gb6 R B S P ((k:Int)+1);rw [zt3 R B S P ((k:Int)+1) w] at this;exact this
  rw [zt3 R B S P ((k:Int)+1) w];dsimp only;rw [F,q7,q,if_pos a];by_cases u:exE R=0
  ·rw [if_neg (by simpa using u),gb5 R B S P _ i u,j4,q7,if_neg (show ¬((0:Int) != 0)=true by decide),vq5,if_neg (fun h=>h u)];rfl
  ·rw [if_pos (by simpa using u),gb4 R B S P _ i u];show j8 (exE R != 0) (some (⟨exE R,(k:Int),0,j+1⟩:X.Outcome)) (zr7 (n+1) l 0 0 0 (j+1) R B S P ((k:Int)+1))=_;rw [t (exE R) ⟨R,B,S⟩ ((k:Int)+1),if_pos u,if_pos u]
 rw [q7,if_neg (by simp [a])];by_cases r:i.Op<12
 ·rw [q7,if_pos (by simp [b,d,c,f,g,a,r]),ug5 r,j4,kf7 R B S P _ (m.dst (by omega) (by omega)) (m.src (by omega) (by omega) (by omega)) (A.secV i)];exact o _ _ ((k:Int)+1) (by omega) (by unfold zv5;rw [if_neg b,if_neg d,if_neg c,if_neg f,if_neg g,if_neg a,if_pos r]) fun _=>by unfold yt4;rw [if_neg (by omega),if_neg (by omega)];omega
 ·have K:=m.op;rw [q7,if_neg (by simp [r]),ug6 (by omega),j4,vz6 R B S P _ (m.dst (by omega) (by omega)) (m.src (by omega) (by omega) (by omega))];exact o (brE i R) ⟨R,B,S⟩ (if brJ i R=true then IntKind.i64.wrap ((k:Int)+1+i.Off) else (k:Int)+1) (by omega) (by unfold zv5;rw [if_neg b,if_neg d,if_neg c,if_neg f,if_neg g,if_neg a,if_neg r]) fun _=>by
   unfold yt4;rw [if_neg g,if_pos (show 17<=i.Op/\i.Op<=27 by omega)];split
   ·rw [zb7 (by omega)]
   ·omega
def gz1:Nat->Nat->MS->Int->X.Outcome
 |0,_,_,a=>⟨0,0,0,a⟩
 |f+1,k,s,a=>
  if (zv5 (l.getD k zb2) P s).1≠0 then ⟨(zv5 (l.getD k zb2) P s).1,(k:Int),0,a+1⟩
  else if (l.getD k zb2).Op=28 then ⟨0,0,(rg s.R 0).n,a+1⟩
  else gz1 f ((k:Int)+1+yt4 (l.getD k zb2) s.R).toNat (zv5 (l.getD k zb2) P s).2 (a+1)
theorem kp9 (e:Okay l) (i:ByteL P) (c:P.length<=65535): ∀(f k n s b),k<l.length->l.length<=k+f->MOk s->0<=b->b+f<=1000000->f+1<=n->
  zr7 n l 0 0 0 b s.R s.B s.S P (k:Int)=some (gz1 l P f k s b)
 |0,k,n,s,b,g,o,_,_,_,_=>by omega
 |f+1,k,n,s,b,g,o,m,r,t,u=>by
  obtain ⟨n,rfl⟩: ∃p,n=p+1+1:=⟨n-2,by omega⟩;rw [gg6 l P e i c g m b (by omega) n,gz1];by_cases j:(zv5 (l.getD k zb2) P s).1=0
  ·have d: ¬(zv5 (l.getD k zb2) P s).1≠0:=fun h=>h j;rw [if_neg d,if_neg d];by_cases a:(l.getD k zb2).Op=28
   ·rw [if_pos a,if_pos a]
   ·rw [if_neg a,if_neg a];have q:=vg6 e g a s.R;have:=kp9 e i c f ((k:Int)+1+yt4 (l.getD k zb2) s.R).toNat (n+1) (zv5 (l.getD k zb2) P s).2 (b+1) (by omega) (by omega) (ul3 (rok (yf5 (e.z1 k g))) i m) (by omega) (by omega) (by omega);rw [show ((((k:Int)+1+yt4 (l.getD k zb2) s.R).toNat:Nat):Int)=(k:Int)+1+yt4 (l.getD k zb2) s.R by omega] at this;exact this
  ·rw [if_pos j,if_pos j]
def ms0:MS:=⟨[⟨0,0⟩,⟨2,0⟩,⟨1,(P.length:Int)⟩,⟨0,0⟩,⟨0,0⟩,⟨0,0⟩,⟨0,0⟩,⟨0,0⟩,⟨0,0⟩,⟨0,0⟩,⟨3,0⟩],List.replicate 512 0,List.replicate 512 false⟩
theorem wd0 (b:P.length<=65535):MOk (ms0 P):=by
 refine ⟨rfl,fun v a=>?_,Z9,fun x c=>?_,Z9⟩
 ·have a:v∈ [(⟨0,0⟩:Val),⟨2,0⟩,⟨1,(P.length:Int)⟩,⟨0,0⟩,⟨0,0⟩,⟨0,0⟩,⟨0,0⟩,⟨0,0⟩,⟨0,0⟩,⟨0,0⟩,⟨3,0⟩]:=a;simp only [Z0,J4,or_false] at a;unfold U64;rcases a with h|h|h|h|h|h|h|h|h|h|h<;>subst h<;>simp<;>omega
 ·obtain rfl:=(List.mem_replicate.1 c).2;exact ⟨by decide,by decide⟩
def runAll:X.Outcome:=if (ye3 l).Err≠0 then ⟨(ye3 l).Err,(ye3 l).At,0,0⟩ else if P.length>65535 then ⟨3,0,0,0⟩ else gz1 l P l.length 0 (ms0 P) 0
theorem run_p (g:ByteL P):qr v7 l P=some (runAll l P):=by
 rw [uj6,je1,j4,q7,q7];unfold runAll;by_cases a:(ye3 l).Err=0
 ·rw [if_neg (by simpa using a),if_neg (show ¬(ye3 l).Err≠0 from fun h=>h a)];by_cases c:P.length>65535
  ·rw [if_pos (by simp;omega),if_pos c]
  ·rw [if_neg (by simp;omega),if_neg c];have b:=gd3 a;have d:=b.len;have f:=b.pos;have e:IntKind.u64.wrap ((P.length:Nat):Int)=(P.length:Int):=ji7 ⟨by omega,by omega⟩;rw [e];exact kp9 l P b g (by omega) l.length 0 v7 (ms0 P) 0 (by omega) (by omega) (wd0 P (by omega)) (by omega) (by omega) (by show l.length+1<=1000000000;omega)
 ·rw [if_pos (by simpa using a),if_pos a]
end
end Go.Y.E
namespace Go.Y
open Go.RowKit Go.V Go.X Go.Proofs Go.Y
def zx0 (l:List Int) (o:Nat):Int:=IntKind.i64.wrap ((List.range 8).foldl (fun a i=>bOr .u64 (zm3 .u64 a 8) (IntKind.u64.wrap (l.getD (o+i) 0))) 0)
structure RS where
 o:Nat
 n:Nat
 bad:Bool
abbrev stR (l:List Int) (s:RS):((Nat×Nat)×Bool×Bool×Unit)×List Int×Unit:=(((s.o,s.n),true,s.bad,()),l,())
def gz8 (l o n b k) (h:o+n=l.length):
  qaf v7 l o n true b k=some (if 0<=k/\k<=(n:Int) then (stR l ⟨o+k.toNat,n-k.toNat,b⟩,.inl ((o,k.toNat),())) else (stR l ⟨o,n,b⟩,.inr ((),()))):=by
 rw [wf5,show v7=999999998+1+1 from rfl];have a: ∀c,qd2 (999999998+1+1) k c o n true b l=if c=true then some (stR l ⟨o,n,b⟩,.inr ((),())) else qz8 (999999998+1) k o n true b l:=by
  intro c;rw [vp3,q7]
 rw [a,a,q7];by_cases d:k<0
 ·rw [if_pos (W4 d),if_pos rfl,if_neg (by omega)]
 ·rw [if_neg (by simpa using d)];by_cases e:k>(n:Int)
  ·rw [if_pos (W4 e),if_neg (by omega)]
  ·rw [if_neg (by simpa using e),vp2,if_pos (by omega),if_pos (by omega),if_pos (by omega)];have f:((n:Nat):Int).toNat=n:=by omega
   rw [f,J5,J9]
def ul6 (l b k):
  qae v7 l true b k=some (if 0<=k/\k<=(l.length:Int) then (stR l ⟨0+k.toNat,l.length-k.toNat,b⟩,.inl ((0,k.toNat),())) else (stR l ⟨0,l.length,b⟩,.inr ((),()))):=by
 rw [wf4,show v7=999999998+1+1 from rfl];have a: ∀c,qd1 (999999998+1+1) k c true b l=if c=true then some (stR l ⟨0,l.length,b⟩,.inr ((),())) else qz5 (999999998+1) k true b l:=by
  intro c;rw [vp1,q7]
 rw [a,a,q7];by_cases d:k<0
 ·rw [if_pos (W4 d),if_pos rfl,if_neg (by omega)]
 ·rw [if_neg (by simpa using d)];by_cases e:k>(l.length:Int)
  ·rw [if_pos (W4 e),if_neg (by omega)]
  ·rw [if_neg (by simpa using e),vp0,if_pos (by omega),if_pos (by omega),if_pos (by omega)];have f:((l.length:Nat):Int).toNat=l.length:=by omega
   rw [f,J5,W7]
def zx7 {b} (f:b->Nat->b) (a:b) (n:Nat):(List.range (n+1)).foldl f a=f ((List.range n).foldl f a) n:=by
 rw [List.range_succ,List.foldl_append];rfl
def uh2 (l o s) (h:o+8<=l.length) (c:l.length<=1000000):yl0 v7 0 o 8 8 0 s.o s.n true s.bad l=some (stR l s,.inl (zx0 l o,())):=by
 refine qc1 (fun n k=>yl0 n ((List.range k).foldl (fun a i=>bOr .u64 (zm3 .u64 a 8) (IntKind.u64.wrap (l.getD (o+i) 0))) 0) o 8 8 (k:Int) s.o s.n true s.bad l) 1 8 _ (fun n k b=>?_) (fun n=>?_) v7 (by decide)
 ·show yl0 (n+1) _ o 8 8 (k:Int) s.o s.n true s.bad l=yl0 n _ o 8 8 ((k+1:Nat):Int) s.o s.n true s.bad l;rw [ju6,W4 (by omega),j9,if_pos (by omega),if_pos (by omega),nx (len:=8) b (by omega),zx7,show (k:Int).toNat=k by omega]
 ·show yl0 (n+1) _ o 8 8 ((8:Nat):Int) s.o s.n true s.bad l=_;rw [ju6,W5 (by omega),j6];rfl
def uh1 (l o s) (h:o+8<=l.length) (c:l.length<=1000000):yk9 v7 0 o 8 8 0 s.o s.n true s.bad l=some (stR l s,.inl (zx0 l o,())):=by
 refine qc1 (fun n k=>yk9 n ((List.range k).foldl (fun a i=>bOr .u64 (zm3 .u64 a 8) (IntKind.u64.wrap (l.getD (o+i) 0))) 0) o 8 8 (k:Int) s.o s.n true s.bad l) 1 8 _ (fun n k b=>?_) (fun n=>?_) v7 (by decide)
 ·show yk9 (n+1) _ o 8 8 (k:Int) s.o s.n true s.bad l=yk9 n _ o 8 8 ((k+1:Nat):Int) s.o s.n true s.bad l;rw [ju5,W4 (by omega),j9,if_pos (by omega),if_pos (by omega),nx (len:=8) b (by omega),zx7,show (k:Int).toNat=k by omega]
 ·show yk9 (n+1) _ o 8 8 ((8:Nat):Int) s.o s.n true s.bad l=_;rw [ju5,W5 (by omega),j6];rfl
def gd2 (l s) (h:s.o+s.n=l.length) (b:l.length<=1000000):
  qao v7 l s.o s.n true s.bad=some (if 8<=s.n then (stR l ⟨s.o+8,s.n-8,s.bad⟩,.inl (zx0 l s.o,())) else (stR l s,.inr ((),()))):=by
 rw [wh1,gz8 l s.o s.n s.bad 8 h];by_cases a:8<=s.n
 ·rw [if_pos a,if_pos (by omega),j4];exact uh2 l s.o ⟨s.o+8,s.n-8,s.bad⟩ (by omega) b
 ·rw [if_neg a,if_neg (by omega),j4]
def gd1 (l b) (c:l.length<=1000000):
  qan v7 l true b=some (if 8<=l.length then (stR l ⟨0+8,l.length-8,b⟩,.inl (zx0 l 0,())) else (stR l ⟨0,l.length,b⟩,.inr ((),()))):=by
 rw [wh0,ul6 l b 8];by_cases a:8<=l.length
 ·rw [if_pos a,if_pos (by omega),j4];exact uh1 l 0 ⟨0+8,l.length-8,b⟩ (by omega) c
 ·rw [if_neg a,if_neg (by omega),j4]
def zp7 (l:List Int) (s:RS):Int×RS:=if s.bad=true then (0,s) else if 8<=s.n then (zx0 l s.o,⟨s.o+8,s.n-8,false⟩) else (0,⟨s.o,s.n,true⟩)
def zb3 (l:List Int) (s:RS):List Int×RS:=if s.bad=true then ([],s) else if 8<=s.n then
  (if 0<=zx0 l s.o/\zx0 l s.o<=((s.n-8:Nat):Int) then ((l.drop (s.o+8)).take (zx0 l s.o).toNat,⟨s.o+8+(zx0 l s.o).toNat,s.n-8-(zx0 l s.o).toNat,false⟩) else ([],⟨s.o+8,s.n-8,true⟩))
 else ([],⟨s.o,s.n,true⟩)
def okR (l:List Int) (s:RS):Prop:=s.o+s.n=l.length
def qo4 {l s} (h:okR l s):okR l (zp7 l s).2:=by
 unfold zp7 okR at *;split
 ·exact h
 ·split
  ·show s.o+8+(s.n-8)=_;omega
  ·exact h
def yc8 {l s} (h:okR l s):okR l (zb3 l s).2:=by
 unfold zb3 okR at *;split
 ·exact h
 ·split
  ·split
   ·show s.o+8+(zx0 l s.o).toNat+(s.n-8-(zx0 l s.o).toNat)=_;omega
   ·show s.o+8+(s.n-8)=_;omega
  ·exact h
def yp1 (l) (b:l.length<=1000000):qct v7 l true false=some (stR l (zp7 l ⟨0,l.length,false⟩).2,((zp7 l ⟨0,l.length,false⟩).1,())):=by
 rw [wn7,wk0,wm8,show (!true)=false from rfl,j6,j4];show j7 (j8 false _ (j7 (qdl v7 l true false) _)) _=_;rw [j6,wr1,gd1 l false b,j4];rw [show zp7 l ⟨0,l.length,false⟩=if 8<=l.length then (zx0 l 0,⟨0+8,l.length-8,false⟩) else (0,⟨0,l.length,true⟩) from if_neg (by simp)];by_cases a:8<=l.length
 ·rw [if_pos a,if_pos a];dsimp only;rw [j4];dsimp only;rw [wl7,j4,j4]
 ·rw [if_neg a,if_neg a];dsimp only;rw [j4];dsimp only;rw [wl8,j4,j4]
def wa7 (l s) (h:okR l s) (c:l.length<=1000000):
  qef v7 l s.o s.n true s.bad=some (if 8<=s.n then (if 0<=zx0 l s.o/\zx0 l s.o<=((s.n-8:Nat):Int) then (stR l ⟨s.o+8+(zx0 l s.o).toNat,s.n-8-(zx0 l s.o).toNat,s.bad⟩,.inl ((l.drop (s.o+8)).take (zx0 l s.o).toNat,())) else (stR l ⟨s.o+8,s.n-8,s.bad⟩,.inr ((),()))) else (stR l s,.inr ((),()))):=by
 unfold okR at h;rw [wu9,gd2 l s h c,j4];by_cases a:8<=s.n
 ·rw [if_pos a,if_pos a];dsimp only;rw [gz8 l (s.o+8) (s.n-8) s.bad _ (by omega),j4];by_cases b:0<=zx0 l s.o/\zx0 l s.o<=((s.n-8:Nat):Int)
  ·rw [if_pos b,if_pos b];dsimp only;rw [if_pos (by omega),if_pos (by rw [Y6];omega),J8]
  ·rw [if_neg b,if_neg b]
 ·rw [if_neg a,if_neg a]
def zn2 (l s) (h:okR l s) (d:l.length<=1000000):qbu v7 l s.o s.n true s.bad=some (stR l (zb3 l s).2,((zb3 l s).1,())):=by
 rw [wl6,wk3,kn4,show (!true)=false from rfl,j6,j4];obtain ⟨o,n,b⟩:=s;cases b with
 |true=>rfl
 |false=>
  rw [show zb3 l ⟨o,n,false⟩=if 8<=n then (if 0<=zx0 l o/\zx0 l o<=((n-8:Nat):Int) then ((l.drop (o+8)).take (zx0 l o).toNat,⟨o+8+(zx0 l o).toNat,n-8-(zx0 l o).toNat,false⟩) else ([],⟨o+8,n-8,true⟩)) else ([],⟨o,n,true⟩) from if_neg (by simp)];dsimp only;rw [j6,wu6];have:=wa7 l ⟨o,n,false⟩ h d;dsimp only at this;rw [this,j4];by_cases a:8<=n
  ·rw [if_pos a,if_pos a];by_cases c:0<=zx0 l o/\zx0 l o<=((n-8:Nat):Int)
   ·rw [if_pos c,if_pos c];dsimp only;rw [j4];dsimp only;rw [wl9,j4,j4]
   ·rw [if_neg c,if_neg c];dsimp only;rw [j4];dsimp only;rw [km6,j4,j4]
  ·rw [if_neg a,if_neg a];dsimp only;rw [j4];dsimp only;rw [km6,j4,j4]
structure Gt where
 v:Int
 c:List Int
 d:List Int
 t:List Int
 s:RS
def zv4 (l:List Int):Gt:=
 let a:=zp7 l ⟨0,l.length,false⟩
 let b:=zb3 l a.2
 let c:=zb3 l b.2
 let d:=zb3 l c.2
 ⟨a.1,b.1,c.1,d.1,d.2⟩
def okG (g:Gt):Bool:= !g.s.bad&&(g.s.n==0)&&(decide (1<=g.v)&&decide (g.v<=1073741824))&&decide (g.c.length<=32768)&&(decide (g.d.length=32)&&decide (g.t.length=32))
def ye1 (b e):qbo v7 b e=some ((),if b=true then .inr (e,()) else .inl ()):=by
 rw [wl2,q7];cases b<;>rfl
def je1 (v c d t): ∃z,qar v7 v c d t=some ((c,d,t,()),z)/\((z=.inl ()/\((decide (1<=v)&&decide (v<=1073741824))&&decide (c.length<=32768)&&(decide (d.length=32)&&decide (t.length=32)))=true)\/ ∃e:Int,z=.inr (e,())/\e≠0/\((decide (1<=v)&&decide (v<=1073741824))&&decide (c.length<=32768)&&(decide (d.length=32)&&decide (t.length=32)))=false):=by
 rw [wh4];by_cases a:v<1
 ·rw [W4 a,j9,ye1,j4];exact ⟨_,rfl,.inr ⟨2,rfl,by decide,by rw [W5 (by omega: ¬1<=v)];rfl⟩⟩
 ·rw [W5 a,j6,ye1,j4];by_cases b:v>1073741824
  ·rw [W4 b,if_pos rfl];exact ⟨_,rfl,.inr ⟨2,rfl,by decide,by rw [W5 (by omega: ¬v<=1073741824),Bool.and_false];rfl⟩⟩
  ·rw [W5 b,if_neg (by simp)];dsimp only;rw [show v7=999999999+1 from rfl,vp8,ye1,j4,W4 (by omega:1<=v),W4 (by omega:v<=1073741824)];by_cases f:((c.length:Nat):Int)>32768
   ·rw [W4 f,if_pos rfl];exact ⟨_,rfl,.inr ⟨3,rfl,by decide,by rw [W5 (by omega: ¬c.length<=32768)];rfl⟩⟩
   ·rw [W5 f,if_neg (by simp),W4 (by omega:c.length<=32768)];dsimp only;by_cases g:d.length=32
    ·rw [g,show (((32:Nat):Int) != 32)=false from rfl,j6,ye1,j4,W4 rfl];by_cases h:t.length=32
     ·rw [h,show (((32:Nat):Int) != 32)=false from rfl,if_neg (by simp)];exact ⟨_,rfl,.inl ⟨rfl,rfl⟩⟩
     ·rw [show (((t.length:Nat):Int) != 32)=true by simp;omega,if_pos rfl,W5 h];exact ⟨_,rfl,.inr ⟨4,rfl,by decide,rfl⟩⟩
    ·rw [show (((d.length:Nat):Int) != 32)=true by simp;omega,j9,ye1,j4,if_pos rfl,W5 g];exact ⟨_,rfl,.inr ⟨4,rfl,by decide,rfl⟩⟩
def ki2 (l s):qcs v7 l s.o s.n true s.bad=some (stR l s,((!s.bad&&(s.n==0)),())):=by
 rw [wn6,kn4,show (!true)=false from rfl,j6,j4];obtain ⟨o,n,b⟩:=s;cases b with
 |true=>rfl
 |false=>
  show j8 (!false) (some (_,(((n:Nat):Int)==0),())) _=some (_,(n==0),());rw [show (!false)=true from rfl,j9];have:(((n:Nat):Int)==0)=(n==0):=by
   cases n with
   |zero=>rfl
   |succ n=>simp;omega
  rw [this]
def get_p (l) (g:l.length<=1000000):qcu v7 l=some (if okG (zv4 l)=true then ((⟨(zv4 l).v,(zv4 l).c,(zv4 l).d,(zv4 l).t⟩:Bundle),0) else ((⟨0,[],[],[]⟩:Bundle),4)):=by
 have o:okR l ⟨0,l.length,false⟩:=W7 _;have k:=qo4 o;have m:=yc8 k;have p:=yc8 m;have q:=yp1 l g;have r:=zn2 l _ k g;have s:=zn2 l _ m g;have u:=zn2 l _ p g;rw [show zv4 l=⟨(zp7 l ⟨0,l.length,false⟩).1,(zb3 l (zp7 l ⟨0,l.length,false⟩).2).1,(zb3 l (zb3 l (zp7 l ⟨0,l.length,false⟩).2).2).1,(zb3 l (zb3 l (zb3 l (zp7 l ⟨0,l.length,false⟩).2).2).2).1,(zb3 l (zb3 l (zb3 l (zp7 l ⟨0,l.length,false⟩).2).2).2).2⟩ from rfl];generalize zp7 l ⟨0,l.length,false⟩=a at *;generalize zb3 l a.2=b at *;generalize zb3 l b.2=c at *;generalize zb3 l c.2=d at *;have w: ∃z,qcg v7 l=some (((l,()),()),z)/\((okG ⟨a.1,b.1,c.1,d.1,d.2⟩=true/\z=.inl ((a.1,b.1,c.1,d.1,()),()))\/(okG ⟨a.1,b.1,c.1,d.1,d.2⟩=false/\ ∃e:Int,z=.inr (e,())/\e≠0)):=by
  rw [wm5,wu5,if_pos (by omega),j4];dsimp only;rw [J8,q,j4];dsimp only;rw [r,j4];dsimp only;rw [s,j4];dsimp only;rw [u,j4];dsimp only;rw [ki2,j4];dsimp only;rw [ye1,j4];unfold okG;dsimp only;cases hd:(!d.2.bad&&(d.2.n==0)) with
  |false=>
   rw [show (!false)=true from rfl,if_pos rfl];exact ⟨_,rfl,.inr ⟨by simp,4,rfl,by decide⟩⟩
  |true=>
   rw [show (!true)=false from rfl,if_neg (by simp)];dsimp only;obtain ⟨z,i,f⟩:=je1 a.1 b.1 c.1 d.1;rw [i,j4];rcases f with ⟨rfl,h⟩|⟨e,rfl,j,h⟩
   ·exact ⟨_,rfl,.inl ⟨by rw [M4];exact h,rfl⟩⟩
   ·exact ⟨_,rfl,.inr ⟨by rw [M4];exact h,e,rfl,j⟩⟩
 obtain ⟨z,i,f⟩:=w;rw [wn8,wh5,i,j4];rcases f with ⟨h,rfl⟩|⟨h,e,rfl,j⟩
 ·rw [h,if_pos rfl];dsimp only;rw [km2,j4,j4];rfl
 ·rw [h,if_neg (by simp)];dsimp only;rw [km3,j4,j4];dsimp only;rw [show (e != 0)=true by simpa using j,j9]
def bdP (v:Int) (l:List Int):Bool:=okG (zv4 l)&&((zv4 l).v==v)
def vl2 (v l) (a:l.length<=1000000):qdx v7 v l=some (bdP v l):=by
 rw [wt5,get_p l a,j4];unfold bdP;cases okG (zv4 l) with
 |true=>rw [if_pos rfl];rfl
 |false=>rw [if_neg (by simp)];rfl
end Go.Y
namespace Go.Y
open Go.RowKit Go.V Go.X Go.Proofs Go.Y
structure Mc where
 sv:Int
 held:List (Int×List Int)
 act:Int
 bef:Int
 roll:Int
 yes:List (Int×Bool)
 no:Bool
abbrev jl9 (m:List (Int×List Int)) (v:Int):List Int:=yg7 TT (.list (.int .u8)) m v
abbrev pmc (m:Mc):(Int×Unit×Int×Int×Int×Unit×Bool×Unit)×List (Int×List Int)×List (Int×Bool)×Unit:=((m.sv,(),m.act,m.bef,m.roll,(),m.no,()),m.held,m.yes,())
def inB (v:Int) (k:Int):Bool:=decide (1<=v)&&decide (v<=k)
def vx9 (m:Mc) (e:Entry):Mc×Int:=
 if inB e.Version 1073741824=false then (m,2) else if bdP e.Version e.Data=false then (m,4) else
 if ye0 m.held e.Version=true/\jl9 m.held e.Version≠e.Data then (m,7) else ({m with held:=zm9 m.held e.Version e.Data},0)
def kk2 (m:Mc) (e:Entry):Mc×Int:=
 if ye0 m.held e.Version=false then (m,6) else if m.roll≠0 then (m,8) else if e.Version=m.act then (m,7) else ({m with roll:=e.Version},0)
def vd2 (m:Mc) (e:Entry):Mc×Int:=
 if e.Version<1\/e.Version≠m.roll then (m,6) else if inB e.Server m.sv=false then (m,2) else
 if e.Good=true then ({m with yes:=zm9 m.yes e.Server true},0) else ({m with no:=true},0)
def yo3 (m:Mc):Mc:= {m with roll:=0,no:=false,yes:= []}
def vd3 (m:Mc) (e:Entry):Mc×Int:=
 if e.Version<1\/e.Version≠m.roll then (m,6) else if m.no=true\/(m.yes.length:Int)<m.sv then (m,8) else (yo3 {m with bef:=m.act,act:=e.Version},0)
def qp4 (m:Mc) (e:Entry):Mc×Int:=
 if e.Version<1\/(e.Version≠m.roll/\e.Version≠m.act) then (m,6) else
 if e.Version=m.act then (if m.roll=m.bef then (yo3 {m with act:=m.bef,bef:=0},0) else ({m with act:=m.bef,bef:=0},0)) else (yo3 m,0)
def jq5 (m:Mc) (e:Entry):Mc×Int:=
 if e.Kind=1 then (m,0) else if e.Kind=2 then vx9 m e else if e.Kind=3 then kk2 m e else if e.Kind=4 then vd2 m e else if e.Kind=5 then vd3 m e else if e.Kind=6 then qp4 m e else (m,2)
def yb5 (v k):qcb v7 v k=some (inB v k):=by
 rw [wm2,q7];unfold inB;by_cases h:1<=v
 ·rw [W4 h,if_pos rfl,M4]
 ·rw [W5 h,if_neg (by simp),Bool.false_and]
def yt0 (x) (h:x.length<=1000000):qbd v7 x=some x:=by
 rw [wj9,if_pos (by omega),J8];cases x with
 |nil=>exact vn8 _ _
 |cons a r=>rfl
def je3 (a b) (h:b.length<=1000000):qak v7 a b=some (decide (a=b)):=by
 rw [wg4];by_cases g:a.length=b.length
 ·rw [show (((a.length:Nat):Int) != ((b.length:Nat):Int))=false by simp;omega,j6];have d:=gk2 (fun n k=>yk8 n a b ((a.length:Nat):Int) (k:Int)) 1 a.length (fun k=>some (decide (a.drop k=b.drop k))) (fun n k f=>?_) (fun n=>?_) a.length 0 v7 (by omega) (by show 1*a.length+1<=1000000000;omega)
  ·simpa using d
  ·show yk8 (n+1) a b ((a.length:Nat):Int) (k:Int)=_\/(yk8 (n+1) a b ((a.length:Nat):Int) (k:Int)=yk8 n a b ((a.length:Nat):Int) ((k+1:Nat):Int)/\_);rw [ju1,W4 (by omega),j9,if_pos (by omega),if_pos (by omega),nx f (by omega)];have i:a.drop k=a[k]::a.drop (k+1):=U3 f;have j:b.drop k=b[k]::b.drop (k+1):=U3 (by omega);have o:a.getD (k:Int).toNat 0=a[k]:=by rw [Y2,show (k:Int).toNat=k by omega,Y0 f];rfl
   have p:b.getD (k:Int).toNat 0=b[k]:=by rw [Y2,show (k:Int).toNat=k by omega,Y0 (by omega)];rfl
   rw [o,p,i,j];by_cases c:a[k]=b[k]
   ·right;rw [show (a[k] != b[k])=false by simpa using c,j6];refine ⟨rfl,?_⟩;congr 1;rw [decide_eq_decide,c];exact ⟨fun h=>(List.cons.inj h).2,fun h=>by rw [h]⟩
   ·left;rw [show (a[k] != b[k])=true by simpa using c,j9];congr 1
    symm
    rw [decide_eq_false_iff_not];exact fun h=>c (List.cons.inj h).1
  ·show yk8 (n+1) a b ((a.length:Nat):Int) ((a.length:Nat):Int)=_;rw [ju1,W5 (by omega),j6,V4 (W6 _),V4 (by omega)];rfl
 ·rw [show (((a.length:Nat):Int) != ((b.length:Nat):Int))=true by simp;omega,j9,W5 (fun e=>g (by rw [e]))]
def uk9 (m e) (h:e.Data.length<=1000000):qbc v7 m.sv m.held m.act m.bef m.roll m.yes m.no e=some (pmc (vx9 m e).1,((vx9 m e).2,())):=by
 have b: ∀c,qd9 v7 c m.sv m.act m.bef m.roll m.no m.held m.yes e.Term e.Kind e.Version e.Server e.Good e.Data=if c=true then some (pmc m,((7:Int),())) else some (pmc {m with held:=zm9 m.held e.Version e.Data},((0:Int),())):=by
  intro c;rw [show v7=999999999+1 from rfl,vq2,yt0 _ h,j4,q7]
 rw [wj7,yb5,j4,vl2 _ _ h,j4,(je3 _ _ h:qak v7 (yg7 TT (.list (.int .u8)) m.held e.Version) e.Data=some (decide (jl9 m.held e.Version=e.Data))),j4,b,b];unfold vx9;cases inB e.Version 1073741824 with
 |false=>rfl
 |true=>
  cases bdP e.Version e.Data with
  |false=>rfl
  |true=>
   show j8 (ye0 m.held e.Version) _ _=_;have d: ∀x y:Mc×Int,(if true=false then x else y)=y:=fun x y=>if_neg (by simp);rw [d,d];cases ye0 m.held e.Version with
   |false=>rfl
   |true=>
    rw [j9];by_cases a:jl9 m.held e.Version=e.Data
    ·rw [W4 a,if_neg (by simp),if_neg (fun f=>f.2 a)]
    ·rw [W5 a,if_pos (show (!false)=true from rfl),if_pos ⟨rfl,a⟩]
def uh6 (m e):qdw v7 m.sv m.held m.act m.bef m.roll m.yes m.no e=some (pmc (kk2 m e).1,((kk2 m e).2,())):=by
 rw [wt3];unfold kk2;cases ye0 m.held e.Version with
 |false=>rfl
 |true=>
  rw [show (!true)=false from rfl,j6,if_neg (by simp)];by_cases a:m.roll=0
  ·rw [show (m.roll != 0)=false by simpa using a,j6,if_neg (fun h=>h a)];by_cases b:e.Version=m.act
   ·rw [show (e.Version==m.act)=true by simpa using b,j9,if_pos b]
   ·rw [show (e.Version==m.act)=false by simpa using b,j6,if_neg b]
  ·rw [show (m.roll != 0)=true by simpa using a,j9,if_pos a]
def uf1 (m e):qbb v7 m.sv m.held m.act m.bef m.roll m.yes m.no e=some (pmc (vd2 m e).1,((vd2 m e).2,())):=by
 have j: ∀c,qd8 v7 c m.sv m.act m.bef m.roll m.no m.held m.yes e.Term e.Kind e.Version e.Server e.Good e.Data=if c=true then some (pmc m,((6:Int),())) else if inB e.Server m.sv=false then some (pmc m,((2:Int),())) else if e.Good=true then some (pmc {m with yes:=zm9 m.yes e.Server true},((0:Int),())) else some (pmc {m with no:=true},((0:Int),())):=by
  intro c;rw [show v7=999999999+1 from rfl,vq1,yb5,j4];generalize inB e.Server m.sv=b;generalize e.Good=g;cases c<;>cases b<;>cases g<;>rfl
 rw [wj5,j,j,q7];by_cases a:e.Version<1
 ·rw [if_pos (W4 a),if_pos rfl,show vd2 m e=(m,6) from if_pos (.inl a)]
 ·rw [if_neg (by simpa using a)];by_cases d:e.Version=m.roll
  ·rw [show (e.Version != m.roll)=false by simpa using d,if_neg (show ¬(false=true) by simp),show vd2 m e=_ from if_neg (by rintro (h|h);exact a h;exact h d)];by_cases f:inB e.Server m.sv=false
   ·rw [if_pos f,if_pos f]
   ·rw [if_neg f,if_neg f];by_cases i:e.Good=true
    ·rw [if_pos i,if_pos i]
    ·rw [if_neg i,if_neg i]
  ·rw [show (e.Version != m.roll)=true by simpa using d,if_pos rfl,show vd2 m e=(m,6) from if_pos (.inr d)]
def uf2 (m e):qaj v7 m.sv m.held m.act m.bef m.roll m.yes m.no e=some (pmc (vd3 m e).1,((vd3 m e).2,())):=by
 have d: ∀c,qd5 999999999 c m.sv m.act m.bef m.roll m.no m.held m.yes e.Term e.Kind e.Version e.Server e.Good e.Data=if c=true then some (pmc m,((8:Int),())) else some (pmc (yo3 {m with bef:=m.act,act:=e.Version}),((0:Int),())):=by
  intro c;rw [show (999999999:Nat)=999999998+1 from rfl,vp7,q7,vc0];rfl
 have g: ∀c,qd4 v7 c m.sv m.act m.bef m.roll m.no m.held m.yes e.Term e.Kind e.Version e.Server e.Good e.Data=if c=true then some (pmc m,((6:Int),())) else if m.no=true\/(m.yes.length:Int)<m.sv then some (pmc m,((8:Int),())) else some (pmc (yo3 {m with bef:=m.act,act:=e.Version}),((0:Int),())):=by
  intro c;rw [show v7=999999999+1 from rfl,vp6,d,d,q7,q7,if_pos rfl];congr 1;by_cases a:m.no=true
  ·rw [if_pos a,if_pos (.inl a)]
  ·rw [if_neg a];by_cases b:(m.yes.length:Int)<m.sv
   ·rw [if_pos (W4 b),if_pos (.inr b)]
   ·rw [if_neg (by simpa using b),if_neg (by rintro (h|h);exact a h;exact b h)]
 rw [wg2,g,g,q7];by_cases a:e.Version<1
 ·rw [if_pos (W4 a),if_pos rfl,show vd3 m e=(m,6) from if_pos (.inl a)]
 ·rw [if_neg (by simpa using a)];by_cases b:e.Version=m.roll
  ·rw [show (e.Version != m.roll)=false by simpa using b,if_neg (show ¬(false=true) by simp),show vd3 m e=_ from if_neg (by rintro (h|h);exact a h;exact h b)];by_cases f:m.no=true\/(m.yes.length:Int)<m.sv
   ·rw [if_pos f,if_pos f]
   ·rw [if_neg f,if_neg f]
  ·rw [show (e.Version != m.roll)=true by simpa using b,if_pos rfl,show vd3 m e=(m,6) from if_pos (.inr b)]
def ul1 (m e):qax v7 m.sv m.held m.act m.bef m.roll m.yes m.no e=some (pmc (qp4 m e).1,((qp4 m e).2,())):=by
 have j: ∀c,jm8 v7 c m.sv m.act m.bef m.roll m.no m.held m.yes e.Term e.Kind e.Version e.Server e.Good e.Data=if c=true then some (pmc m,((6:Int),())) else
   if e.Version=m.act then (if m.roll=m.bef then some (pmc (yo3 {m with act:=m.bef,bef:=0}),((0:Int),())) else some (pmc {m with act:=m.bef,bef:=0},((0:Int),()))) else some (pmc (yo3 m),((0:Int),())):=by
  intro c;rw [show v7=999999999+1 from rfl,vp9,vc0,vc0,q7,q7,q7];congr 1;by_cases a:e.Version=m.act
  ·rw [if_pos (by simpa using a),if_pos a];by_cases b:m.roll=m.bef
   ·rw [if_pos (by simpa using b),if_pos b];rfl
   ·rw [if_neg (by simpa using b),if_neg b]
  ·rw [if_neg (by simpa using a),if_neg a];rfl
 rw [wi5,j,j,j,q7,q7];by_cases a:e.Version<1
 ·rw [if_pos (W4 a),if_pos rfl,show qp4 m e=(m,6) from if_pos (.inl a)]
 ·rw [if_neg (by simpa using a)];have d: ¬(e.Version<1\/(e.Version≠m.roll/\e.Version≠m.act))->(if e.Version=m.act then (if m.roll=m.bef then some (pmc (yo3 {m with act:=m.bef,bef:=0}),((0:Int),())) else some (pmc {m with act:=m.bef,bef:=0},((0:Int),()))) else some (pmc (yo3 m),((0:Int),())))=some (pmc (qp4 m e).1,((qp4 m e).2,())):=by
   intro o;rw [show qp4 m e=_ from if_neg o];by_cases f:e.Version=m.act
   ·rw [if_pos f,if_pos f];by_cases g:m.roll=m.bef
    ·rw [if_pos g,if_pos g]
    ·rw [if_neg g,if_neg g]
   ·rw [if_neg f,if_neg f]
  have n: ¬(false=true):=by simp
  by_cases b:e.Version=m.roll
  ·rw [if_neg (by simpa using b),if_neg n];exact d (by rintro (h|h);exact a h;exact h.1 b)
  ·rw [if_pos (by simpa using b)];by_cases i:e.Version=m.act
   ·rw [show (e.Version != m.act)=false by simpa using i,if_neg n];exact d (by rintro (h|h);exact a h;exact h.2 i)
   ·rw [show (e.Version != m.act)=true by simpa using i,if_pos rfl,show qp4 m e=(m,6) from if_pos (.inr ⟨b,i⟩)]
def uf5 (m e) (a:0<m.sv) (h:e.Data.length<=1000000):qdk v7 m.sv m.held m.act m.bef m.roll m.yes m.no e=some (pmc (jq5 m e).1,((jq5 m e).2,())):=by
 rw [wq9,vb7,W4 a,j4];dsimp only;rw [show (!true)=false from rfl,j6,ub3,uk9 m e h,uh6,uf1,uf2,ul1];unfold jq5;split
 ·rfl
 ·split
  ·rfl
  ·split
   ·rfl
   ·split
    ·rfl
    ·split
     ·rfl
     ·split<;>rfl
def yg3 {c:Type} {x:Int} {a:c}: ∀ {m:List (Int×c)} {p:Int×c},p∈zm9 m x a->p=(x,a)\/p∈m
 | [],p,h=>by simpa [zm9] using h
 |(y,b)::r,p,h=>by
  unfold zm9 at h;split at h
  ·rcases Z0.1 h with h|h
   ·exact .inl h
   ·exact .inr (Z4 _ h)
  ·rcases Z0.1 h with h|h
   ·exact .inr (by rw [h];exact U2 ..)
   ·rcases yg3 h with h|h
    ·exact .inl h
    ·exact .inr (Z4 _ h)
def jj5 {c} (x a): ∀m:List (Int×c),(zm9 m x a).length<=m.length+1
 | []=>by simp [zm9]
 |(y,b)::r=>by
  unfold zm9;split
  ·simp
  ·have:=jj5 x a r;simp;omega
def yf9 {P:List Int->Prop} (a:P []) (x:Int): ∀ {m:List (Int×List Int)},(∀p∈m,P p.2)->P (jl9 m x)
 | [],_=>a
 |(y,b)::r,h=>by
  show P (if x=y then b else jl9 r x);split
  ·exact h _ (U2 ..)
  ·exact yf9 a x fun p c=>h p (Z4 _ c)
structure okM (m:Mc) (c:Nat):Prop where
 sv:1<=m.sv/\m.sv<=7
 hb: ∀p∈m.held,1<=p.1/\p.1<=1073741824
 dl: ∀p∈m.held,p.2.length<=9000
 hl:m.held.length<=c
 yb: ∀p∈m.yes,1<=p.1/\p.1<=7
 yl:m.yes.length<=c
def vt7 (m:Mc) (v:Int):Held:=⟨v,jl9 m.held v⟩
def vc8 (m:Mc):Registry:=⟨(zm7 (m.held.map Prod.fst)).map (vt7 m),m.act,m.bef,m.roll,zm7 (m.yes.map Prod.fst),m.no⟩
def js2 {a} {m:List (Int×a)} (h: ∀p∈m,1<=p.1/\p.1<=1073741824) (c:m.length<=1000):yp4 m=true:=by
 unfold yp4;rw [X3,Y8];refine ⟨fun p b=>?_,W3 (by omega)⟩;have:=h p b;rw [X3,decide_eq_true_eq,decide_eq_true_eq];omega
def qq2 {a} {m:List (Int×a)} (h:yp4 m=true):zj3 m=some ((((),()),m,()),zm7 (m.map Prod.fst),()):=by unfold zj3;rw [h]
def vr6 (l):(zm7 l).length=l.length:=(zo7 l).length_eq
def gg8 (m) {c} (h:okM m c) (f:c<=1000):qv v7 m.sv m.held m.act m.bef m.roll m.yes m.no=some (pmc m,(vc8 m,())):=by
 have o:=js2 h.hb (W9 h.hl f);have q:=js2 (fun p g=>by have:=h.yb p g;omega) (W9 h.yl f);rw [uk1,vb7,W4 (by have:=h.sv;omega),j4];dsimp only;rw [show (!true)=false from rfl,j6,ua9,j4];dsimp only;rw [qq2 q,j4,ub1,j4];dsimp only;rw [qq2 o,j4];dsimp only;have a:(zm7 (m.held.map Prod.fst)).length<=1000:=by rw [vr6,V0];exact W9 h.hl f
 have i:vc8 m=⟨(zm7 (m.held.map Prod.fst)).map (vt7 m),m.act,m.bef,m.roll,zm7 (m.yes.map Prod.fst),m.no⟩:=rfl;rw [i];generalize zm7 (m.held.map Prod.fst)=ks at a;generalize zm7 (m.yes.map Prod.fst)=ys;have b: ∀v,qbd v7 (yg7 TT (.list (.int .u8)) m.held v)=some (jl9 m.held v):=fun v=>yt0 _ (yf9 (P:=fun l=>l.length<=1000000) (by simp) v fun p g=>by have:=h.dl p g;omega);have d:=loop (fun n k=>yq0 n ((ks.length:Nat):Int) (k:Int) m.sv m.act m.bef m.roll m.no m.held m.yes 0 0 0 false m.act m.bef m.roll m.no ks [] [] ((ks.take k).map (vt7 m)) ys) 1 ks.length (some (pmc m,((⟨ks.map (vt7 m),m.act,m.bef,m.roll,ys,m.no⟩:Registry),()))) (fun n k j=>?_) (fun n=>?_)
 ·cases hks:ks with
  |nil=>
   rw [show v7=999999999+1 from rfl,qn2,W5 (by simp),j6];rfl
  |cons s r=>
   rw [hks] at d a;have e:(s::r).length=r.length+1:=rfl;rw [show v7=999999999+1 from rfl,qn2,W4 (by rw [e];omega),j9,if_pos (by rw [e];omega),b,j4,if_pos (by decide)];have:=d r.length 1 999999999 (by rw [e];omega) (by rw [e] at a;omega);exact this
 ·show yq0 (n+1) ((ks.length:Nat):Int) (k:Int) _ _ _ _ _ _ _ _ _ _ _ _ _ _ _ _ _ _ _ _=yq0 n ((ks.length:Nat):Int) ((k+1:Nat):Int) _ _ _ _ _ _ _ _ _ _ _ _ _ _ _ _ _ _ _ _;rw [jv2,W4 (by omega),j9,if_pos (by omega),b,j4,if_pos (by rw [V0,Y6];omega),nx j (by omega)];have t:ks.getD (k:Int).toNat 0=ks[k]:=by rw [Y2,show (k:Int).toNat=k by omega,Y0 j];rfl
  rw [t,List.take_succ_eq_append_getElem j,V6];rfl
 ·show yq0 (n+1) ((ks.length:Nat):Int) ((ks.length:Nat):Int) _ _ _ _ _ _ _ _ _ _ _ _ _ _ _ _ _ _ _ _=_;rw [jv2,W5 (by omega),j6,M2]
def okM.more {m c} (h:okM m c):okM m (c+1):=⟨h.sv,h.hb,h.dl,J6 h.hl,h.yb,J6 h.yl⟩
def qk3 {v k} (h:inB v k≠false):1<=v/\v<=k:=by
 unfold inB at h;rw [ne_eq,Bool.not_eq_false,X3,decide_eq_true_eq,decide_eq_true_eq] at h;exact h
def okM.reg {m c} (h:okM m c) {e} (b:e.Data.length<=9000):okM (vx9 m e).1 (c+1):=by
 unfold vx9;split
 ·exact h.more
 ·rename_i d;split
  ·exact h.more
  ·split
   ·exact h.more
   ·refine ⟨h.sv,fun p a=>?_,fun p a=>?_,W9 (jj5 _ _ _) (Nat.succ_le_succ h.hl),h.yb,J6 h.yl⟩
    ·rcases yg3 a with rfl|a
     ·exact qk3 d
     ·exact h.hb p a
    ·rcases yg3 a with rfl|a
     ·exact b
     ·exact h.dl p a
def okM.app {m c} (h:okM m c) {e} (g:e.Data.length<=9000):okM (jq5 m e).1 (c+1):=by
 have a: ∀b:Mc,b.sv=m.sv->b.held=m.held->okM (yo3 b) (c+1):=fun b i d=>
  ⟨by show 1<=b.sv/\b.sv<=7;rw [i];exact h.sv,by show ∀p∈b.held,_;rw [d];exact h.hb,by show ∀p∈b.held,_;rw [d];exact h.dl,by show b.held.length<=_;rw [d];exact J6 h.hl,fun p f=>(by cases f),V1 _⟩
 unfold jq5;split
 ·exact h.more
 ·split
  ·exact h.reg g
  ·split
   ·unfold kk2;split
    ·exact h.more
    ·split
     ·exact h.more
     ·split
      ·exact h.more
      ·exact ⟨h.sv,h.hb,h.dl,J6 h.hl,h.yb,J6 h.yl⟩
   ·split
    ·unfold vd2;split
     ·exact h.more
     ·split
      ·exact h.more
      ·rename_i d;split
       ·refine ⟨h.sv,h.hb,h.dl,J6 h.hl,fun p f=>?_,W9 (jj5 _ _ _) (Nat.succ_le_succ h.yl)⟩;rcases yg3 f with rfl|f
        ·have:=qk3 d;have:=h.sv;exact ⟨by omega,by omega⟩
        ·exact h.yb p f
       ·exact ⟨h.sv,h.hb,h.dl,J6 h.hl,h.yb,J6 h.yl⟩
    ·split
     ·unfold vd3;split
      ·exact h.more
      ·split
       ·exact h.more
       ·exact a _ rfl rfl
     ·split
      ·unfold qp4;split
       ·exact h.more
       ·split
        ·split
         ·exact a _ rfl rfl
         ·exact ⟨h.sv,h.hb,h.dl,J6 h.hl,h.yb,J6 h.yl⟩
        ·exact a _ rfl rfl
      ·exact h.more
def wb6 (m v) {c} (h:okM m c):qdv v7 m.sv m.held m.act m.bef m.roll m.yes m.no v=some (pmc m,(jl9 m.held v,ye0 m.held v,())):=by
 rw [wt1,vb7,W4 (by have:=h.sv;omega),j4];dsimp only;rw [show (!true)=false from rfl,j6];have e:qbd v7 (yg7 TT (.list (.int .u8)) m.held v)=some (jl9 m.held v):=yt0 _ (yf9 (P:=fun l=>l.length<=1000000) (by simp) v fun p a=>by have:=h.dl p a;omega);rw [e,j4]
section
variable {l:List Entry} {N k M:Nat} {w m:Mc} {said:List Bool}
end
end Go.Y
