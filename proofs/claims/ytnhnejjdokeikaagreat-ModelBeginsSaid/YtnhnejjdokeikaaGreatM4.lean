import Derived.Test.YtnhnejjdokeikaaGreatM3
import Derived.Test.YtnhnejjdokeikaaGreatIg
set_option linter.defProp false
namespace Go.Y
open Go.RowKit Go.V Go.X Go.Proofs
def je7 {a} {l:List a} {d i} (h:i<l.length):l.getD i d=l[i]:=by rw [Y2,Y0 h];rfl
def ve6 (a b):jl8 a b<=b/\(jl8 a b<b->jl8 a b=a)/\(0<=a->0<=b->0<=jl8 a b):=by
 unfold jl8;split<;>omega
def qk5 (x:List Tale): ∀(m i n:Nat) (a:Int),i+m=x.length->x.length<=9223372036854775807->0<=a->a<=30000->2*m+2<=n-> ∃b,qd3 n x a i=some b/\(b=true->x.length<=200/\ ∀j,i<=j->j<x.length->(x.getD j v6).Bytes.length<9000/\(x.getD j v6).Entry_Data.length<9000)
 |0,i,n,a,e,l,t,o,u=>by
  obtain ⟨n,rfl⟩: ∃k,n=k+1+1:=⟨n-2,by omega⟩;rw [yv9,W5 (by omega),j6,yi9,j6];by_cases h:x.length<=200
  ·rw [W4 (by omega),j9];exact ⟨_,rfl,fun _=>⟨h,fun j o A=>by omega⟩⟩
  ·rw [W5 (by omega),j6];exact ⟨_,rfl,fun h=>by cases h⟩
 |m+1,i,n,a,e,l,t,o,u=>by
  obtain ⟨n,rfl⟩: ∃k,n=k+1+1:=⟨n-2,by omega⟩;have B:i<x.length:=by omega
  rw [yv9,W4 (by omega),j9,yi9];by_cases h:a<9000
  ·rw [W4 h,j9,if_pos (by omega),if_pos (by omega)];obtain ⟨v,p,f⟩:=ve6 (((x.getD ((i:Nat):Int).toNat v6).Bytes.length:Nat):Int) 9000;obtain ⟨w,q,g⟩:=ve6 (((x.getD ((i:Nat):Int).toNat v6).Entry_Data.length:Nat):Int) 9000;have f:=f (by omega) (by omega);have g:=g (by omega) (by omega);rw [Z1] at v p f w q g⊢;rw [zb7 (x:=a+_) (by omega),zb7 (x:=a+_+_) (by omega),zb7 (x:=((i:Nat):Int)+1) (by omega)];obtain ⟨b,c,r⟩:=qk5 x m (i+1) n (a+jl8 ((x.getD i v6).Bytes.length:Int) 9000+jl8 ((x.getD i v6).Entry_Data.length:Int) 9000) (by omega) l (by omega) (by omega) (by omega);refine ⟨b,c,fun d=>⟨(r d).1,fun j C y=>?_⟩⟩;by_cases z:j=i
   ·subst z;by_cases s:a+jl8 ((x.getD j v6).Bytes.length:Int) 9000+jl8 ((x.getD j v6).Entry_Data.length:Int) 9000<9000
    ·have:=p (by omega);have:=q (by omega);omega
    ·exfalso;obtain ⟨n,rfl⟩: ∃k,n=k+1+1:=⟨n-2,by omega⟩;rw [yv9,yi9,W5 s] at c;have:(j8 false (if 0<=((j+1:Nat):Int)/\((j+1:Nat):Int)<((x.length:Nat):Int) then (none:Option Bool) else none) none)=none:=by rw [j6]
     simp only [j6,yi9] at c;rw [d] at c;simp only [q7] at c;split at c<;>split at c<;>first|(simp at c;done)|(simp at s c;omega)
   ·exact (r d).2 j (by omega) y
  ·rw [W5 h,j6];by_cases h:x.length<=200
   ·rw [W4 (by omega),j9];exact ⟨_,rfl,fun d=>by cases d⟩
   ·rw [W5 (by omega),j6];exact ⟨_,rfl,fun h=>by cases h⟩
def gc3 (x) (e:x.length<=9223372036854775807): ∃b,qah (2*x.length+9) x=some b/\(b=true->x.length<=200/\ ∀t∈x,t.Bytes.length<9000/\t.Entry_Data.length<9000):=by
 rw [wf8];obtain ⟨b,f,a⟩:=qk5 x x.length 0 (2*x.length+9) 0 (W7 _) e (by omega) (by omega) (by omega);refine ⟨b,f,fun c=>⟨(a c).1,fun t g=>?_⟩⟩;obtain ⟨j,d,rfl⟩:=List.getElem_of_mem g;have:=(a c).2 j (by omega) d;rwa [je7 d] at this
def jh9 (k:Int) (x:List Tale):Int:=if 1<=k/\k<=7 then za5 x [] (List.replicate k.toNat (sv0 k)) else 2
def uq1 (k x) (h: ¬(1<=k/\k<=7)):qam v7 k x=some ((),((2:Int),())):=by
 obtain ⟨n,a⟩: ∃n,v7=n+1:=⟨999999999,rfl⟩;rw [wg8];by_cases b:k<1
 ·rw [W4 b,j9,a,ju4,j9]
 ·rw [W5 b,j6,W4 (by omega),a,ju4,j9]
def gj0 {l} (k:Int) (x:List Tale) (a: ∀t∈x,TOk t) (b:x.length<=1000) (f:Int->Option l):
  j8 (decide (k=(1:Int))) (j7 (qj v7 x) fun y=>f y.2.1) (j8 (decide (k=(2:Int))) (j7 (ql v7 x) fun y=>f y.2.1)
  (j8 (decide (k=(3:Int))) (j7 (qm v7 x) fun y=>f y.2.1) (j8 (decide (k=(4:Int))) (j7 (qn v7 x) fun y=>f y.2.1)
  (j8 (decide (k=(5:Int))) (j7 (qo v7 x) fun y=>f y.2.1) (j8 (decide (k=(6:Int))) (j7 (qp v7 x) fun y=>f y.2.1)
  (j8 (decide (k=(7:Int))) (j7 (qq v7 x) fun y=>f y.2.1) (j7 (qam v7 k x) fun y=>f y.2.1)))))))=f (jh9 k x):=by
 rw [jo4 x a b,kq3 x a b,kq4 x a b,kq5 x a b,kq6 x a b,kq7 x a b,kq8 x a b];simp only [j4];unfold jh9;by_cases c:k=1
 ·subst c;rfl
 rw [W5 c,j6];by_cases d:k=2
 ·subst d;rfl
 rw [W5 d,j6];by_cases e:k=3
 ·subst e;rfl
 rw [W5 e,j6];by_cases g:k=4
 ·subst g;rfl
 rw [W5 g,j6];by_cases h:k=5
 ·subst h;rfl
 rw [W5 h,j6];by_cases i:k=6
 ·subst i;rfl
 rw [W5 i,j6];by_cases j:k=7
 ·subst j;rfl
 rw [W5 j,j6,uq1 k x (by omega),j4,if_neg (by omega)]
def zi9:List Tale->List Entry->Option (List Entry)
 | [],o=>some o
 |t::r,o=>if t.Kind=2 then (if (zc1 o t.Index (zs3 t)).2=true then zi9 r (zc1 o t.Index (zs3 t)).1 else none) else zi9 r o
def gh9:Option (List Entry)->List Entry×Bool|some o=>(o,true)|none=>([],false)
def jk0 (x) (c: ∀t∈x,TOk t) (e:x.length<=1000): ∀(m i n o),i+m=x.length->o.length<=i->2*m+1<=n->vw0 n x ((x.length:Nat):Int) ((i:Nat):Int) o=some (gh9 (zi9 (x.drop i) o))
 |0,i,n,o,d,h,f=>by
  obtain ⟨n,rfl⟩:=up f;rw [qm9,W5 (by omega),j6,V4 (by omega)];rfl
 |m+1,i,n,o,d,h,f=>by
  obtain ⟨n,rfl⟩: ∃k,n=k+1+1:=⟨n-2,by omega⟩;have a:i<x.length:=by omega
  have g:x.getD i v6=x[i]:=je7 a;have j:TOk (x.getD i v6):=by rw [g];exact c _ (J0 a)
  have p:=j.dl;have l:zi9 (x.drop i) o=if (x.getD i v6).Kind=2 then (if (zc1 o (x.getD i v6).Index (zs3 (x.getD i v6))).2=true then zi9 (x.drop (i+1)) (zc1 o (x.getD i v6).Index (zs3 (x.getD i v6))).1 else none) else zi9 (x.drop (i+1)) o:=by rw [U3 a,<-g];rfl
  rw [qm9,W4 (by omega),j9,if_pos (by omega),Z1,l];by_cases b:(x.getD i v6).Kind=2
  ·rw [show ((x.getD i v6).Kind==2)=true by simpa using b,j9,if_pos b,jw2 o _ (zs3 (x.getD i v6)) (by omega) (by show (x.getD i v6).Entry_Data.length<=_;omega),j4];dsimp only;rw [qm8];cases hb:(zc1 o (x.getD i v6).Index (zs3 (x.getD i v6))).2 with
   |true=>
    rw [show (!true)=false from rfl,j6,if_pos rfl,nx a (by omega)];have:=zu4 o (x.getD i v6).Index (zs3 (x.getD i v6));exact jk0 x c e m (i+1) n _ (by omega) (by omega) (by omega)
   |false=>rw [show (!false)=true from rfl,j9,if_neg (by simp)];rfl
  ·rw [show ((x.getD i v6).Kind==2)=false by simpa using b,j6,if_neg b,qm8,j6,nx a (by omega)];exact jk0 x c e m (i+1) n _ (by omega) (by omega) (by omega)
def vh0 (x) (a: ∀t∈x,TOk t) (b:x.length<=1000):qs v7 x=some (gh9 (zi9 x [])):=by
 rw [uj8];exact jk0 x a b x.length 0 v7 [] (W7 _) (W6 _) (by show _<=1000000000;omega)
def goodT {x:List Tale} (h:Go.X.Good TT (.list (.user 4)) x):x.length<=9223372036854775807/\ ∀t∈x,(∀z∈t.Entry_Data,0<=z/\z<=255)/\ ∀z∈t.Bytes,0<=z/\z<=255:=by
 have a:=Go.X.GoodV.listB (T:=TT) (e:=.user 4) (h ⟨.list (.user 4),x⟩ (Q4.2 rfl));refine ⟨by have:=a.1;unfold maxLen at this;exact this,fun t g=>⟨fun b c=>?_,fun b c=>?_⟩⟩
 ·have d:=a.2 t g;have f:=(Go.X.GoodV.listB (T:=TT) (e:=.int .u8) (d ⟨.list (.int .u8),t.Entry_Data⟩ (X6 (i:=9) (rfl:(Tale.cs t)[9]?=some _)))).2 b c;exact Go.X.Good.int (T:=TT) (k:=.u8) f
 ·have d:=a.2 t g;have f:=(Go.X.GoodV.listB (T:=TT) (e:=.int .u8) (d ⟨.list (.int .u8),t.Bytes⟩ (X6 (i:=12) (rfl:(Tale.cs t)[12]?=some _)))).2 b c;exact Go.X.Good.int (T:=TT) (k:=.u8) f
end Go.Y
namespace Go.Y
open Go.RowKit Go.V Go.X Go.Proofs
def jj9 {o l t} (h:(zb5 o l t).2.2=0): ∃(j:Nat) (s:Sv),l[j]?=some s/\t.Server=((j+1:Nat):Int)/\zh5 t.Kind=true/\(onS o s t).2.2=0/\zb5 o l t=((onS o s t).1,l.set j (qe9 (onS o s t).2.1 t.Kind),0):=by
 by_cases b:1<=t.Server/\t.Server<=(l.length:Int)
 ·cases hk:zh5 t.Kind with
  |false=>rw [za7 (.inr hk)] at h;cases h
  |true=>
   have a:(t.Server-1).toNat<l.length:=by omega
   have e:=ze0 (o:=o) (l:=l) (t:=t) (t.Server-1).toNat l[(t.Server-1).toNat] (Y0 a) (by omega) hk;rw [e] at h;have h:(onS o l[(t.Server-1).toNat] t).2.2=0:=h;exact ⟨_,_,Y0 a,by omega,rfl,h,by rw [e,h]⟩
 ·rw [za7 (.inl b)] at h;cases h
def qq1 {k x} (h:jh9 k x=0):(1<=k/\k<=7)/\za5 x [] (List.replicate k.toNat (sv0 k))=0:=by
 unfold jh9 at h;split at h
 ·rename_i a;exact ⟨a,h⟩
 ·cases h
end Go.Y
namespace Go.Y
open Go.RowKit Go.V Go.X Go.Proofs
def yv6 (x) (c: ∀t∈x,TOk t) (e:x.length<=1000): ∀(m i n o),i+m=x.length->o.length<=i->2*m+1<=n->vw1 n ((x.length:Nat):Int) ((i:Nat):Int) x o=some ((x,()),((gh9 (zi9 (x.drop i) o)).1,(gh9 (zi9 (x.drop i) o)).2,()))
 |0,i,n,o,d,h,f=>by
  obtain ⟨n,rfl⟩:=up f;rw [qn4,W5 (by omega),j6,V4 (by omega)];rfl
 |m+1,i,n,o,d,h,f=>by
  obtain ⟨n,rfl⟩: ∃k,n=k+1+1:=⟨n-2,by omega⟩;have a:i<x.length:=by omega
  have g:x.getD i v6=x[i]:=je7 a;have j:TOk (x.getD i v6):=by rw [g];exact c _ (J0 a)
  have p:=j.dl;have l:zi9 (x.drop i) o=if (x.getD i v6).Kind=2 then (if (zc1 o (x.getD i v6).Index (zs3 (x.getD i v6))).2=true then zi9 (x.drop (i+1)) (zc1 o (x.getD i v6).Index (zs3 (x.getD i v6))).1 else none) else zi9 (x.drop (i+1)) o:=by rw [U3 a,<-g];rfl
  rw [qn4,W4 (by omega),j9,if_pos (by omega),Z1,l];by_cases b:(x.getD i v6).Kind=2
  ·rw [show ((x.getD i v6).Kind==2)=true by simpa using b,j9,if_pos b,jw2 o _ (zs3 (x.getD i v6)) (by omega) (by show (x.getD i v6).Entry_Data.length<=_;omega),j4];dsimp only;rw [qn3];cases hb:(zc1 o (x.getD i v6).Index (zs3 (x.getD i v6))).2 with
   |true=>
    rw [show (!true)=false from rfl,j6,if_pos rfl,nx a (by omega)];have:=zu4 o (x.getD i v6).Index (zs3 (x.getD i v6));exact yv6 x c e m (i+1) n _ (by omega) (by omega) (by omega)
   |false=>rw [show (!false)=true from rfl,j9,if_neg (by simp)];rfl
  ·rw [show ((x.getD i v6).Kind==2)=false by simpa using b,j6,if_neg b,qn3,j6,nx a (by omega)];exact yv6 x c e m (i+1) n _ (by omega) (by omega) (by omega)
abbrev ye9:Tale:=⟨(2:Int),(1:Int),(1:Int),(0:Int),(1:Int),(1:Int),(0:Int),(0:Int),false,([]:List Int),(0:Int),(0:Int),([]:List Int)⟩
abbrev jg5 (v:Int):Tale:=⟨(4:Int),(1:Int),(0:Int),(0:Int),(0:Int),(0:Int),(0:Int),(0:Int),false,([]:List Int),(0:Int),v,([]:List Int)⟩
def tk1:TOk ye9:=⟨V1 _,by simp,V1 _,by simp⟩
def tk2 (v):TOk (jg5 v):=⟨V1 _,by simp,V1 _,by simp⟩
def a1:qx v7 [ye9,jg5 1]=some (([ye9,jg5 1],()),([zs3 ye9],true,())):=by
 rw [uk5];refine (yv6 [ye9,jg5 1] (fun t a=>?_) (by decide) 2 0 v7 [] rfl (by decide) (by decide)).trans (by kernel_rfl);rcases Z0.1 a with rfl|a
 ·exact tk1
 ·rw [Q4.1 a];exact tk2 1
def a2:za5 [ye9,jg5 1] [] [sv0 1]=0:=by kernel_rfl
def a3:za5 [ye9,jg5 2] [] [sv0 1]=11:=by kernel_rfl
def a4:za5 [ye9,ye9] [] [sv0 1]=8:=by kernel_rfl
def two {a b} (d:TOk a) (e:TOk b): ∀t∈ [a,b],TOk t:=fun t c=>by
 rcases Z0.1 c with rfl|c
 ·exact d
 ·rw [Q4.1 c];exact e
def awake_true:qdh v7=some true:=by
 rw [wq3,a1,j4,jo4 [ye9,jg5 1] (two tk1 (tk2 1)) (by decide),Z8,j4,a2];rw [show ((0:Int)==0)=true from rfl,j9,jo4 [ye9,jg5 2] (two tk1 (tk2 2)) (by decide),Z8,j4,a3];rw [show ((11:Int)==11)=true from rfl,j9,jo4 [ye9,ye9] (two tk1 tk1) (by decide),Z8,j4,a4];rfl
end Go.Y
namespace Go.Y
open Go.RowKit Go.V Go.X Go.Proofs
def ji0: ∀(x:List Tale) (o:List Entry) (l:List Sv) (m:Nat),za5 x o l=0->za5 (x.take m) o l=0
 | [],o,l,m,h=>by rw [List.take_nil];rfl
 |t::r,o,l,0,h=>rfl
 |t::r,o,l,m+1,h=>by
  rw [List.take_succ_cons];unfold za5 at h⊢;split at h
  ·rename_i h0;rw [if_pos h0];exact ji0 r _ _ m h
  ·rename_i h0;exact absurd h h0
def jw1: ∀(x:List Tale) (o:List Entry) (l:List Sv) (t:Tale),za5 x o l=0->t.Server=(l.length:Int)+1->za5 (x++ [t]) o l=2
 | [],o,l,t,_,ht=>by
  rw [J8];unfold za5;rw [za7 (.inl (by omega))];exact if_neg (show ¬(2:Int)=0 by decide)
 |u::r,o,l,t,h,ht=>by
  rw [M5];unfold za5 at h⊢;split at h
  ·rename_i h0;rw [if_pos h0];refine jw1 r _ _ t h ?_;rw [ht];congr 1;obtain ⟨j,s,_,_,_,_,g5⟩:=jj9 h0;rw [g5];simp
  ·rename_i h0;exact absurd h h0
def vo2 (o:List Entry) (ix:Int) (e:Entry) (h:(zc1 o ix e).2=true): ∃z,(zc1 o ix e).1=o++z:=by
 unfold zc1 at h⊢;split
 ·exact ⟨[],by simp⟩
 ·split
  ·exact ⟨[],by simp⟩
  ·exact ⟨[e],rfl⟩
def ql7 {o:List Entry} {s:Sv} {t:Tale} (he:(onS o s t).2.2=0):(t.Kind=2->(zc1 o t.Index (zs3 t)).2=true/\(onS o s t).1=(zc1 o t.Index (zs3 t)).1)/\(t.Kind≠2->(onS o s t).1=o):=by
 unfold onS at he⊢;by_cases h2:t.Kind=2
 ·rw [if_pos h2] at he⊢;refine ⟨fun _=>?_,fun h=>absurd h2 h⟩;unfold apM at he⊢;split at he
  ·rename_i hi;split at he
   ·rename_i hb;rw [if_pos hi,if_pos hb];exact ⟨hb,rfl⟩
   ·cases he
  ·cases he
 ·rw [if_neg h2];refine ⟨fun h=>absurd h h2,fun _=>?_⟩;split
  ·rfl
  ·split<;>rfl
def yf3: ∀(x:List Tale) (o:List Entry) (l:List Sv),za5 x o l=0-> ∃z,zi9 x o=some (o++z)
 | [],o,l,_=>⟨[],by simp [zi9]⟩
 |t::r,o,l,h=>by
  unfold za5 at h;split at h
  ·rename_i h0;obtain ⟨j,s,g1,g2,g3,g4,g5⟩:=jj9 h0;obtain ⟨k1,k2⟩:=ql7 g4;rw [g5] at h;have h:za5 r (onS o s t).1 (l.set j (qe9 (onS o s t).2.1 t.Kind))=0:=h;unfold zi9;by_cases hk:t.Kind=2
   ·obtain ⟨q1,q2⟩:=k1 hk;rw [if_pos hk,if_pos q1];rw [q2] at h;obtain ⟨z,hz⟩:=yf3 r _ _ h;obtain ⟨z0,hz0⟩:=vo2 o t.Index (zs3 t) q1;exact ⟨z0++z,by rw [hz,hz0,Q2]⟩
   ·rw [if_neg hk];rw [k2 hk] at h;exact yf3 r _ _ h
  ·rename_i h0;exact absurd h h0
def yn7: ∀(x:List Tale) (o:List Entry) (l:List Sv) (m:Nat),za5 x o l=0-> ∃a b,zi9 (x.take m) o=some a/\zi9 x o=some (a++b)
 | [],o,l,m,_=>⟨o,[],by rw [List.take_nil];rfl,by simp [zi9]⟩
 |t::r,o,l,0,h=>by
  obtain ⟨z,hz⟩:=yf3 (t::r) o l h;exact ⟨o,z,rfl,hz⟩
 |t::r,o,l,m+1,h=>by
  unfold za5 at h;split at h
  ·rename_i h0;obtain ⟨j,s,g1,g2,g3,g4,g5⟩:=jj9 h0;obtain ⟨k1,k2⟩:=ql7 g4;rw [g5] at h;have h:za5 r (onS o s t).1 (l.set j (qe9 (onS o s t).2.1 t.Kind))=0:=h;rw [List.take_succ_cons];unfold zi9;by_cases hk:t.Kind=2
   ·obtain ⟨q1,q2⟩:=k1 hk;rw [if_pos hk,if_pos q1,if_pos hk,if_pos q1];rw [q2] at h;exact yn7 r _ _ m h
   ·rw [if_neg hk,if_neg hk];rw [k2 hk] at h;exact yn7 r _ _ m h
  ·rename_i h0;exact absurd h h0
def jd2 (a:List Int) (h:a.length<=1000000):qat v7 a a=some true:=by
 rw [wh7,show (((a.length:Nat):Int) != ((a.length:Nat):Int))=false by simp,j6];refine qc1 (fun n k=>yp6 n a a ((k:Nat):Int)) 1 a.length (some true) (fun n k hk=>?_) (fun n=>?_) v7 (by show 1*a.length+1<=1000000000;omega)
 ·show yp6 (n+1) a a ((k:Nat):Int)=yp6 n a a ((k+1:Nat):Int);rw [ju8,W4 (by omega),j9,if_pos (by omega),if_pos (by omega),show (a.getD ((k:Nat):Int).toNat (0:Int) != a.getD ((k:Nat):Int).toNat (0:Int))=false by simp,j6,nx hk (by omega)]
 ·show yp6 (n+1) a a ((a.length:Nat):Int)=some true;rw [ju8,W5 (by omega),j6]
def jd3 (e:Entry) (h:e.Data.length<=1000000):qds v7 e e=some true:=by
 rw [ws5,jd2 _ h,j4];simp only [beq_self_eq_true];rfl
def yt9 (a:List Entry) (hl:a.length<=1000000) (h: ∀e∈a,e.Data.length<=1000000):qau v7 a a=some true:=by
 rw [wh9,show (((a.length:Nat):Int) != ((a.length:Nat):Int))=false by simp,j6];refine qc1 (fun n k=>yp7 n a a ((k:Nat):Int)) 1 a.length (some true) (fun n k hk=>?_) (fun n=>?_) v7 (by show 1*a.length+1<=1000000000;omega)
 ·show yp7 (n+1) a a ((k:Nat):Int)=yp7 n a a ((k+1:Nat):Int);have hd:(a.getD ((k:Nat):Int).toNat ye4).Data.length<=1000000:=by
   rw [Z1,je7 hk];exact h _ (J0 hk)
  rw [ju9,W4 (by omega),j9,if_pos (by omega),if_pos (by omega),jd3 _ hd,j4,show (!true)=false from rfl,j6,nx hk (by omega)]
 ·show yp7 (n+1) a a ((a.length:Nat):Int)=some true;rw [ju9,W5 (by omega),j6]
def yn6: ∀(x:List Tale) (o z:List Entry),(∀t∈x,TOk t)->(∀e∈o,e.Data.length<=1000000)->zi9 x o=some z->(∀e∈z,e.Data.length<=1000000)/\z.length<=o.length+x.length
 | [],o,z,_,ho,h=>by
  have h:some o=some z:=h;have:=X5 h;subst this;exact ⟨ho,Nat.le_add_right _ _⟩
 |t::r,o,z,hx,ho,h=>by
  have hr: ∀t∈r,TOk t:=fun u hu=>hx u (Z4 _ hu);have hd:=(hx t (U2 ..)).dl;unfold zi9 at h;split at h
  ·split at h
   ·have hs:=zu4 o t.Index (zs3 t);have hh: ∀e∈(zc1 o t.Index (zs3 t)).1,e.Data.length<=1000000:=fun e he=>by
     unfold zc1 at he;split at he
     ·exact ho e he
     ·split at he
      ·exact ho e he
      ·rcases X4.1 he with he|he
       ·exact ho e he
       ·rw [Q4.1 he];show t.Entry_Data.length<=_;omega
    obtain ⟨h1,h2⟩:=yn6 r _ z hr hh h;exact ⟨h1,by rw [U6];omega⟩
   ·cases h
  ·obtain ⟨h1,h2⟩:=yn6 r o z hr ho h;exact ⟨h1,by rw [U6];omega⟩
def we4 (c:Int) (n:Nat) (hn:n<=1000): ∃m:Nat,m<=n/\qdr v7 c (IntKind.i64.wrap (((n:Nat):Int)+1))=some ((m:Nat):Int):=by
 rw [zb7 (by omega),ws3,W5 (by omega),j6,if_neg (by omega)];have h1:=Int.lt_tmod_of_pos c (show (0:Int)<(n:Int)+1 by omega);have h2:=Int.tmod_lt_of_pos c (show (0:Int)<(n:Int)+1 by omega);generalize c.tmod ((n:Int)+1)=q at *;by_cases h:q<0
 ·rw [W4 h,j9,zb7 (by omega)];exact ⟨(q+((n:Int)+1)).toNat,by omega,by congr 1;omega⟩
 ·rw [W5 h,j6];exact ⟨q.toNat,by omega,by congr 1;omega⟩
def wb9 (k:Int) (x:List Tale) (hx: ∀t∈x,TOk t) (hl:x.length<=1000) (hk:1<=k/\k<=7) (r:Option Bool):
  j8 (decide (k=(1:Int))) (j7 ((qj v7 x).map fun y=>y.2.1) fun y=>some (y==(2:Int))) (j8 (decide (k=(2:Int))) (j7 ((ql v7 x).map fun y=>y.2.1) fun y=>some (y==(2:Int)))
  (j8 (decide (k=(3:Int))) (j7 ((qm v7 x).map fun y=>y.2.1) fun y=>some (y==(2:Int))) (j8 (decide (k=(4:Int))) (j7 ((qn v7 x).map fun y=>y.2.1) fun y=>some (y==(2:Int)))
  (j8 (decide (k=(5:Int))) (j7 ((qo v7 x).map fun y=>y.2.1) fun y=>some (y==(2:Int))) (j8 (decide (k=(6:Int))) (j7 ((qp v7 x).map fun y=>y.2.1) fun y=>some (y==(2:Int)))
  (j8 (decide (k=(7:Int))) (j7 ((qq v7 x).map fun y=>y.2.1) fun y=>some (y==(2:Int))) r))))))=some (jh9 k x==2):=by
 rw [jo4 x hx hl,kq3 x hx hl,kq4 x hx hl,kq5 x hx hl,kq6 x hx hl,kq7 x hx hl,kq8 x hx hl];simp only [Z8,j4];unfold jh9;rw [if_pos hk];by_cases h1:k=1
 ·subst h1;rfl
 rw [W5 h1,j6];by_cases h2:k=2
 ·subst h2;rfl
 rw [W5 h2,j6];by_cases h3:k=3
 ·subst h3;rfl
 rw [W5 h3,j6];by_cases h4:k=4
 ·subst h4;rfl
 rw [W5 h4,j6];by_cases h5:k=5
 ·subst h5;rfl
 rw [W5 h5,j6];by_cases h6:k=6
 ·subst h6;rfl
 rw [W5 h6,j6];have h7:k=7:=by omega
 subst h7;rfl
def vk8 (k:Int) (x:List Tale) (hx: ∀t∈x,TOk t) (hl:x.length<=200) (h0:jh9 k x=0) (n:Nat):zy8 (n+1) k x false=some true:=by
 obtain ⟨hk,hs⟩:=qq1 h0;rw [ke3,j6,if_pos (by omega),if_pos (by rw [J8];omega),J8,zb7 (by omega)];generalize ht:(⟨(1:Int),k+1,(0:Int),(0:Int),(0:Int),(0:Int),(0:Int),(0:Int),false,([]:List Int),(0:Int),(0:Int),([]:List Int)⟩:Tale)=t;have htk:TOk t:=by subst ht;exact ⟨V1 _,by simp,V1 _,by simp⟩
 have hx2: ∀u∈x++ [t],TOk u:=fun u hu=>by
  rcases X4.1 hu with hu|hu
  ·exact hx u hu
  ·rw [Q4.1 hu];exact htk
 refine (wb9 k (x++ [t]) hx2 (by simp;omega) hk _).trans ?_;have:jh9 k (x++ [t])=2:=by
  unfold jh9;rw [if_pos hk];refine jw1 x [] _ t hs ?_;rw [Z9];subst ht;show k+1=_;omega
 rw [this];rfl
def begins_true (k:Int) (x:List Tale) (c:Int) (hl:x.length<=9223372036854775807) (hb: ∀t∈x,(∀z∈t.Entry_Data,0<=z/\z<=255)/\ ∀z∈t.Bytes,0<=z/\z<=255) (haw:qdh v7=some true):qi v7 k x c=some true:=by
 obtain ⟨n,hB⟩: ∃n,v7=n+1+1:=⟨999999998,rfl⟩;obtain ⟨b,e1,e2⟩:=gc3 x hl;have e:qi (n+1+1) k x c=some true:=by
  rw [ui7,haw,j4];rw [show (!true)=false from rfl,j6,e1,j4];cases b with
  |false=>rw [show (!false)=true from rfl,j9,qm7,j9]
  |true=>
   obtain ⟨hl,hm⟩:=e2 rfl;have hx: ∀t∈x,TOk t:=fun t ht=>⟨by have:=hm t ht;omega,(hb t ht).1,by have:=hm t ht;omega,(hb t ht).2⟩;rw [show (!true)=false from rfl,j6];refine (gj0 k x hx (by omega) fun e=>yn9 (n+1+1) k x c (e != 0)).trans ?_;rw [qm7];by_cases h0:jh9 k x=0
   ·rw [show (jh9 k x != 0)=false by simpa using h0,j6];obtain ⟨hk,hs⟩:=qq1 h0;obtain ⟨m,hm1,hm2⟩:=we4 c x.length (by omega);obtain ⟨a,b,ha,hab⟩:=yn7 x [] _ m hs;have hxt: ∀t∈x.take m,TOk t:=fun t ht=>hx t (J3 ht);have oA:qs v7 x=some (a++b,true):=by rw [vh0 x hx (by omega),hab];rfl
    have oB:qs v7 (x.take m)=some (a,true):=by rw [vh0 _ hxt (by rw [Y6];omega),ha];rfl
    rw [hm2,j4,oA,j4,if_pos (by omega),show List.take (((m:Nat):Int).toNat-0) (List.drop 0 x)=x.take m by rw [M8,Z1,J5],oB,j4];dsimp only;rw [show (!true)=false from rfl,j6,j6,show decide (((a.length:Nat):Int)>(((a++b).length:Nat):Int))=false from W5 (by rw [X9];omega),j6,
     if_pos (show 0<=(0:Int)/\(0:Int)<=((a.length:Nat):Int)/\((a.length:Nat):Int)<=(((a++b).length:Nat):Int) by rw [X9];omega),if_pos (show 0+((((a.length:Nat):Int).toNat)-0)<=(a++b).length by rw [X9];omega)]
    obtain ⟨d1,d2⟩:=yn6 (x.take m) [] a hxt (by simp) ha;rw [show List.take ((((a.length:Nat):Int).toNat)-0) (List.drop 0 (a++b))=a by rw [M8,Z1,J5,List.take_left],yt9 a (by rw [Y6] at d2;simp at d2;omega) d1,j4];rw [show (!true)=false from rfl,j6,if_pos (by omega)];refine (gj0 k (x.take m) hxt (by rw [Y6];omega) fun e=>zy8 (n+1) k x (e != 0)).trans ?_;have h1:jh9 k (x.take m)=0:=by unfold jh9;rw [if_pos hk];exact ji0 x [] _ m hs
    rw [h1,show ((0:Int) != 0)=false from rfl];exact vk8 k x hx hl h0 n
   ·rw [show (jh9 k x != 0)=true by simpa using h0,j9]
 rw [hB];exact e
end Go.Y
