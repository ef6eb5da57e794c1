import Derived.Test.YtliopfopmhhdeaaGreatAB
set_option linter.defProp false
namespace Go.Y
open Go.RowKit Go.V Go.X
def ze5 {R} (c:Bool) (x y:Option R):z8 c x y=if c=true then x else y:=rfl
def z6 {R} (x y:Option R):z8 true x y=x:=rfl
def z2 {R} (x y:Option R):z8 false x y=y:=rfl
def z7 {α β:Type} (a:α) (f:α->Option β):j5 (some a) f=f a:=rfl
def vt3 (c x:Bool):z8 c (some true) (some x)=some (c||x):=by cases c<;>rfl
def zp9 {x} (h: -9223372036854775808<=x/\x<=9223372036854775807):IntKind.i64.wrap x=x:=by
 unfold IntKind.wrap;simp [IntKind.bits,IntKind.signed];omega
def loop {α:Type} (f:Nat->Nat->Option α) (c len:Nat) (r:Option α) (hstep: ∀n k,k<len->f (n+c) k=f n (k+1)) (hend: ∀n,f (n+1) len=r): ∀m k n,k+m=len->c*m+1<=n->f n k=r
 |0,k,n,hk,hn=>by
  obtain ⟨n',rfl⟩: ∃n',n=n'+1:=⟨n-1,by omega⟩;have:k=len:=by omega
  subst this;exact hend n'
 |m+1,k,n,hk,hn=>by
  obtain ⟨n',rfl⟩: ∃n',n=n'+c:=⟨n-c,by rw [Nat.mul_succ] at hn;omega⟩;rw [hstep n' k (by omega)];exact loop f c len r hstep hend m (k+1) n' (by omega) (by rw [Nat.mul_succ] at hn;omega)
def yq4 {α:Type} (f:Nat->Nat->Option α) (c len:Nat) (r:Option α) (hstep: ∀n k,k<len->f (n+c) k=f n (k+1)) (hend: ∀n,f (n+1) len=r) (n:Nat) (hn:c*len+1<=n):f n 0=r:=loop f c len r hstep hend len 0 n (by omega) hn
def vo3 {α:Type} (f:Nat->Nat->Option α) (c len:Nat) (r:Nat->Option α) (hstep: ∀n k,k<len->f (n+c) k=r k\/(f (n+c) k=f n (k+1)/\r k=r (k+1))) (hend: ∀n,f (n+1) len=r len): ∀m k n,k+m=len->c*m+1<=n->f n k=r k
 |0,k,n,hk,hn=>by
  obtain ⟨n',rfl⟩: ∃n',n=n'+1:=⟨n-1,by omega⟩;have:k=len:=by omega
  subst this;exact hend n'
 |m+1,k,n,hk,hn=>by
  obtain ⟨n',rfl⟩: ∃n',n=n'+c:=⟨n-c,by rw [Nat.mul_succ] at hn;omega⟩;rcases hstep n' k (by omega) with h|⟨h1,h2⟩
  ·exact h
  ·rw [h1,h2];exact vo3 f c len r hstep hend m (k+1) n' (by omega) (by rw [Nat.mul_succ] at hn;omega)
def nx {k len:Nat} (h:k<len) (a:len<=1000000000):IntKind.i64.wrap ((k:Int)+1)=((k+1:Nat):Int):=by rw [zp9 (by omega)];omega
end Go.Y
