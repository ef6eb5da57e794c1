import Derived.Test.YtliopfopmhhdeaaGreatAB
set_option linter.defProp false
namespace Go.Y
open Go.RowKit Go.V Go.X
def zd2 {R:Type} (c:Bool) (x y:Option R):z7 c x y=if c=true then x else y:=rfl
def z2 {R:Type} (x y:Option R):z7 true x y=x:=rfl
def z1 {R:Type} (x y:Option R):z7 false x y=y:=rfl
def z6 {α β:Type} (a:α) (f:α->Option β):j7 (some a) f=f a:=rfl
def vp4 (c x:Bool):z7 c (some true) (some x)=some (c||x):=by cases c<;>rfl
def yh0 {x:Int} (h: -9223372036854775808<=x/\x<=9223372036854775807):IntKind.i64.wrap x=x:=by
 unfold IntKind.wrap;simp [IntKind.bits,IntKind.signed];omega
def loop {α:Type} (f:Nat->Nat->Option α) (c len:Nat) (r:Option α) (hstep: ∀n k,k<len->f (n+c) k=f n (k+1)) (hend: ∀n,f (n+1) len=r): ∀m k n,k+m=len->c*m+1<=n->f n k=r
 |0,k,n,hk,hn=>by
  obtain ⟨n',rfl⟩: ∃n',n=n'+1:=⟨n-1,by omega⟩;have:k=len:=by omega
  subst this;exact hend n'
 |m+1,k,n,hk,hn=>by
  obtain ⟨n',rfl⟩: ∃n',n=n'+c:=⟨n-c,by rw [Nat.mul_succ] at hn;omega⟩;rw [hstep n' k (by omega)];exact loop f c len r hstep hend m (k+1) n' (by omega) (by rw [Nat.mul_succ] at hn;omega)
def je1 {α:Type} (f:Nat->Nat->Option α) (c len:Nat) (r:Option α) (hstep: ∀n k,k<len->f (n+c) k=f n (k+1)) (hend: ∀n,f (n+1) len=r) (n:Nat) (hn:c*len+1<=n):f n 0=r:=loop f c len r hstep hend len 0 n (by omega) hn
def vk8 {α:Type} (f:Nat->Nat->Option α) (c len:Nat) (r:Nat->Option α) (hstep: ∀n k,k<len->f (n+c) k=r k\/(f (n+c) k=f n (k+1)/\r k=r (k+1))) (hend: ∀n,f (n+1) len=r len): ∀m k n,k+m=len->c*m+1<=n->f n k=r k
 |0,k,n,hk,hn=>by
  obtain ⟨n',rfl⟩: ∃n',n=n'+1:=⟨n-1,by omega⟩;have:k=len:=by omega
  subst this;exact hend n'
 |m+1,k,n,hk,hn=>by
  obtain ⟨n',rfl⟩: ∃n',n=n'+c:=⟨n-c,by rw [Nat.mul_succ] at hn;omega⟩;rcases hstep n' k (by omega) with h|⟨h1,h2⟩
  ·exact h
  ·rw [h1,h2];exact vk8 f c len r hstep hend m (k+1) n' (by omega) (by rw [Nat.mul_succ] at hn;omega)
def nx {k len:Nat} (h:k<len) (hl:len<=1000000000):IntKind.i64.wrap ((k:Int)+1)=((k+1:Nat):Int):=by rw [yh0 (by omega)];omega
end Go.Y
