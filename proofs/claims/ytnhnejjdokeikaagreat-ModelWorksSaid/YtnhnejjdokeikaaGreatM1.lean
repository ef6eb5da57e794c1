import Derived.Test.YtnhnejjdokeikaaGreatAB
import Derived.Test.YtnhnejjdokeikaaGreatIa
import Derived.Test.YtnhnejjdokeikaaGreatIc
set_option linter.defProp false
namespace Go.Y
open Go.RowKit Go.V Go.X
def q7 {R} (c:Bool) (x y:Option R):j9 c x y=if c=true then x else y:=rfl
def j8 {R} (x y:Option R):j9 true x y=x:=rfl
def j6 {R} (x y:Option R):j9 false x y=y:=rfl
def j4 {b c} (a:b) (f:b->Option c):j7 (some a) f=f a:=rfl
def zc3 {x} (h: -9223372036854775808<=x/\x<=9223372036854775807):IntKind.i64.wrap x=x:=by
 unfold IntKind.wrap;simp [IntKind.bits,IntKind.signed];omega
def loop {g} (f:Nat->Nat->Option g) (c len:Nat) (r:Option g) (a: ∀n k,k<len->f (n+c) k=f n (k+1)) (b: ∀n,f (n+1) len=r): ∀m k n,k+m=len->c*m+1<=n->f n k=r
 |0,k,n,h,e=>by
  obtain ⟨d,rfl⟩: ∃d,n=d+1:=⟨n-1,by omega⟩;have:k=len:=by omega
  subst this;exact b d
 |m+1,k,n,h,e=>by
  obtain ⟨d,rfl⟩: ∃d,n=d+c:=⟨n-c,by rw [N1] at e;omega⟩;rw [a d k (by omega)];exact loop f c len r a b m (k+1) d (by omega) (by rw [N1] at e;omega)
def vs3 {d} (f:Nat->Nat->Option d) (c len:Nat) (r:Option d) (a: ∀n k,k<len->f (n+c) k=f n (k+1)) (b: ∀n,f (n+1) len=r) (n:Nat) (e:c*len+1<=n):f n 0=r:=loop f c len r a b len 0 n (by omega) e
def gi5 {g} (f:Nat->Nat->Option g) (c len:Nat) (r:Nat->Option g) (a: ∀n k,k<len->f (n+c) k=r k\/(f (n+c) k=f n (k+1)/\r k=r (k+1))) (b: ∀n,f (n+1) len=r len): ∀m k n,k+m=len->c*m+1<=n->f n k=r k
 |0,k,n,i,e=>by
  obtain ⟨d,rfl⟩: ∃d,n=d+1:=⟨n-1,by omega⟩;have:k=len:=by omega
  subst this;exact b d
 |m+1,k,n,i,e=>by
  obtain ⟨d,rfl⟩: ∃d,n=d+c:=⟨n-c,by rw [N1] at e;omega⟩;rcases a d k (by omega) with h|⟨j,l⟩
  ·exact h
  ·rw [j,l];exact gi5 f c len r a b m (k+1) d (by omega) (by rw [N1] at e;omega)
def nx {k len:Nat} (h:k<len) (a:len<=1000000000):IntKind.i64.wrap ((k:Int)+1)=((k+1:Nat):Int):=by rw [zc3 (by omega)];omega
def up {n:Nat} {c:Nat} (h:c<=n): ∃m,n=m+c:=⟨n-c,by omega⟩
end Go.Y
namespace Go.Y.C
open Go.RowKit Go.V Go.X Go.Proofs Go.Y
def q7 {R} (c:Bool) (x y:Option R):j9 c x y=if c=true then x else y:=rfl
def j8 {R} (x y:Option R):j9 true x y=x:=rfl
def j6 {R} (x y:Option R):j9 false x y=y:=rfl
def j4 {b c} (a:b) (f:b->Option c):j7 (some a) f=f a:=rfl
def zs6 (c x):j9 c (some x) (some false)=some (c&&x):=by cases c<;>rfl
def jz8 (x):qdx v8 [1,2,4,8] x=j9 (x==1) (some 0) (j9 (x==2) (some 1) (j9 (x==4) (some 2) (j9 (x==8) (some 3) (some (-1))))):=by kernel_rfl
def ze6 (x:Int):Bool:=x==1||(x==2||(x==4||x==8))
def zd4 (x):qco v8 [1,2,4,8] x=some (ze6 x):=by
 rw [kn3,jz8];unfold ze6;cases x==1<;>cases x==2<;>cases x==4<;>cases x==8<;>rfl
def yb4 (x a b):qbv v8 x a b=some (decide (a<=x)&&decide (x<=b)):=by rw [km0,zs6]
def zl8 (n m:Int):Bool:=decide (0<=n)&&decide (n<=m)
def zd0 (i:Ins):Bool:=if i.UseImm=true then i.Src==0&&(decide (-2147483648<=i.Imm)&&decide (i.Imm<2147483648)) else zl8 i.Src 10&&i.Imm==0
def zv1 (i:Ins):Bool:=decide (-32768<=i.Off)&&decide (i.Off<32768)
def zd3 (i:Ins):Bool:=
 if 1<=i.Op/\i.Op<=12 then zl8 i.Dst 9&&(zd0 i&&(i.Off==0&&i.Size==0))
 else if i.Op=13 then zl8 i.Dst 9&&(i.Src==0&&(!i.UseImm&&(i.Off==0&&(i.Imm==0&&i.Size==0))))
 else if i.Op=14 then zl8 i.Dst 9&&(zl8 i.Src 10&&(zv1 i&&(ze6 i.Size&&(!i.Narrow&&(!i.UseImm&&i.Imm==0)))))
 else if i.Op=15 then zl8 i.Dst 10&&(zv1 i&&(ze6 i.Size&&(zd0 i&& !i.Narrow)))
 else if i.Op=16 then zv1 i&&(!i.Narrow&&(i.Dst==0&&(i.Src==0&&(!i.UseImm&&(i.Imm==0&&i.Size==0)))))
 else if 17<=i.Op/\i.Op<=27 then zl8 i.Dst 10&&(zv1 i&&(zd0 i&&i.Size==0))
 else decide (i.Op=28)&&(!i.Narrow&&(i.Dst==0&&(i.Src==0&&(!i.UseImm&&(i.Off==0&&(i.Imm==0&&i.Size==0))))))
def yq6 (a):qap v8 a=some (if 1<=a/\a<=12 then 201 else if a=13 then 193 else if a=14 then 181 else if a=15 then 186 else if a=16 then 144 else if 17<=a/\a<=27 then 218 else if a=28 then 128 else 0):=by
 rw [kk3];simp only [jt4,q7]
 grind
def jg6 (i):qa v8 i=some (zd3 i):=by
 rw [gj7,yq6];obtain ⟨b,c,d,s,u,e,g,sz⟩:=i;simp only [j4];have l: ∀(n:Nat) (f m:Int) (z:Bool) (x:Ins),jo4 (n+1) f m z b c d s u e g sz x.Op x.Narrow x.Dst x.Src x.UseImm x.Off x.Imm x.Size=
   some (f != 0&&((b==x.Op&&(c==x.Narrow&&(d==x.Dst&&(s==x.Src&&(u==x.UseImm&&(e==x.Off&&(g==x.Imm&&sz==x.Size)))))))&&((decide (0<=d)&&decide (d<=m))&&((decide (0<=s)&&decide (s<=10))&&((decide (-32768<=e)&&decide (e<=32767))&&((decide (-2147483648<=g)&&decide (g<=2147483647))&&z)))))):=by
  intro n f m z x;simp only [qk4,yb4,j4,zs6]
 have a: ∀(n:Nat) (f m:Int) (z:Bool) (q:Int) (a1:Bool) (a2 a3:Int) (a4:Bool) (r t v:Int),jo4 (n+1) f m z b c d s u e g sz q a1 a2 a3 a4 r t v=_:=fun n f m z q a1 a2 a3 a4 r t v=>l n f m z ⟨q,a1,a2,a3,a4,r,t,v⟩;by_cases h:1<=b/\b<=12
 ·rw [if_pos h];cases c<;>cases u<;>simp only [zg2,zg3,zg4,zg5,zg6,zg7,zg8,zg9,zh0,a,zd4,j4,U1,U5,j8,j6,show (w8 .i64 201 3 != 0)=true from by decide,show (w8 .i64 201 4 != 0)=false from by decide,show (w8 .i64 201 8 != 0)=true from by decide,show (w8 .i64 201 16 != 0)=false from by decide,show (w8 .i64 201 32 != 0)=false from by decide,show (w8 .i64 201 64 != 0)=true from by decide,show (w8 .i64 201 1 != 0)=true from by decide,show (w8 .i64 201 32==0)=true from by decide]<;>(refine congrArg some ?_;rw [V1];simp [zd3,zd0,zl8,zv1, *]<;>grind)
 by_cases j:b=13
 ·rw [if_neg h,if_pos j];cases c<;>cases u<;>simp only [zg2,zg3,zg4,zg5,zg6,zg7,zg8,zg9,zh0,a,zd4,j4,U1,U5,j8,j6,show (w8 .i64 193 3 != 0)=true from by decide,show (w8 .i64 193 4 != 0)=false from by decide,show (w8 .i64 193 8 != 0)=false from by decide,show (w8 .i64 193 16 != 0)=false from by decide,show (w8 .i64 193 32 != 0)=false from by decide,show (w8 .i64 193 64 != 0)=true from by decide,show (w8 .i64 193 1 != 0)=true from by decide,show (w8 .i64 193 32==0)=true from by decide]<;>(refine congrArg some ?_;rw [V1];simp [zd3,zd0,zl8,zv1, *]<;>grind)
 by_cases k:b=14
 ·rw [if_neg h,if_neg j,if_pos k];cases c<;>cases u<;>simp only [zg2,zg3,zg4,zg5,zg6,zg7,zg8,zg9,zh0,a,zd4,j4,U1,U5,j8,j6,show (w8 .i64 181 3 != 0)=true from by decide,show (w8 .i64 181 4 != 0)=true from by decide,show (w8 .i64 181 8 != 0)=false from by decide,show (w8 .i64 181 16 != 0)=true from by decide,show (w8 .i64 181 32 != 0)=true from by decide,show (w8 .i64 181 64 != 0)=false from by decide,show (w8 .i64 181 1 != 0)=true from by decide,show (w8 .i64 181 32==0)=false from by decide]<;>(refine congrArg some ?_;rw [V1];simp [zd3,zd0,zl8,zv1, *]<;>grind)
 by_cases o:b=15
 ·rw [if_neg h,if_neg j,if_neg k,if_pos o];cases c<;>cases u<;>simp only [zg2,zg3,zg4,zg5,zg6,zg7,zg8,zg9,zh0,a,zd4,j4,U1,U5,j8,j6,show (w8 .i64 186 3 != 0)=true from by decide,show (w8 .i64 186 4 != 0)=false from by decide,show (w8 .i64 186 8 != 0)=true from by decide,show (w8 .i64 186 16 != 0)=true from by decide,show (w8 .i64 186 32 != 0)=true from by decide,show (w8 .i64 186 64 != 0)=false from by decide,show (w8 .i64 186 1 != 0)=false from by decide,show (w8 .i64 186 32==0)=false from by decide]<;>(refine congrArg some ?_;rw [V1];simp [zd3,zd0,zl8,zv1, *]<;>grind)
 by_cases p:b=16
 ·rw [if_neg h,if_neg j,if_neg k,if_neg o,if_pos p];cases c<;>cases u<;>simp only [zg2,zg3,zg4,zg5,zg6,zg7,zg8,zg9,zh0,a,zd4,j4,U1,U5,j8,j6,show (w8 .i64 144 3 != 0)=false from by decide,show (w8 .i64 144 4 != 0)=false from by decide,show (w8 .i64 144 8 != 0)=false from by decide,show (w8 .i64 144 16 != 0)=true from by decide,show (w8 .i64 144 32 != 0)=false from by decide,show (w8 .i64 144 64 != 0)=false from by decide,show (w8 .i64 144 1 != 0)=false from by decide,show (w8 .i64 144 32==0)=true from by decide]<;>(refine congrArg some ?_;rw [V1];simp [zd3,zd0,zl8,zv1, *]<;>grind)
 by_cases w:17<=b/\b<=27
 ·rw [if_neg h,if_neg j,if_neg k,if_neg o,if_neg p,if_pos w];cases c<;>cases u<;>simp only [zg2,zg3,zg4,zg5,zg6,zg7,zg8,zg9,zh0,a,zd4,j4,U1,U5,j8,j6,show (w8 .i64 218 3 != 0)=true from by decide,show (w8 .i64 218 4 != 0)=false from by decide,show (w8 .i64 218 8 != 0)=true from by decide,show (w8 .i64 218 16 != 0)=true from by decide,show (w8 .i64 218 32 != 0)=false from by decide,show (w8 .i64 218 64 != 0)=true from by decide,show (w8 .i64 218 1 != 0)=false from by decide,show (w8 .i64 218 32==0)=true from by decide]<;>(refine congrArg some ?_;rw [V1];simp [zd3,zd0,zl8,zv1, *]<;>grind)
 by_cases y:b=28
 ·rw [if_neg h,if_neg j,if_neg k,if_neg o,if_neg p,if_neg w,if_pos y];cases c<;>cases u<;>simp only [zg2,zg3,zg4,zg5,zg6,zg7,zg8,zg9,zh0,a,zd4,j4,U1,U5,j8,j6,show (w8 .i64 128 3 != 0)=false from by decide,show (w8 .i64 128 4 != 0)=false from by decide,show (w8 .i64 128 8 != 0)=false from by decide,show (w8 .i64 128 16 != 0)=false from by decide,show (w8 .i64 128 32 != 0)=false from by decide,show (w8 .i64 128 64 != 0)=false from by decide,show (w8 .i64 128 1 != 0)=false from by decide,show (w8 .i64 128 32==0)=true from by decide]<;>(refine congrArg some ?_;rw [V1];simp [zd3,zd0,zl8,zv1, *]<;>grind)
 ·rw [if_neg h,if_neg j,if_neg k,if_neg o,if_neg p,if_neg w,if_neg y];cases c<;>cases u<;>simp only [zg2,zg3,zg4,zg5,zg6,zg7,zg8,zg9,zh0,a,zd4,j4,U1,U5,j8,j6,show (w8 .i64 0 3 != 0)=false from by decide,show (w8 .i64 0 4 != 0)=false from by decide,show (w8 .i64 0 8 != 0)=false from by decide,show (w8 .i64 0 16 != 0)=false from by decide,show (w8 .i64 0 32 != 0)=false from by decide,show (w8 .i64 0 64 != 0)=false from by decide,show (w8 .i64 0 1 != 0)=false from by decide,show (w8 .i64 0 32==0)=true from by decide]<;>(refine congrArg some ?_;rw [V1];simp [zd3,zd0,zl8,zv1, *]<;>grind)
def zc3 {x} (h: -9223372036854775808<=x/\x<=9223372036854775807):IntKind.i64.wrap x=x:=by
 unfold IntKind.wrap;simp [IntKind.bits,IntKind.signed];omega
def u8w (x):IntKind.u8.wrap x=x%256:=by unfold IntKind.wrap;simp [IntKind.bits,IntKind.signed]
def uk9 (x):IntKind.u16.wrap x=x%65536:=by unfold IntKind.wrap;simp [IntKind.bits,IntKind.signed]
def ul0 (x):IntKind.u32.wrap x=x%4294967296:=by unfold IntKind.wrap;simp [IntKind.bits,IntKind.signed]
structure Fit (i:Ins):Prop where
 op:1<=i.Op/\i.Op<=28
 dst:0<=i.Dst/\i.Dst<=10
 src:0<=i.Src/\i.Src<=10
 off: -32768<=i.Off/\i.Off<=32767
 imm: -2147483648<=i.Imm/\i.Imm<=2147483647
 sized:(i.Op=14\/i.Op=15)->i.Narrow=false/\(i.Size=1\/i.Size=2\/i.Size=4\/i.Size=8)
 plain: ¬(i.Op=14\/i.Op=15)->i.Size=0
def fit (i) (h:zd3 i=true):Fit i:=by
 unfold zd3 at h;constructor<;>grind [zd0,zv1,zl8,ze6]
def upP (i:Ins):Int:=if i.Narrow=true then 1 else if i.Size=2 then 1 else if i.Size=4 then 2 else if i.Size=8 then 3 else 0
def vw2 (i:Ins):List Int:= [i.Op+64*upP i+(if i.UseImm=true then 32 else 0),16*i.Dst+i.Src,i.Off%65536/256,i.Off%256,i.Imm%4294967296/16777216,i.Imm%4294967296/65536%256,i.Imm%4294967296/256%256,i.Imm%256]
def ua1 (i):0<=upP i/\upP i<=3:=by unfold upP;grind
def un7 (i):qdn v8 i=some (upP i):=by
 rw [wo9,jz8,q7];unfold upP;by_cases a:i.Narrow=true
 ·rw [if_pos a,if_pos a]
 rw [if_neg a,if_neg a];simp only [q7,beq_iff_eq];by_cases h1:i.Size=1
 ·rw [h1];rfl
 by_cases h2:i.Size=2
 ·rw [h2];rfl
 by_cases h4:i.Size=4
 ·rw [h4];rfl
 by_cases b:i.Size=8
 ·rw [b];rfl
 rw [if_neg h1,if_neg h2,if_neg h4,if_neg b,if_neg h2,if_neg h4,if_neg b];rfl
def gf5: ∀o:Fin 32,∀u:Fin 4,bOr .u8 (o.val:Int) (zm2 .u8 (IntKind.u8.wrap (u.val:Int)) 6)=(o.val:Int)+64*(u.val:Int):=by decide+kernel
def vq6: ∀o:Fin 32,∀u:Fin 4,bOr .u8 (bOr .u8 (o.val:Int) (zm2 .u8 (IntKind.u8.wrap (u.val:Int)) 6)) 32=(o.val:Int)+64*(u.val:Int)+32:=by decide+kernel
def gf6: ∀d:Fin 16,∀s:Fin 16,bOr .i64 (zm2 .i64 (d.val:Int) 4) (s.val:Int)=16*(d.val:Int)+(s.val:Int):=by decide+kernel
def jf1 {x:Int} (m:Nat) (h:0<=x/\x<m): ∃o:Fin m,x=(o.val:Int):=⟨⟨x.toNat,by omega⟩,by simp;omega⟩
def shr (k x s m) (h:min s.toNat k.bits=m):zr0 k x s=x/2^m:=by
 unfold zr0;rw [h];exact Int.fdiv_eq_ediv_of_nonneg x (Int.pow_nonneg (by decide))
def uk5 (x):zr0 .u16 x 8=x/256:=shr _ _ _ 8 rfl
def gw9 (x):zr0 .u32 x 24=x/16777216:=shr _ _ _ 24 rfl
def gw8 (x):zr0 .u32 x 16=x/65536:=shr _ _ _ 16 rfl
def gx2 (x):zr0 .u32 x 8=x/256:=shr _ _ _ 8 rfl
def kz3 (i) (h:Fit i):qbj v8 i=some (vw2 i):=by
 have g:bOr .i64 (zm2 .i64 i.Dst 4) i.Src=16*i.Dst+i.Src:=by
  obtain ⟨d,c⟩:=jf1 16 (x:=i.Dst) (by have:=h.dst;omega);obtain ⟨s,e⟩:=jf1 16 (x:=i.Src) (by have:=h.src;omega);rw [c,e];exact gf6 d s
 have c:=h.dst;have e:=h.src;have j:=h.off;have k:=h.imm;obtain ⟨o,a⟩:=jf1 32 (x:=i.Op) (by have:=h.op;omega);obtain ⟨u,f⟩:=jf1 4 (x:=upP i) (by have:=ua1 i;omega);rw [wh9,un7,j4,q7];unfold vw2;rw [jt5,jt5,g];by_cases b:i.UseImm=true
 ·rw [if_pos b,if_pos b,f,a,vq6];simp only [u8w,uk9,ul0,uk5,gw9,gw8,gx2];refine congrArg some ?_;simp only [List.cons.injEq,and_true,true_and]
  and_intros<;>first|trivial|omega
 ·rw [if_neg b,if_neg b,f,a,gf5];simp only [u8w,uk9,ul0,uk5,gw9,gw8,gx2];refine congrArg some ?_;simp only [List.cons.injEq,and_true]
  and_intros<;>first|trivial|omega
def um0 (b0 b1 b2 b3 b4 b5 b6 b7):qfj v8 [b0,b1,b2,b3,b4,b5,b6,b7]=
 ((((((((((j7 (qap v8 (w8 .u8 b0 (31:Int))) fun a=>
 j9 ((w8 .i64 a (32:Int)) != (0:Int))
 ((if zr0 .u8 b0 (6:Int)<0 then none else (some (⟨w8 .u8 b0 (31:Int),false,IntKind.i64.wrap (zr0 .u8 b1 (4:Int)),IntKind.i64.wrap (w8 .u8 b1 (15:Int)),(w8 .u8 (zr0 .u8 b0 (5:Int)) (1:Int))==(1:Int),IntKind.i64.wrap (bOr .i16 (zm2 .i16 (IntKind.i16.wrap b2) (8:Int)) (IntKind.i16.wrap b3)),IntKind.i64.wrap (bOr .i32 (bOr .i32 (bOr .i32 (zm2 .i32 (IntKind.i32.wrap b4) (24:Int)) (zm2 .i32 (IntKind.i32.wrap b5) (16:Int))) (zm2 .i32 (IntKind.i32.wrap b6) (8:Int))) (IntKind.i32.wrap b7)),zm2 .i64 (1:Int) (zr0 .u8 b0 (6:Int))⟩:Ins))))
 ((some (⟨w8 .u8 b0 (31:Int),(zr0 .u8 b0 (6:Int))==(1:Int),IntKind.i64.wrap (zr0 .u8 b1 (4:Int)),IntKind.i64.wrap (w8 .u8 b1 (15:Int)),(w8 .u8 (zr0 .u8 b0 (5:Int)) (1:Int))==(1:Int),IntKind.i64.wrap (bOr .i16 (zm2 .i16 (IntKind.i16.wrap b2) (8:Int)) (IntKind.i16.wrap b3)),IntKind.i64.wrap (bOr .i32 (bOr .i32 (bOr .i32 (zm2 .i32 (IntKind.i32.wrap b4) (24:Int)) (zm2 .i32 (IntKind.i32.wrap b5) (16:Int))) (zm2 .i32 (IntKind.i32.wrap b6) (8:Int))) (IntKind.i32.wrap b7)),(0:Int)⟩:Ins))))))))))))):=by kernel_rfl
def qa8 (k m x y) (i:m<=k.bits) (j:x%2^m=0) (a:0<=y/\y<2^m):bOr k x y=k.wrap (x%2^k.bits+y):=by
 unfold bOr;congr 1;rw [BitVec.toNat_or,BitVec.toNat_ofInt,BitVec.toNat_ofInt];have s:(2:Int)^m<=2^k.bits:=by exact_mod_cast Nat.pow_le_pow_right (by decide) i
 have n:(0:Int)<2^k.bits:=K5 (by decide);have o:y%((2^k.bits:Nat):Int)=y:=by push_cast;exact Int.emod_eq_of_lt a.1 (by omega)
 have b:(x%((2^k.bits:Nat):Int))%2^m=0:=by
  push_cast
  rw [Int.emod_emod_of_dvd _ ⟨2^(k.bits-m),by rw [<-Int.pow_add];congr 1;omega⟩];exact j
 have f:0<=x%((2^k.bits:Nat):Int):=Int.emod_nonneg _ (by push_cast;omega);rw [o]
 push_cast at b f⊢
 generalize x%2^k.bits=X at b f⊢;obtain ⟨q,g⟩:=Int.dvd_of_emod_eq_zero b;have e:0<=q:=by
  have:(0:Int)<2^m:=K5 (by decide);rcases Int.lt_or_le q 0 with h|h
  ·have:=Int.mul_neg_of_pos_of_neg this h;omega
  ·exact h
 obtain ⟨c,rfl⟩:=T1 e;obtain ⟨d,rfl⟩:=T1 a.1;have p:d<2^m:=by have:=a.2;exact_mod_cast this
 have r:X.toNat=2^m*c:=by rw [g];exact_mod_cast Z1 (2^m*c)
 rw [r,Z1,<-Nat.two_pow_add_eq_or_of_lt p c,g]
 push_cast;rfl
def un3 (a b) (g:0<=a/\a<=255) (h:0<=b/\b<=255):bOr .i16 (zm2 .i16 (IntKind.i16.wrap a) 8) (IntKind.i16.wrap b)=if 256*a+b>=32768 then 256*a+b-65536 else 256*a+b:=by
 have c:IntKind.i16.wrap a=a:=by unfold IntKind.wrap;simp [IntKind.bits,IntKind.signed];omega
 have d:IntKind.i16.wrap b=b:=by unfold IntKind.wrap;simp [IntKind.bits,IntKind.signed];omega
 have e:zm2 .i16 a 8=IntKind.i16.wrap (a*256):=rfl;rw [c,d,e];have f:IntKind.i16.wrap (a*256)%256=0:=by unfold IntKind.wrap;simp [IntKind.bits,IntKind.signed];omega
 rw [qa8 .i16 8 _ _ (by decide) (by simpa using f) (by omega)];unfold IntKind.wrap;simp [IntKind.bits,IntKind.signed];omega
def un4 (a b c d) (j:0<=a/\a<=255) (k:0<=b/\b<=255) (l:0<=c/\c<=255) (n:0<=d/\d<=255):bOr .i32 (bOr .i32 (bOr .i32 (zm2 .i32 (IntKind.i32.wrap a) 24) (zm2 .i32 (IntKind.i32.wrap b) 16)) (zm2 .i32 (IntKind.i32.wrap c) 8)) (IntKind.i32.wrap d)=if 16777216*a+65536*b+256*c+d>=2147483648 then 16777216*a+65536*b+256*c+d-4294967296 else 16777216*a+65536*b+256*c+d:=by
 have w: ∀x:Int,0<=x/\x<2147483648->IntKind.i32.wrap x=x:=fun x h=>by unfold IntKind.wrap;simp [IntKind.bits,IntKind.signed];omega
 have e: ∀x:Int,0<=x/\x<4294967296->IntKind.i32.wrap x=if x>=2147483648 then x-4294967296 else x:=fun x h=>by unfold IntKind.wrap;simp [IntKind.bits,IntKind.signed];omega
 have f:zm2 .i32 a 24=IntKind.i32.wrap (a*16777216):=rfl;have g:zm2 .i32 b 16=IntKind.i32.wrap (b*65536):=rfl;have i:zm2 .i32 c 8=IntKind.i32.wrap (c*256):=rfl;have m: ∀x:Int,0<=x/\x<4294967296->IntKind.i32.wrap x%4294967296=x:=fun x h=>by rw [e x h];split<;>omega
 rw [w a (by omega),w b (by omega),w c (by omega),w d (by omega),f,g,i,w (b*65536) (by omega),w (c*256) (by omega)];rw [qa8 .i32 24 (IntKind.i32.wrap (a*16777216)) (b*65536) (by decide) (by have:=m (a*16777216) (by omega);show IntKind.i32.wrap (a*16777216)%16777216=0;omega) (by omega),show (2:Int)^IntKind.i32.bits=4294967296 from rfl,m _ (by omega)];rw [qa8 .i32 16 (IntKind.i32.wrap (a*16777216+b*65536)) (c*256) (by decide) (by have:=m (a*16777216+b*65536) (by omega);show IntKind.i32.wrap (a*16777216+b*65536)%65536=0;omega) (by omega),show (2:Int)^IntKind.i32.bits=4294967296 from rfl,m _ (by omega)];rw [qa8 .i32 8 (IntKind.i32.wrap (a*16777216+b*65536+c*256)) d (by decide) (by have:=m (a*16777216+b*65536+c*256) (by omega);show IntKind.i32.wrap (a*16777216+b*65536+c*256)%256=0;omega) (by omega),show (2:Int)^IntKind.i32.bits=4294967296 from rfl,m _ (by omega)];rw [e _ (by omega)];split<;>split<;>omega
def uc5: ∀o:Fin 256,w8 .u8 (o.val:Int) 31=(o.val:Int)%32:=by decide+kernel
def uc4: ∀o:Fin 256,w8 .u8 (o.val:Int) 15=(o.val:Int)%16:=by decide+kernel
def ul2: ∀o:Fin 256,w8 .u8 (o.val:Int) 1=(o.val:Int)%2:=by decide+kernel
def a31 {x} (h:0<=x/\x<=255):w8 .u8 x 31=x%32:=by obtain ⟨o,rfl⟩:=jf1 256 (x:=x) (by omega);exact uc5 o
def a15 {x} (h:0<=x/\x<=255):w8 .u8 x 15=x%16:=by obtain ⟨o,rfl⟩:=jf1 256 (x:=x) (by omega);exact uc4 o
def a1 {x} (h:0<=x/\x<=255):w8 .u8 x 1=x%2:=by obtain ⟨o,rfl⟩:=jf1 256 (x:=x) (by omega);exact ul2 o
def sh6 (x):zr0 .u8 x 6=x/64:=shr _ _ _ 6 rfl
def sh5 (x):zr0 .u8 x 5=x/32:=shr _ _ _ 5 rfl
def sh4 (x):zr0 .u8 x 4=x/16:=shr _ _ _ 4 rfl
def ub6 (u:Int):Int:=if u=0 then 1 else if u=1 then 2 else if u=2 then 4 else 8
def gc1: ∀u:Fin 4,zm2 .i64 1 (u.val:Int)=ub6 (u.val:Int):=by decide+kernel
def ue7 {u} (h:0<=u/\u<=3):zm2 .i64 1 u=ub6 u:=by obtain ⟨o,rfl⟩:=jf1 4 (x:=u) (by omega);exact gc1 o
def gg8 (z:Bool) (b0 b1 b2 b3 b4 b5 b6 b7:Int):Ins:=
 ⟨b0%32,z,b1/16,b1%16,b0/32%2==1,if 256*b2+b3>=32768 then 256*b2+b3-65536 else 256*b2+b3,
  if 16777216*b4+65536*b5+256*b6+b7>=2147483648 then 16777216*b4+65536*b5+256*b6+b7-4294967296 else 16777216*b4+65536*b5+256*b6+b7,if b0%32=14\/b0%32=15 then ub6 (b0/64) else 0⟩
def yj0 (x:Int):Prop:=0<=x/\x<=255
def vz6 (x): ∃y,qap v8 x=some y/\(w8 .i64 y 32 != 0)=decide (x=14\/x=15):=by
 rw [yq6]
 repeat' split
 all_goals refine ⟨_,rfl,?_⟩
 all_goals first|(rw [show decide (x=14\/x=15)=false from by simp;omega];decide)|(rw [show decide (x=14\/x=15)=true from by simp;omega];decide)
def gz8 (b0 b1 b2 b3 b4 b5 b6 b7) (h0:yj0 b0) (h1:yj0 b1) (h2:yj0 b2) (h3:yj0 b3) (h4:yj0 b4) (h5:yj0 b5) (h6:yj0 b6) (h7:yj0 b7):
  qfj v8 [b0,b1,b2,b3,b4,b5,b6,b7]=some (gg8 (!decide (b0%32=14\/b0%32=15)&&b0/64==1) b0 b1 b2 b3 b4 b5 b6 b7):=by
 unfold yj0 at *;obtain ⟨y,b,c⟩:=vz6 (b0%32);have w: ∀x:Int,-2147483648<=x/\x<=2147483647->IntKind.i64.wrap x=x:=fun x h=>zc3 (by omega);rw [um0,a31 h0,b,j4,c,un3 b2 b3 h2 h3,un4 b4 b5 b6 b7 h4 h5 h6 h7,sh6,sh5,sh4,a15 h1,a1 (x:=b0/32) (by omega)];rw [w (b1/16) (by omega),w (b1%16) (by omega),w (if 256*b2+b3>=32768 then 256*b2+b3-65536 else 256*b2+b3) (by split<;>omega),w (if 16777216*b4+65536*b5+256*b6+b7>=2147483648 then 16777216*b4+65536*b5+256*b6+b7-4294967296 else 16777216*b4+65536*b5+256*b6+b7) (by split<;>omega),q7];unfold gg8;by_cases a:b0%32=14\/b0%32=15
 ·rw [W4 a,if_pos rfl,if_neg (by omega),if_pos a,ue7 (by omega)];rfl
 ·rw [W5 a,if_neg (by simp),if_neg a];rfl
def kq6 (i:Ins) (b:List Int):Bool:=zd3 i&&decide (vw2 i=b)
section
variable (b0 b1 b2 b3 b4 b5 b6 b7:Int) (h0:yj0 b0) (h1:yj0 b1) (h2:yj0 b2) (h3:yj0 b3) (h4:yj0 b4) (h5:yj0 b5) (h6:yj0 b6) (h7:yj0 b7)
 (z0:Int) (z1:Bool) (z2 z3:Int) (z4:Bool) (z5 z6 z7:Int) (c0:Int) (c1:Bool) (c2 c3:Int) (c4:Bool) (c5 c6 c7:Int)
include h0 h1 h2 h3 h4 h5 h6 h7
end
def gz2 (a a1 a2 a3 a4 b c d b0 b1 b2 b3 b4 b5 b6 b7):qaj v8 [a,a1,a2,a3,a4,b,c,d] [b0,b1,b2,b3,b4,b5,b6,b7]=j9 (a != b0) (some false) (j9 (a1 != b1) (some false) (j9 (a2 != b2) (some false) (j9 (a3 != b3) (some false) (j9 (a4 != b4) (some false) (j9 (b != b5) (some false) (j9 (c != b6) (some false) (j9 (d != b7) (some false) (some true)))))))):=by kernel_rfl
def jd4 (i b0 b1 b2 b3 b4 b5 b6 b7):qaj v8 (vw2 i) [b0,b1,b2,b3,b4,b5,b6,b7]=some (decide (vw2 i= [b0,b1,b2,b3,b4,b5,b6,b7])):=by
 unfold vw2;generalize i.Op+64*upP i+(if i.UseImm=true then 32 else 0)=a0;generalize 16*i.Dst+i.Src=a1;generalize i.Off%65536/256=a2;generalize i.Off%256=a3;generalize i.Imm%4294967296/16777216=a4;generalize i.Imm%4294967296/65536%256=a5;generalize i.Imm%4294967296/256%256=a6;generalize i.Imm%256=a7;rw [gz2];simp only [q7,List.cons.injEq,bne_iff_ne,ne_eq,and_true];by_cases h0:a0=b0
 ·by_cases h1:a1=b1
  ·by_cases h2:a2=b2
   ·by_cases h3:a3=b3
    ·by_cases h4:a4=b4
     ·by_cases h5:a5=b5
      ·by_cases h6:a6=b6
       ·by_cases h7:a7=b7
        ·simp [*]
        ·simp [*]
       ·simp [*]
      ·simp [*]
     ·simp [*]
    ·simp [*]
   ·simp [*]
  ·simp [*]
 ·simp [*]
def jd1:List Int->Ins
 | [b0,b1,b2,b3,b4,b5,b6,b7]=>gg8 (!decide (b0%32=14\/b0%32=15)&&b0/64==1) b0 b1 b2 b3 b4 b5 b6 b7
 |_=>zb1
def gj3 (b:List Int):Option Ins:=if kq6 (jd1 b) b=true then some (jd1 b) else none
def yl6 {a} (s:List a) (h:0<s.length): ∃b r,s=b::r/\r.length+1=s.length:=by
 cases s with
 |nil=>simp at h
 |cons b r=>exact ⟨b,r,rfl,rfl⟩
def ud8 (s:List Int) (m:Nat) (h:s.length=8*(m+1)): ∃b0 b1 b2 b3 b4 b5 b6 b7 r,s= [b0,b1,b2,b3,b4,b5,b6,b7]++r/\r.length=8*m:=by
 obtain ⟨b0,a,rfl,j⟩:=yl6 s (by omega);obtain ⟨b1,b,rfl,k⟩:=yl6 a (by omega);obtain ⟨b2,c,rfl,l⟩:=yl6 b (by omega);obtain ⟨b3,d,rfl,n⟩:=yl6 c (by omega);obtain ⟨b4,e,rfl,o⟩:=yl6 d (by omega);obtain ⟨b5,f,rfl,p⟩:=yl6 e (by omega);obtain ⟨b6,g,rfl,q⟩:=yl6 f (by omega);obtain ⟨b7,i,rfl,t⟩:=yl6 g (by omega);exact ⟨b0,b1,b2,b3,b4,b5,b6,b7,i,rfl,by simp at h;omega⟩
def vc8:Nat->List Int->Option (List Ins)
 |0,_=>some []
 |m+1,b=>match gj3 (b.take 8) with
  |none=>none
  |some i=>match vc8 m (b.drop 8) with
   |none=>none
   |some l=>some (i::l)
def zv2 (a:List Ins):Option (List Ins)->List Ins×Int
 |none=>([],4)
 |some l=>(a++l,0)
def vk6 (b0 b1 b2 b3 b4 b5 b6 b7 r m a):zv2 a (vc8 (m+1) ([b0,b1,b2,b3,b4,b5,b6,b7]++r))=match gj3 [b0,b1,b2,b3,b4,b5,b6,b7] with
  |none=>([],4)
  |some i=>zv2 (a++ [i]) (vc8 m r):=by
 show zv2 a (match gj3 [b0,b1,b2,b3,b4,b5,b6,b7] with|none=>none|some i=>match vc8 m r with|none=>none|some l=>some (i::l))=_;cases gj3 [b0,b1,b2,b3,b4,b5,b6,b7] with
 |none=>rfl
 |some i=>
  cases vc8 m r with
  |none=>rfl
  |some l=>show (a++i::l,(0:Int))=(a++ [i]++l,0);rw [Q2];rfl
def kh8: ∀(m n s a),s.length=8*m->(∀x∈s,yj0 x)->a.length+m<=1000000->2*m+1<=n->qb9 n s a=some (zv2 a (vc8 m s))
 |0,n,s,a,d,_,_,h=>by
  obtain ⟨n,rfl⟩: ∃k,n=k+1:=⟨n-1,by omega⟩;rw [jt0,W5 (by omega),j6];show _=some (a++ [],(0:Int));rw [K7]
 |m+1,n,s,a,d,f,t,h=>by
  obtain ⟨n,rfl⟩: ∃k,n=k+2:=⟨n-2,by omega⟩;obtain ⟨b0,b1,b2,b3,b4,b5,b6,b7,r,rfl,j⟩:=ud8 s m d;have l:=fun i=>kh8 m n r (a++ [i]) j (fun x e=>f x (List.mem_append_right _ e)) (by rw [X9];simp;omega) (by omega);have b: ∀x∈ [b0,b1,b2,b3,b4,b5,b6,b7],yj0 x:=fun x e=>f x (List.mem_append_left _ e);simp only [Z0,J2,or_false,forall_eq_or_imp,forall_eq] at b;obtain ⟨h0,h1,h2,h3,h4,h5,h6,h7⟩:=b;have o:List.take 8 (List.drop 0 ([b0,b1,b2,b3,b4,b5,b6,b7]++r))= [b0,b1,b2,b3,b4,b5,b6,b7]:=rfl;have p:([b0,b1,b2,b3,b4,b5,b6,b7]++r).length=8*(m+1):=d;have q:List.take ((((([b0,b1,b2,b3,b4,b5,b6,b7]++r).length:Nat):Int).toNat)-8) (List.drop 8 ([b0,b1,b2,b3,b4,b5,b6,b7]++r))=r:=by
   rw [p];show List.take _ r=r;exact Q3 (by omega)
  rw [vk6];rw [jt0,W4 (by omega),j8,if_pos (by omega),o,gz8 _ _ _ _ _ _ _ _ h0 h1 h2 h3 h4 h5 h6 h7,j4,show gg8 (!decide (b0%32=14\/b0%32=15)&&b0/64==1) b0 b1 b2 b3 b4 b5 b6 b7=jd1 [b0,b1,b2,b3,b4,b5,b6,b7] from rfl];simp only [jg6,j4,if_pos (show 0<=(0:Int)/\(0:Int)<=(8:Int)/\(8:Int)<=((([b0,b1,b2,b3,b4,b5,b6,b7]++r).length:Nat):Int) by omega)];show _=some (match (if kq6 (jd1 [b0,b1,b2,b3,b4,b5,b6,b7]) [b0,b1,b2,b3,b4,b5,b6,b7]=true then some (jd1 [b0,b1,b2,b3,b4,b5,b6,b7]) else none) with|none=>([],4)|some i=>zv2 (a++ [i]) (vc8 m r));unfold kq6;change j9 (!zd3 (jd1 [b0,b1,b2,b3,b4,b5,b6,b7])) _ (j7 (qbj v8 (jd1 [b0,b1,b2,b3,b4,b5,b6,b7])) _)=_;generalize jd1 [b0,b1,b2,b3,b4,b5,b6,b7]=c;cases hr':zd3 c with
  |false=>rw [U5,j8,js9,j8];rfl
  |true=>
   rw [U1,j6,kz3 c (fit c hr'),j4,jd4,j4,js9];by_cases g:vw2 c= [b0,b1,b2,b3,b4,b5,b6,b7]
   ·rw [W4 g,U1,j6,if_pos (by omega),if_pos (by omega),q];exact l c
   ·rw [W5 g];rfl
def getsP (b:List Int):List Ins×Int:=if b.length>32768 then ([],3) else if b.length%8=0 then zv2 [] (vc8 (b.length/8) b) else ([],4)
def get_p (b) (a: ∀x∈b,yj0 x):qak v8 b=some (getsP b):=by
 rw [wd8];unfold getsP;by_cases h1:b.length>32768
 ·rw [if_pos h1,W4 (by omega),j8]
 rw [if_neg h1,W5 (by omega),j6,q7,Int.tmod_eq_emod_of_nonneg (by omega)];by_cases h2:b.length%8=0
 ·rw [if_pos h2,if_neg (by simp;omega)];exact kh8 (b.length/8) v8 b [] (by omega) a (by simp;omega) (by unfold v8;omega)
 ·rw [if_neg h2,if_pos (by simp;omega)]
end Go.Y.C
namespace Go.Y.E
open Go.RowKit Go.V Go.X Go.Proofs Go.Y
def q7 {R} (c:Bool) (x y:Option R):j9 c x y=if c=true then x else y:=rfl
def j8 {R} (x y:Option R):j9 true x y=x:=rfl
def j6 {R} (x y:Option R):j9 false x y=y:=rfl
def j4 {b c} (a:b) (f:b->Option c):j7 (some a) f=f a:=rfl
def zs6 (c x):j9 c (some x) (some false)=some (c&&x):=by cases c<;>rfl
def jz8 (x):qdx v8 [1,2,4,8] x=j9 (x==1) (some 0) (j9 (x==2) (some 1) (j9 (x==4) (some 2) (j9 (x==8) (some 3) (some (-1))))):=by kernel_rfl
def ze6 (x:Int):Bool:=x==1||(x==2||(x==4||x==8))
def zd4 (x):qco v8 [1,2,4,8] x=some (ze6 x):=by
 rw [kn3,jz8];unfold ze6;cases x==1<;>cases x==2<;>cases x==4<;>cases x==8<;>rfl
def yb4 (x a b):qbv v8 x a b=some (decide (a<=x)&&decide (x<=b)):=by rw [km0,zs6]
def zl8 (n m:Int):Bool:=decide (0<=n)&&decide (n<=m)
def zd0 (i:Ins):Bool:=if i.UseImm=true then i.Src==0&&(decide (-2147483648<=i.Imm)&&decide (i.Imm<2147483648)) else zl8 i.Src 10&&i.Imm==0
def zv1 (i:Ins):Bool:=decide (-32768<=i.Off)&&decide (i.Off<32768)
def zd3 (i:Ins):Bool:=
 if 1<=i.Op/\i.Op<=12 then zl8 i.Dst 9&&(zd0 i&&(i.Off==0&&i.Size==0))
 else if i.Op=13 then zl8 i.Dst 9&&(i.Src==0&&(!i.UseImm&&(i.Off==0&&(i.Imm==0&&i.Size==0))))
 else if i.Op=14 then zl8 i.Dst 9&&(zl8 i.Src 10&&(zv1 i&&(ze6 i.Size&&(!i.Narrow&&(!i.UseImm&&i.Imm==0)))))
 else if i.Op=15 then zl8 i.Dst 10&&(zv1 i&&(ze6 i.Size&&(zd0 i&& !i.Narrow)))
 else if i.Op=16 then zv1 i&&(!i.Narrow&&(i.Dst==0&&(i.Src==0&&(!i.UseImm&&(i.Imm==0&&i.Size==0)))))
 else if 17<=i.Op/\i.Op<=27 then zl8 i.Dst 10&&(zv1 i&&(zd0 i&&i.Size==0))
 else decide (i.Op=28)&&(!i.Narrow&&(i.Dst==0&&(i.Src==0&&(!i.UseImm&&(i.Off==0&&(i.Imm==0&&i.Size==0))))))
def vd8 (i):qck v8 i=some (decide (16<=i.Op)&&decide (i.Op<=27)):=by rw [wk0,zs6]
def yq6 (a):qap v8 a=some (if 1<=a/\a<=12 then 201 else if a=13 then 193 else if a=14 then 181 else if a=15 then 186 else if a=16 then 144 else if 17<=a/\a<=27 then 218 else if a=28 then 128 else 0):=by
 rw [kk3];simp only [jt4,q7]
 grind
def jg6 (i):qa v8 i=some (zd3 i):=by
 rw [gj7,yq6];obtain ⟨b,c,d,s,u,e,g,sz⟩:=i;simp only [j4];have l: ∀(n:Nat) (f m:Int) (z:Bool) (x:Ins),jo4 (n+1) f m z b c d s u e g sz x.Op x.Narrow x.Dst x.Src x.UseImm x.Off x.Imm x.Size=
   some (f != 0&&((b==x.Op&&(c==x.Narrow&&(d==x.Dst&&(s==x.Src&&(u==x.UseImm&&(e==x.Off&&(g==x.Imm&&sz==x.Size)))))))&&((decide (0<=d)&&decide (d<=m))&&((decide (0<=s)&&decide (s<=10))&&((decide (-32768<=e)&&decide (e<=32767))&&((decide (-2147483648<=g)&&decide (g<=2147483647))&&z)))))):=by
  intro n f m z x;simp only [qk4,yb4,j4,zs6]
 have a: ∀(n:Nat) (f m:Int) (z:Bool) (q:Int) (a1:Bool) (a2 a3:Int) (a4:Bool) (r t v:Int),jo4 (n+1) f m z b c d s u e g sz q a1 a2 a3 a4 r t v=_:=fun n f m z q a1 a2 a3 a4 r t v=>l n f m z ⟨q,a1,a2,a3,a4,r,t,v⟩;by_cases h:1<=b/\b<=12
 ·rw [if_pos h];cases c<;>cases u<;>simp only [zg2,zg3,zg4,zg5,zg6,zg7,zg8,zg9,zh0,a,zd4,j4,U1,U5,j8,j6,show (w8 .i64 201 3 != 0)=true from by decide,show (w8 .i64 201 4 != 0)=false from by decide,show (w8 .i64 201 8 != 0)=true from by decide,show (w8 .i64 201 16 != 0)=false from by decide,show (w8 .i64 201 32 != 0)=false from by decide,show (w8 .i64 201 64 != 0)=true from by decide,show (w8 .i64 201 1 != 0)=true from by decide,show (w8 .i64 201 32==0)=true from by decide]<;>(refine congrArg some ?_;rw [V1];simp [zd3,zd0,zl8,zv1, *]<;>grind)
 by_cases j:b=13
 ·rw [if_neg h,if_pos j];cases c<;>cases u<;>simp only [zg2,zg3,zg4,zg5,zg6,zg7,zg8,zg9,zh0,a,zd4,j4,U1,U5,j8,j6,show (w8 .i64 193 3 != 0)=true from by decide,show (w8 .i64 193 4 != 0)=false from by decide,show (w8 .i64 193 8 != 0)=false from by decide,show (w8 .i64 193 16 != 0)=false from by decide,show (w8 .i64 193 32 != 0)=false from by decide,show (w8 .i64 193 64 != 0)=true from by decide,show (w8 .i64 193 1 != 0)=true from by decide,show (w8 .i64 193 32==0)=true from by decide]<;>(refine congrArg some ?_;rw [V1];simp [zd3,zd0,zl8,zv1, *]<;>grind)
 by_cases k:b=14
 ·rw [if_neg h,if_neg j,if_pos k];cases c<;>cases u<;>simp only [zg2,zg3,zg4,zg5,zg6,zg7,zg8,zg9,zh0,a,zd4,j4,U1,U5,j8,j6,show (w8 .i64 181 3 != 0)=true from by decide,show (w8 .i64 181 4 != 0)=true from by decide,show (w8 .i64 181 8 != 0)=false from by decide,show (w8 .i64 181 16 != 0)=true from by decide,show (w8 .i64 181 32 != 0)=true from by decide,show (w8 .i64 181 64 != 0)=false from by decide,show (w8 .i64 181 1 != 0)=true from by decide,show (w8 .i64 181 32==0)=false from by decide]<;>(refine congrArg some ?_;rw [V1];simp [zd3,zd0,zl8,zv1, *]<;>grind)
 by_cases o:b=15
 ·rw [if_neg h,if_neg j,if_neg k,if_pos o];cases c<;>cases u<;>simp only [zg2,zg3,zg4,zg5,zg6,zg7,zg8,zg9,zh0,a,zd4,j4,U1,U5,j8,j6,show (w8 .i64 186 3 != 0)=true from by decide,show (w8 .i64 186 4 != 0)=false from by decide,show (w8 .i64 186 8 != 0)=true from by decide,show (w8 .i64 186 16 != 0)=true from by decide,show (w8 .i64 186 32 != 0)=true from by decide,show (w8 .i64 186 64 != 0)=false from by decide,show (w8 .i64 186 1 != 0)=false from by decide,show (w8 .i64 186 32==0)=false from by decide]<;>(refine congrArg some ?_;rw [V1];simp [zd3,zd0,zl8,zv1, *]<;>grind)
 by_cases p:b=16
 ·rw [if_neg h,if_neg j,if_neg k,if_neg o,if_pos p];cases c<;>cases u<;>simp only [zg2,zg3,zg4,zg5,zg6,zg7,zg8,zg9,zh0,a,zd4,j4,U1,U5,j8,j6,show (w8 .i64 144 3 != 0)=false from by decide,show (w8 .i64 144 4 != 0)=false from by decide,show (w8 .i64 144 8 != 0)=false from by decide,show (w8 .i64 144 16 != 0)=true from by decide,show (w8 .i64 144 32 != 0)=false from by decide,show (w8 .i64 144 64 != 0)=false from by decide,show (w8 .i64 144 1 != 0)=false from by decide,show (w8 .i64 144 32==0)=true from by decide]<;>(refine congrArg some ?_;rw [V1];simp [zd3,zd0,zl8,zv1, *]<;>grind)
 by_cases w:17<=b/\b<=27
 ·rw [if_neg h,if_neg j,if_neg k,if_neg o,if_neg p,if_pos w];cases c<;>cases u<;>simp only [zg2,zg3,zg4,zg5,zg6,zg7,zg8,zg9,zh0,a,zd4,j4,U1,U5,j8,j6,show (w8 .i64 218 3 != 0)=true from by decide,show (w8 .i64 218 4 != 0)=false from by decide,show (w8 .i64 218 8 != 0)=true from by decide,show (w8 .i64 218 16 != 0)=true from by decide,show (w8 .i64 218 32 != 0)=false from by decide,show (w8 .i64 218 64 != 0)=true from by decide,show (w8 .i64 218 1 != 0)=false from by decide,show (w8 .i64 218 32==0)=true from by decide]<;>(refine congrArg some ?_;rw [V1];simp [zd3,zd0,zl8,zv1, *]<;>grind)
 by_cases y:b=28
 ·rw [if_neg h,if_neg j,if_neg k,if_neg o,if_neg p,if_neg w,if_pos y];cases c<;>cases u<;>simp only [zg2,zg3,zg4,zg5,zg6,zg7,zg8,zg9,zh0,a,zd4,j4,U1,U5,j8,j6,show (w8 .i64 128 3 != 0)=false from by decide,show (w8 .i64 128 4 != 0)=false from by decide,show (w8 .i64 128 8 != 0)=false from by decide,show (w8 .i64 128 16 != 0)=false from by decide,show (w8 .i64 128 32 != 0)=false from by decide,show (w8 .i64 128 64 != 0)=false from by decide,show (w8 .i64 128 1 != 0)=false from by decide,show (w8 .i64 128 32==0)=true from by decide]<;>(refine congrArg some ?_;rw [V1];simp [zd3,zd0,zl8,zv1, *]<;>grind)
 ·rw [if_neg h,if_neg j,if_neg k,if_neg o,if_neg p,if_neg w,if_neg y];cases c<;>cases u<;>simp only [zg2,zg3,zg4,zg5,zg6,zg7,zg8,zg9,zh0,a,zd4,j4,U1,U5,j8,j6,show (w8 .i64 0 3 != 0)=false from by decide,show (w8 .i64 0 4 != 0)=false from by decide,show (w8 .i64 0 8 != 0)=false from by decide,show (w8 .i64 0 16 != 0)=false from by decide,show (w8 .i64 0 32 != 0)=false from by decide,show (w8 .i64 0 64 != 0)=false from by decide,show (w8 .i64 0 1 != 0)=false from by decide,show (w8 .i64 0 32==0)=true from by decide]<;>(refine congrArg some ?_;rw [V1];simp [zd3,zd0,zl8,zv1, *]<;>grind)
def wa1 (x y):qct v8 x y=some (decide (x<y)):=by
 rw [wl0,wo5,j4];simp [q7]
def um1 (a):qfh v8 [a]=some ([a],()):=by kernel_rfl
def ue0 (a b):qfl v8 [a,b] 0 2=j7 (qct v8 b a) (fun y=>j9 y (some ([b,a],())) (some ([a,b],()))):=by kernel_rfl
def ue1 (a b):qfh v8 [a,b]=j7 (j7 (qfl v8 [a,b] 0 2) fun y=>some (y.1,())) fun y=>some (y.1,()):=by kernel_rfl
def um2 (a b):qfh v8 [a,b]=some (if b<a then [b,a] else [a,b],()):=by
 rw [ue1,ue0,wa1,j4];by_cases h:b<a
 ·rw [if_pos h,W4 h];rfl
 ·rw [if_neg h,W5 h];rfl
def ul5 (a b):qfn v8 [a,b] 1 1=some (([a,b],()),()):=by kernel_rfl
def ul3 (a):qfk v8 [a]=some (([a],()),((0,1),())):=by kernel_rfl
def uj3 (a b):qfk v8 [a,b]=j9 (b==a) (some (([a,0],()),((0,1),()))) (some (([a,b],()),((0,2),()))):=by kernel_rfl
def ul4 (a b):qfm v8 [a,b] 1 1=some (([a,b],()),((1,1),())):=by kernel_rfl
def yj3 (i:Ins) (nx a:Int):List Int:=if i.Op=16 then [a] else if 17<=i.Op/\i.Op<=27 then (if a<nx then [a,nx] else if nx<a then [nx,a] else [nx]) else [nx]
def zr4 (l:List Ins) (at_:Int):List Int:=
 if 0<=at_/\at_<l.length then
  let i:=l.getD at_.toNat zb1
  if zd3 i=true/\i.Op≠28 then yj3 i (IntKind.i64.wrap (at_+1)) (IntKind.i64.wrap (IntKind.i64.wrap (at_+1)+i.Off)) else []
 else []
def ua5 (y:List Int) (o n:Nat) (l:List Int):Prop:=o+n<=y.length/\List.take n (List.drop o y)=l
def gb5 (l at_): ∃y o n,qz v8 l at_=some ((),((y,o,n),()))/\ua5 y o n (zr4 l at_):=by
 have a: ∀b,(b=false->0<=at_/\at_<((l.length:Nat):Int))-> ∃y o n,qd0 v8 l at_ b=some ((),((y,o,n),()))/\ua5 y o n (if b=true then [] else yj3 (l.getD at_.toNat zb1) (IntKind.i64.wrap (at_+1)) (IntKind.i64.wrap (IntKind.i64.wrap (at_+1)+(l.getD at_.toNat zb1).Off))):=by
  intro b p;rw [ke6,q7];by_cases c:b=true
  ·rw [if_pos c,if_pos c];exact ⟨[],0,0,rfl,by simp,rfl⟩
  ·rw [if_neg c,if_neg c];have f:=p (by simpa using c);rw [if_pos f,if_pos f,vd8,j4];simp only [ke7,if_pos f];generalize l.getD at_.toNat zb1=i;generalize IntKind.i64.wrap (at_+1)=nx;generalize IntKind.i64.wrap (nx+i.Off)=to;unfold yj3;by_cases d:i.Op=16
   ·rw [if_pos d,d];refine ⟨[nx,to],1,1,?_,by simp,rfl⟩;have q:(((([nx,to]:List Int).length:Nat):Int).toNat)-1=1:=rfl;rw [show (decide (16<=(16:Int))&&decide ((16:Int)<=27))=true from rfl,show ((16:Int)==16)=true from rfl,j8,j8,if_pos (by simp),q,ul5,j4,ul4,j4]
   ·rw [if_neg d];have j:(i.Op==16)=false:=by simpa using d
    by_cases m:17<=i.Op/\i.Op<=27
    ·rw [if_pos m,j,show (decide (16<=i.Op)&&decide (i.Op<=27))=true from by simp;omega,j8,j6,um2,j4];by_cases g:to<nx
     ·rw [if_pos g,if_pos g,uj3,show (nx==to)=false from by simp;omega,j6,j4];exact ⟨_,_,_,rfl,by simp,rfl⟩
     ·rw [if_neg g,if_neg g,uj3];by_cases k:nx<to
      ·rw [if_pos k,show (to==nx)=false from by simp;omega,j6,j4];exact ⟨_,_,_,rfl,by simp,rfl⟩
      ·rw [if_neg k,show (to==nx)=true from by simp;omega,j8,j4];exact ⟨_,_,_,rfl,by simp,rfl⟩
    ·rw [if_neg m,j,show (decide (16<=i.Op)&&decide (i.Op<=27))=false from by simp;omega,j6,j6,um1,j4,ul3,j4];exact ⟨_,_,_,rfl,by simp,rfl⟩
 rw [ui1];unfold zr4;by_cases g:at_<0
 ·rw [W4 g,j8,if_neg (by omega)];simpa using a true (by simp)
 rw [W5 g,j6];by_cases k:at_>=((l.length:Nat):Int)
 ·rw [W4 k,j8,if_neg (by omega)];simpa using a true (by simp)
 have f:0<=at_/\at_<((l.length:Nat):Int):=by omega
 rw [W5 k,j6,if_pos f,if_pos f,jg6,j4];simp only [if_pos f];cases hr:zd3 (l.getD at_.toNat zb1) with
 |false=>simpa [j8] using a true (by simp)
 |true=>
  simp only [U1,j6,true_and];by_cases e:(l.getD at_.toNat zb1).Op=28
  ·rw [if_neg (fun h=>h e),show ((l.getD at_.toNat zb1).Op==28)=true from by simpa using e];simpa using a true (by simp)
  ·rw [if_pos e,show ((l.getD at_.toNat zb1).Op==28)=false from by simpa using e];simpa using a false (fun _=>f)
def zc3 {x} (h: -9223372036854775808<=x/\x<=9223372036854775807):IntKind.i64.wrap x=x:=by
 unfold IntKind.wrap;simp [IntKind.bits,IntKind.signed];omega
def loop {g} (f:Nat->Nat->Option g) (c len:Nat) (r:Option g) (a: ∀n k,k<len->f (n+c) k=f n (k+1)) (b: ∀n,f (n+1) len=r): ∀m k n,k+m=len->c*m+1<=n->f n k=r
 |0,k,n,h,e=>by
  obtain ⟨d,rfl⟩: ∃d,n=d+1:=⟨n-1,by omega⟩;have:k=len:=by omega
  subst this;exact b d
 |m+1,k,n,h,e=>by
  obtain ⟨d,rfl⟩: ∃d,n=d+c:=⟨n-c,by rw [N1] at e;omega⟩;rw [a d k (by omega)];exact loop f c len r a b m (k+1) d (by omega) (by rw [N1] at e;omega)
def vs3 {d} (f:Nat->Nat->Option d) (c len:Nat) (r:Option d) (a: ∀n k,k<len->f (n+c) k=f n (k+1)) (b: ∀n,f (n+1) len=r) (n:Nat) (e:c*len+1<=n):f n 0=r:=loop f c len r a b len 0 n (by omega) e
def nx {k len:Nat} (h:k<len) (a:len<=1000000000):IntKind.i64.wrap ((k:Int)+1)=((k+1:Nat):Int):=by rw [zc3 (by omega)];omega
def vm3 (l a):(zr4 l a).length<=400000000:=by
 unfold zr4 yj3;grind
def yy9 (a:Nat->Int):Nat->Nat->Option Fault
 |_,0=>none
 |k,m+1=>if a k=0 then yy9 a (k+1) m else some ⟨a k,(k:Int)⟩
def qv1 {q} (f:Nat->Nat->Option q) (p:q->Fault) (a:Nat->Int) (c len b:Nat) (F:Fault)
  (d: ∀n k,k<len->b<=n->(a k=0/\f (n+c) k=f n (k+1))\/(a k≠0/\ ∃Y,f (n+c) k=some Y/\p Y=⟨a k,(k:Int)⟩))
  (g:(∀k,k<len->a k=0)-> ∀n,b<=n-> ∃Y,f n len=some Y/\p Y=F):
  ∀m k n,k+m=len->c*m+b<=n->(∀j,j<k->a j=0)-> ∃Y,f n k=some Y/\p Y=(yy9 a k m).getD F
 |0,k,n,s,r,h=>by
  have:k=len:=by omega
  subst this;exact g h n (by omega)
 |m+1,k,n,s,r,h=>by
  rw [N1] at r;obtain ⟨i,rfl⟩: ∃i,n=i+c:=⟨n-c,by omega⟩;unfold yy9;rcases d i k (by omega) (by omega) with ⟨l,o⟩|⟨l,Y,o,t⟩
  ·rw [if_pos l,o];exact qv1 f p a c len b F d g m (k+1) i (by omega) (by omega) (fun j u=>by
    by_cases e:j=k
    ·subst e;exact l
    ·exact h j (by omega))
  ·rw [if_neg l];exact ⟨Y,o,t⟩
def yc2 (a:List Int) (r:List Bool):List Bool:=a.foldl (fun r x=>r.set x.toNat true) r
def gx4 (l:List Ins) (r:List Bool) (k:Nat):List Bool:=if r.getD k false=true then yc2 (zr4 l (k:Int)) r else r
def stP (l:List Ins):Nat->List Bool
 |0=>(List.replicate l.length false).set 0 true
 |k+1=>gx4 l (stP l k) k
def yu3: ∀(a r),(yc2 a r).length=r.length
 | [],_=>rfl
 |x::a,r=>by
  show (yc2 a (r.set x.toNat true)).length=_;rw [yu3 a,Q1]
def jy6 (l): ∀k,(stP l k).length=l.length
 |0=>by unfold stP;rw [Q1,Z9]
 |k+1=>by
  unfold stP gx4;split
  ·rw [yu3,jy6 l k]
  ·exact jy6 l k
def qo1 (r:List Bool) (k:Nat):r.set k (r.getD k false)=r:=by
 by_cases h:k<r.length
 ·rw [Y2,Y0 h];exact M0 h
 ·exact List.set_eq_of_length_le (by omega)
def ka4 (r:List Bool) (k j:Nat) (b:Bool):(r.set k b).getD j false=if k=j/\j<r.length then b else r.getD j false:=by
 rw [Y2,Y2,List.getElem?_set];by_cases h:k=j
 ·subst h;by_cases a:k<r.length
  ·rw [if_pos rfl,if_pos a,if_pos ⟨rfl,a⟩];rfl
  ·rw [if_pos rfl,if_neg a,if_neg (fun h=>a h.2),Y5 (by omega)]
 ·rw [if_neg h,if_neg (fun c=>h c.1)]
def jq2: ∀(a r j),(∀x∈a,x.toNat≠j)->(yc2 a r).getD j false=r.getD j false
 | [],_,_,_=>rfl
 |x::a,r,j,h=>by
  show (yc2 a (r.set x.toNat true)).getD j false=_;rw [jq2 a _ j (fun y b=>h y (Z4 _ b)),ka4,if_neg (fun c=>h x (U2) c.1)]
def qr5 (a:List Int) (r:List Bool) (j:Nat) (h:j<a.length):yc2 (a.take (j+1)) r=(yc2 (a.take j) r).set (a.getD j 0).toNat true:=by
 unfold yc2;rw [List.take_add_one,List.foldl_append,Y0 h,Y2,Y0 h];rfl
def Fwd (l:List Ins):Prop:= ∀k,k<l.length-> ∀x∈zr4 l (k:Int),(k:Int)<x/\x<l.length
def c1 (l:List Ins) (k:Nat):Int:=if zd3 (l.getD k zb1)=true then 0 else 4
def kq7 (i:Ins):Bool:=decide (16<=i.Op)&&decide (i.Op<=27)
def c2 (l:List Ins) (k:Nat):Int:=if kq7 (l.getD k zb1)=true then (if (l.getD k zb1).Off<0 then 100 else if (k:Int)+1+(l.getD k zb1).Off>=(l.length:Int) then 101 else 0) else 0
def c3 (l:List Ins) (k:Nat):Int:=if k+1=l.length/\(l.getD k zb1).Op≠28/\(l.getD k zb1).Op≠16 then 102 else 0
def c4 (l:List Ins) (k:Nat):Int:=if (stP l (k+1)).getD k false=true then 0 else 103
def ye1 (l:List Ins):Fault:=
 if l.length=0 then ⟨6,0⟩ else if l.length>4096 then ⟨3,0⟩ else
  (yy9 (c1 l) 0 l.length).getD ((yy9 (c2 l) 0 l.length).getD ((yy9 (c3 l) 0 l.length).getD ((yy9 (c4 l) 0 l.length).getD ⟨0,0⟩)))
def yf1 {l k} (h:c1 l k=0):zd3 (l.getD k zb1)=true:=by
 unfold c1 at h;split at h
 ·assumption
 ·cases h
def yi6 (i) (h:zd3 i=true): -32768<=i.Off/\i.Off<=32767/\1<=i.Op/\i.Op<=28:=by
 unfold zd3 at h
 grind [zd0,zv1,zl8,ze6]
def kh7 {l} (o:l.length<=4096) (g: ∀k,k<l.length->c1 l k=0) (h: ∀k,k<l.length->c2 l k=0) (j: ∀k,k<l.length->c3 l k=0):Fwd l:=by
 intro k c x a;have r:=yf1 (g k c);have a2:=h k c;have a3:=j k c;have p:=yi6 _ r;unfold c2 kq7 at a2;unfold c3 at a3;unfold zr4 at a;rw [if_pos (by omega)] at a;simp only [Z1] at a;generalize l.getD k zb1=i at *;split at a
 ·rename_i m;obtain ⟨_,d⟩:=m;rw [zc3 (x:=(k:Int)+1) (by omega),zc3 (by omega)] at a;unfold yj3 at a;by_cases b:i.Op=16
  ·rw [if_pos b] at a;simp only [Z0,J2,or_false] at a;subst a;rw [if_pos (by simp;omega)] at a2;split at a2
   ·cases a2
   ·split at a2
    ·cases a2
    ·omega
  ·rw [if_neg b] at a;have e:k+1≠l.length:=by
    intro n;rw [if_pos ⟨n,d,b⟩] at a3;cases a3
   by_cases f:17<=i.Op/\i.Op<=27
   ·rw [if_pos f] at a;rw [if_pos (by simp;omega)] at a2;split at a2
    ·cases a2
    ·split at a2
     ·cases a2
     ·split at a
      ·simp only [Z0,J2,or_false] at a;rcases a with rfl|rfl<;>omega
      ·split at a
       ·simp only [Z0,J2,or_false] at a;rcases a with rfl|rfl<;>omega
       ·simp only [Z0,J2,or_false] at a;subst a;omega
   ·rw [if_neg f] at a;simp only [Z0,J2,or_false] at a;subst a;omega
 ·cases a
def jc2 (b x):qbn v8 b x=some (if b=true then x else 0):=by
 rw [wi2];cases b<;>rfl
def p1 (l:List Ins) (k:Nat) (a:k<l.length):qdu v8 (k:Int) l=some (((l,()),()),(c1 l k,())):=by
 rw [wq3,if_pos (by omega),jg6,j4,jc2,j4,Z1];unfold c1;cases zd3 (l.getD k zb1)<;>rfl
def p2 (l k) (c:k<l.length) (d:l.length<=4096) (b:c1 l k=0):qdv v8 (k:Int) l=some (((l,()),()),(c2 l k,())):=by
 have e:=yi6 _ (yf1 b);rw [wq5,if_pos (by omega),if_pos (by omega),vd8,j4,Z1,zc3 (x:=(k:Int)+1) (by omega),zc3 (by omega),jc2];unfold c2 kq7;generalize l.getD k zb1=i at *;cases decide (16<=i.Op)&&decide (i.Op<=27) with
 |false=>rfl
 |true=>
  rw [U1,j6,if_pos rfl];by_cases h:i.Off<0
  ·rw [W4 (by omega),j8,if_pos h]
  ·rw [W5 (by omega),j6,if_neg h,j4];by_cases a:(k:Int)+1+i.Off>=(l.length:Int)
   ·rw [W4 a,if_pos a];rfl
   ·rw [W5 a,if_neg a];rfl
def p3 (l:List Ins) (k:Nat) (e:k<l.length) (f:l.length<=4096):qdw v8 (k:Int) l=some (((l,()),()),(c3 l k,())):=by
 rw [wq7,zc3 (by omega),q7];unfold c3;simp only [Z1];by_cases h:k+1=l.length
 ·rw [if_pos (by simp;omega),if_pos (by omega),q7];by_cases a:(l.getD k zb1).Op=28
  ·rw [if_neg (by simpa using a),if_neg (fun d=>d.2.1 a),jc2,j4];rfl
  ·rw [if_pos (by simpa using a),if_pos (by omega),jc2,j4];by_cases b:(l.getD k zb1).Op=16
   ·rw [if_neg (c:=k+1=l.length/\(l.getD k zb1).Op≠28/\(l.getD k zb1).Op≠16) (fun d=>d.2.2 b),b];rfl
   ·rw [if_pos (c:=k+1=l.length/\(l.getD k zb1).Op≠28/\(l.getD k zb1).Op≠16) ⟨h,a,b⟩,if_pos (by simpa using b)]
 ·rw [if_neg (by simp;omega),if_neg (fun d=>h d.1),jc2,j4];rfl
def wb9 {y a o m} (h:ua5 y o m a) (j) (b:j<m):y.getD (o+j) 0=a.getD j 0/\a.length=m:=by
 obtain ⟨d,c⟩:=h;subst c;refine ⟨?_,by rw [Y6,Q6];omega⟩;rw [Y2,Y2,Z3,if_pos b,Q5]
def gz9 (a:List Int) (j:Nat) (b:j<a.length):a.getD j 0∈a:=by
 rw [Y2,Y0 b];exact J8 b
def p4 {l} (A:l.length<=4096) (t:Fwd l) (k) (u:k<l.length):qs v8 (k:Int) l (stP l k)=some (((l,()),((),()),stP l (k+1),()),(c4 l k,())):=by
 obtain ⟨y,o,m,e,c⟩:=gb5 l (k:Int);rw [uh0,e,j4];dsimp only;have B:(zr4 l (k:Int)).length=m:=by
  rw [<-c.2,Y6,Q6];have:=c.1;omega
 have a:=jy6 l k;have C:=vm3 l (k:Int);have v: ∀j,(if (stP l k).getD k false=true then yc2 ((zr4 l (k:Int)).take j) (stP l k) else stP l k).length=l.length:=by
  intro j;split
  ·rw [yu3,a]
  ·exact a
 have h: ∀j,(if (stP l k).getD k false=true then yc2 ((zr4 l (k:Int)).take j) (stP l k) else stP l k).getD k false=(stP l k).getD k false:=by
  intro j;split
  ·refine jq2 _ _ _ fun x i=>?_;have:=t k u x (J7 i);omega
  ·rfl
 have w:(if (stP l k).getD k false=true then yc2 ((zr4 l (k:Int)).take 0) (stP l k) else stP l k)=stP l k:=by
  rw [List.take_zero];split<;>rfl
 have Q:=vs3 (fun n j=>jp0 n (k:Int) o m ((m:Nat):Int) ((j:Nat):Int) l (if (stP l k).getD k false=true then yc2 ((zr4 l (k:Int)).take j) (stP l k) else stP l k) y) 2 m (some (((l,()),((),()),stP l (k+1),()),(c4 l k,()))) (fun n j p=>?_) (fun n=>?_) v8 (by unfold v8;omega)
 ·rw [w] at Q;exact Q
 ·show jp0 (n+1+1) (k:Int) o m ((m:Nat):Int) ((j:Nat):Int) l _ y=jp0 n (k:Int) o m ((m:Nat):Int) ((j+1:Nat):Int) l _ y;have i:=(wb9 c j p).1;have D:=t k u _ (gz9 (zr4 l (k:Int)) j (by omega));rw [ql6,W4 (by omega),j8,if_pos (by omega),if_pos (by have:=c.1;omega),Z1,i];have d:=v j;have b:=h j;have z:=qr5 (zr4 l (k:Int)) (stP l k) j (by omega);generalize (zr4 l (k:Int)).getD j 0=x at *;by_cases f:(stP l k).getD k false=true
  ·simp only [if_pos f] at d b⊢;rw [z];generalize yc2 ((zr4 l (k:Int)).take j) (stP l k)=r at *;have q:0<=x/\x<((r.length:Nat):Int):=by omega
   have s:0<=(k:Int)/\(k:Int)<((r.length:Nat):Int):=by omega
   simp only [if_pos q,if_pos s,ql5,nx (len:=m) p (by omega),Z1,b,f,q7,ite_self]
  ·simp only [if_neg f] at d b⊢;generalize E:stP l k=r at *;have q:0<=x/\x<((r.length:Nat):Int):=by omega
   have s:0<=(k:Int)/\(k:Int)<((r.length:Nat):Int):=by omega
   simp only [if_pos q,if_pos s,ql5,nx (len:=m) p (by omega),Z1,q7];by_cases g:r.getD x.toNat false=true
   ·rw [if_pos g,<-g,qo1]
   ·rw [if_neg g,Bool.eq_false_iff.2 f,<-Bool.eq_false_iff.2 g,qo1]
 ·show jp0 (n+1) (k:Int) o m ((m:Nat):Int) ((m:Nat):Int) l _ y=_;have d:=v m;have b:(if (stP l k).getD k false=true then yc2 ((zr4 l (k:Int)).take m) (stP l k) else stP l k)=stP l (k+1):=by
   rw [Q3 (by omega)];rfl
  rw [b] at d⊢;rw [ql6,W5 (by omega),j6,if_pos (by omega),jc2,j4,Z1];unfold c4;cases (stP l (k+1)).getD k false<;>rfl
def jd2 (l):qdt v8 l=some (ye1 l):=by
 rw [wq1];unfold ye1;by_cases d:l.length=0
 ·rw [if_pos d,d];rfl
 rw [if_neg d,show (((l.length:Nat):Int)==0)=false from beq_eq_false_iff_ne.2 (by omega),j6];by_cases h:l.length>4096
 ·rw [if_pos h,W4 (by omega),j8]
 rw [if_neg h,W5 (by omega),j6,if_pos (by omega),if_pos (by rw [Z9];omega),Z1];have e: ∃Y,qd v8 ((l.length:Nat):Int) l (stP l 0)=some Y/\Y.2.1=(yy9 (c1 l) 0 l.length).getD ((yy9 (c2 l) 0 l.length).getD ((yy9 (c3 l) 0 l.length).getD ((yy9 (c4 l) 0 l.length).getD ⟨0,0⟩))):=by
  rw [uf2];refine qv1 (fun n k=>jg1 n ((l.length:Nat):Int) ((l.length:Nat):Int) ((k:Nat):Int) l (stP l 0) 0 0) (fun Y=>Y.2.1) (c1 l) 1 l.length 50000 _ (fun n k b c=>?_) (fun f n c=>?_) l.length 0 _ (by omega) (by omega) (by omega)
  ·obtain ⟨n,rfl⟩: ∃j,n=j+1:=⟨n-1,by omega⟩;show _\/_/\ ∃Y,jg1 (n+2) _ _ _ _ _ _ _=_/\_;by_cases a:c1 l k=0
   ·refine .inl ⟨a,?_⟩;show jg1 (n+2) _ _ _ _ _ _ _=jg1 (n+1) _ _ _ _ _ _ _;rw [jj1,W4 (by omega),j8,p1 l k b,j4,a,nx b (by omega)];dsimp only;rw [show ((0:Int) != 0)=false from rfl,j6]
   ·refine .inr ⟨a,?_⟩;rw [jj1,W4 (by omega),j8,p1 l k b,j4];dsimp only;rw [show (c1 l k != 0)=true by simpa using a,j8];exact ⟨_,rfl,rfl⟩
  obtain ⟨n,rfl⟩: ∃j,n=j+2:=⟨n-2,by omega⟩;show ∃Y,jg1 (n+2) _ _ _ _ _ _ _=_/\_;rw [jj1,W5 (by omega),j6];refine qv1 (fun n k=>yk7 n ((l.length:Nat):Int) ((l.length:Nat):Int) ((k:Nat):Int) l (stP l 0) 0 0) (fun Y=>Y.2.1) (c2 l) 1 l.length 40000 _ (fun n k b c=>?_) (fun m n c=>?_) l.length 0 _ (by omega) (by omega) (by omega)
  ·obtain ⟨n,rfl⟩: ∃j,n=j+1:=⟨n-1,by omega⟩;show _\/_/\ ∃Y,yk7 (n+2) _ _ _ _ _ _ _=_/\_;by_cases a:c2 l k=0
   ·refine .inl ⟨a,?_⟩;show yk7 (n+2) _ _ _ _ _ _ _=yk7 (n+1) _ _ _ _ _ _ _;rw [yv5,W4 (by omega),j8,p2 l k b (by omega) (f k b),j4,a,nx b (by omega)];dsimp only;rw [show ((0:Int) != 0)=false from rfl,j6]
   ·refine .inr ⟨a,?_⟩;rw [yv5,W4 (by omega),j8,p2 l k b (by omega) (f k b),j4];dsimp only;rw [show (c2 l k != 0)=true by simpa using a,j8];exact ⟨_,rfl,rfl⟩
  obtain ⟨n,rfl⟩: ∃j,n=j+2:=⟨n-2,by omega⟩;show ∃Y,yk7 (n+2) _ _ _ _ _ _ _=_/\_;rw [yv5,W5 (by omega),j6];refine qv1 (fun n k=>yk8 n ((l.length:Nat):Int) ((l.length:Nat):Int) ((k:Nat):Int) l (stP l 0) 0 0) (fun Y=>Y.2.1) (c3 l) 1 l.length 30000 _ (fun n k b c=>?_) (fun o n c=>?_) l.length 0 _ (by omega) (by omega) (by omega)
  ·obtain ⟨n,rfl⟩: ∃j,n=j+1:=⟨n-1,by omega⟩;show _\/_/\ ∃Y,yk8 (n+2) _ _ _ _ _ _ _=_/\_;by_cases a:c3 l k=0
   ·refine .inl ⟨a,?_⟩;show yk8 (n+2) _ _ _ _ _ _ _=yk8 (n+1) _ _ _ _ _ _ _;rw [yv6,W4 (by omega),j8,p3 l k b (by omega),j4,a,nx b (by omega)];dsimp only;rw [show ((0:Int) != 0)=false from rfl,j6]
   ·refine .inr ⟨a,?_⟩;rw [yv6,W4 (by omega),j8,p3 l k b (by omega),j4];dsimp only;rw [show (c3 l k != 0)=true by simpa using a,j8];exact ⟨_,rfl,rfl⟩
  obtain ⟨n,rfl⟩: ∃j,n=j+2:=⟨n-2,by omega⟩;show ∃Y,yk8 (n+2) _ _ _ _ _ _ _=_/\_;rw [yv6,W5 (by omega),j6];have i:=kh7 (by omega) f m o;refine qv1 (fun n k=>yk9 n ((l.length:Nat):Int) ((l.length:Nat):Int) ((k:Nat):Int) l (stP l k) 0 0) (fun Y=>Y.2.1) (c4 l) 1 l.length 20000 _ (fun n k b c=>?_) (fun q n c=>?_) l.length 0 _ (by omega) (by omega) (by omega)
  ·obtain ⟨n,rfl⟩: ∃j,n=j+1:=⟨n-1,by omega⟩;show _\/_/\ ∃Y,yk9 (n+2) _ _ _ _ _ _ _=_/\_;by_cases a:c4 l k=0
   ·refine .inl ⟨a,?_⟩;show yk9 (n+2) _ _ _ _ _ _ _=yk9 (n+1) _ _ _ _ _ _ _;rw [yv7,W4 (by omega),j8,p4 (by omega) i k b,j4,a,nx b (by omega)];dsimp only;rw [show ((0:Int) != 0)=false from rfl,j6]
   ·refine .inr ⟨a,?_⟩;rw [yv7,W4 (by omega),j8,p4 (by omega) i k b,j4];dsimp only;rw [show (c4 l k != 0)=true by simpa using a,j8];exact ⟨_,rfl,rfl⟩
  obtain ⟨n,rfl⟩: ∃j,n=j+2:=⟨n-2,by omega⟩;show ∃Y,yk9 (n+2) _ _ _ _ _ _ _=_/\_;rw [yv7,W5 (by omega),j6];exact ⟨_,rfl,rfl⟩
 obtain ⟨Y,g,p⟩:=e;have g:qd v8 ((l.length:Nat):Int) l ((List.replicate l.length false).set 0 true)=some Y:=g;rw [g,j4,p]
def ju4 (a): ∀m k F,yy9 a k m=some F-> ∃j,k<=j/\j<k+m/\a j≠0/\F=⟨a j,(j:Int)⟩
 |0,_,_,h=>by cases h
 |m+1,k,F,h=>by
  unfold yy9 at h;split at h
  ·obtain ⟨j,e,f,b,c⟩:=ju4 a m (k+1) F h;exact ⟨j,by omega,by omega,b,c⟩
  ·rename_i d;cases h;exact ⟨k,by omega,by omega,d,rfl⟩
def zz5 (a): ∀m k,yy9 a k m=none-> ∀j,k<=j->j<k+m->a j=0
 |0,_,_,j,b,c=>by omega
 |m+1,k,h,j,b,c=>by
  unfold yy9 at h;split at h
  ·rename_i d;by_cases e:j=k
   ·rw [e];exact d
   ·exact zz5 a m (k+1) h j (by omega) (by omega)
  ·cases h
structure Okay (l:List Ins):Prop where
 pos:0<l.length
 len:l.length<=4096
 z1: ∀k,k<l.length->c1 l k=0
 z2: ∀k,k<l.length->c2 l k=0
 z3: ∀k,k<l.length->c3 l k=0
 z4: ∀k,k<l.length->c4 l k=0
def yh5 {o:Option Fault} {d:Fault} (h: ∀F,o=some F->F.Err≠0) (a:(o.getD d).Err=0):o=none/\d.Err=0:=by
 cases o with
 |none=>exact ⟨rfl,a⟩
 |some F=>exact absurd a (h F rfl)
def yr7 (a m k F) (h:yy9 a k m=some F):F.Err≠0:=by
 obtain ⟨j,_,_,b,rfl⟩:=ju4 a m k F h;exact b
def gb8 {l} (h:(ye1 l).Err=0):Okay l:=by
 unfold ye1 at h;by_cases b:l.length=0
 ·rw [if_pos b] at h;cases h
 rw [if_neg b] at h;by_cases c:l.length>4096
 ·rw [if_pos c] at h;cases h
 rw [if_neg c] at h;obtain ⟨a1,h⟩:=yh5 (yr7 _ _ _) h;obtain ⟨a2,h⟩:=yh5 (yr7 _ _ _) h;obtain ⟨a3,h⟩:=yh5 (yr7 _ _ _) h;obtain ⟨a4,h⟩:=yh5 (yr7 _ _ _) h;exact ⟨by omega,by omega,fun k a=>zz5 _ _ _ a1 k (by omega) (by omega),fun k a=>zz5 _ _ _ a2 k (by omega) (by omega),fun k a=>zz5 _ _ _ a3 k (by omega) (by omega),fun k a=>zz5 _ _ _ a4 k (by omega) (by omega)⟩
def Okay.fwd {l} (h:Okay l):Fwd l:=kh7 h.len h.z1 h.z2 h.z3
def U64 (x:Int):Prop:=0<=x/\x<=18446744073709551615
def jn5 (x):U64 (IntKind.u64.wrap x):=by
 unfold IntKind.wrap U64;simp [IntKind.bits,IntKind.signed];omega
def un8 (x):0<=IntKind.u32.wrap x/\IntKind.u32.wrap x<=4294967295:=by
 unfold IntKind.wrap;simp [IntKind.bits,IntKind.signed];omega
def jh7 {x} (h:U64 x):IntKind.u64.wrap x=x:=by
 unfold U64 at h;unfold IntKind.wrap;simp [IntKind.bits,IntKind.signed];omega
def doV (k e:IntKind) (d c a b:Int):Int×Int:=
 if c=1 then (k.wrap (a+b),0) else if c=2 then (k.wrap (a-b),0) else if c=3 then (k.wrap (a*b),0) else if c=4 then (k.wrap (a.tdiv b),0) else if c=5 then (a.tmod b,0)
 else if c=6 then (w8 k a b,0) else if c=7 then (bOr k a b,0) else if c=8 then (vv2 k a b,0) else if c=9 then (zm2 k a (b.tmod d),0) else if c=10 then (zr0 k a (b.tmod d),0)
 else if c=11 then (k.wrap (zr0 e (e.wrap a) (b.tmod d)),0) else if c=12 then (b,0) else if c=13 then (k.wrap (0-a),0) else (0,2)
def doW (k e:IntKind) (c d a b:Int):Int×Int:=if (d=4\/d=5)/\b=0 then (0,113) else doV k e c d a b
def qo6 {x m:Int} (a:0<=x): ¬x.tmod m<0:=by
 have:=Int.tmod_nonneg m a;omega
def gz0 (op a b:Int) (hb:0<=b):qbh v8 op 32 a b=some (doW .u32 .i32 32 op a b):=by
 obtain ⟨n,e⟩: ∃n:Nat,(v8:Nat)=n+1:=⟨999999999,rfl⟩;have hj: ∀c:Bool,(c=false->(op=4\/op=5)->b≠0)->jl8 (n+1) op c 32 a b=some (if c=true then (0,113) else doV .u32 .i32 32 op a b):=by
  intro c hc;rw [vo5];cases c with
  |true=>rfl
  |false=>
   rw [j6];simp only [wt3,wv2,wv4,wv6,wv8,ww0,ww2,ww4,ww6,wr5,wr7,wr9,ws1,j4,qo6 hb,if_false,N4,show ¬((32:Int)=0) by decide];unfold doV;by_cases h4:op=4
   ·subst h4;have:=hc rfl (.inl rfl);simp only [if_neg this];rfl
   by_cases h5:op=5
   ·subst h5;have:=hc rfl (.inr rfl);simp only [if_neg this];rfl
   simp only [if_neg h4,if_neg h5,if_false,N4,apply_ite some]
 rw [wh5,e];unfold doW;by_cases h4:op=4
 ·subst h4;rw [q7,if_pos (by decide),hj _ (by intro h _ hb;subst hb;cases h)];by_cases h:b=0
  ·subst h;rfl
  ·rw [if_neg (by simpa using h),if_neg (by simp [h])]
 by_cases h5:op=5
 ·subst h5;rw [q7,if_neg (by decide),q7,if_pos (by decide),hj _ (by intro h _ hb;subst hb;cases h)];by_cases h:b=0
  ·subst h;rfl
  ·rw [if_neg (by simpa using h),if_neg (by simp [h])]
 rw [q7,if_neg (by simpa using h4),q7,if_neg (by simpa using h5),hj _ (by intro _ h;exact absurd h (by simp [h4,h5])),if_neg (by simp),if_neg (by simp [h4,h5])]
def gz1 (op a b:Int) (hb:0<=b):qbi v8 op 64 a b=some (doW .u64 .i64 64 op a b):=by
 obtain ⟨n,e⟩: ∃n:Nat,(v8:Nat)=n+1:=⟨999999999,rfl⟩;have hj: ∀c:Bool,(c=false->(op=4\/op=5)->b≠0)->jl9 (n+1) op c 64 a b=some (if c=true then (0,113) else doV .u64 .i64 64 op a b):=by
  intro c hc;rw [vo6];cases c with
  |true=>rfl
  |false=>
   rw [j6];simp only [ws3,ws5,ws7,ws9,wt1,wt5,wt7,wt9,wu1,wu3,wu5,wu7,wv0,j4,qo6 hb,if_false,N4,show ¬((64:Int)=0) by decide];unfold doV;by_cases h4:op=4
   ·subst h4;have:=hc rfl (.inl rfl);simp only [if_neg this];rfl
   by_cases h5:op=5
   ·subst h5;have:=hc rfl (.inr rfl);simp only [if_neg this];rfl
   simp only [if_neg h4,if_neg h5,if_false,N4,apply_ite some]
 rw [wh7,e];unfold doW;by_cases h4:op=4
 ·subst h4;rw [q7,if_pos (by decide),hj _ (by intro h _ hb;subst hb;cases h)];by_cases h:b=0
  ·subst h;rfl
  ·rw [if_neg (by simpa using h),if_neg (by simp [h])]
 by_cases h5:op=5
 ·subst h5;rw [q7,if_neg (by decide),q7,if_pos (by decide),hj _ (by intro h _ hb;subst hb;cases h)];by_cases h:b=0
  ·subst h;rfl
  ·rw [if_neg (by simpa using h),if_neg (by simp [h])]
 rw [q7,if_neg (by simpa using h4),q7,if_neg (by simpa using h5),hj _ (by intro _ h;exact absurd h (by simp [h4,h5])),if_neg (by simp),if_neg (by simp [h4,h5])]
def zy7 (c:Int) (d:Bool) (a b:Int):Int×Int:=
 if d=true then (IntKind.u64.wrap (doW .u32 .i32 32 c (IntKind.u32.wrap a) (IntKind.u32.wrap b)).1,(doW .u32 .i32 32 c (IntKind.u32.wrap a) (IntKind.u32.wrap b)).2) else doW .u64 .i64 64 c a b
def gg3 (d c a b) (e:U64 b):qci v8 d c a b=some (zy7 d c a b):=by
 rw [wj8];unfold zy7;cases c with
 |true=>rw [j8,gz0 _ _ _ (un8 b).1,j4];rfl
 |false=>rw [j6,gz1 _ _ _ e.1,j4];rfl
def vz5 {x m:Int} (a:0<=x/\x<=m) (n:Nat):0<=x.fdiv (2^n)/\x.fdiv (2^n)<=m:=by
 have b:(0:Int)<2^n:=K5 (by decide);rw [Int.fdiv_eq_ediv_of_nonneg _ (M6 b)];have c:=Int.ediv_nonneg a.1 (M6 b);have d:=Int.ediv_le_self (2^n) a.1;omega
def zk5 {c:Prop} [Decidable c] {x y:Int×Int} (a:c->U64 x.1) (b: ¬c->U64 y.1):U64 (if c then x else y).1:=by
 by_cases h:c
 ·rw [if_pos h];exact a h
 ·rw [if_neg h];exact b h
def kz8 {f a b} (d:U64 a) (c:U64 b):U64 (doW .u64 .i64 64 f a b).1:=by
 unfold doW doV;have e:U64 0:=⟨by decide,by decide⟩;have g:b≠0->U64 (a.tmod b):=fun i=>by
  have j:=Int.tmod_nonneg b d.1;have m:=Int.tmod_lt_of_pos a (b:=b) (by have:=c.1;omega);have:=c.2;exact ⟨j,by omega⟩
 refine zk5 (fun _=>e) fun k=>?_;refine zk5 (fun _=>jn5 _) fun _=>?_;refine zk5 (fun _=>jn5 _) fun _=>?_;refine zk5 (fun _=>jn5 _) fun _=>?_;refine zk5 (fun _=>jn5 _) fun _=>?_;refine zk5 (fun l=>g fun h=>k ⟨.inr l,h⟩) fun _=>?_;refine zk5 (fun _=>jn5 _) fun _=>?_;refine zk5 (fun _=>jn5 _) fun _=>?_;refine zk5 (fun _=>jn5 _) fun _=>?_;refine zk5 (fun _=>jn5 _) fun _=>?_;refine zk5 (fun _=>vz5 d _) fun _=>?_;refine zk5 (fun _=>jn5 _) fun _=>?_;refine zk5 (fun _=>c) fun _=>?_;refine zk5 (fun _=>jn5 _) fun _=>?_;exact e
def qh1 {c d a b} (e:U64 a) (f:U64 b):U64 (zy7 c d a b).1:=by
 unfold zy7;split
 ·exact jn5 _
 ·exact kz8 e f
def jr6 {a b} (c:Prop) [Decidable c] (x y:Option a) (f:a->Option b):j7 (if c then x else y) f=if c then j7 x f else j7 y f:=by split<;>rfl
def isW (d:IntKind) (k:IntKind) (c a b:Int):Bool×Int:=
 if c=17 then (a==b,0) else if c=18 then (a != b,0) else if c=19 then (decide (a>b),0) else if c=20 then (decide (a>=b),0) else if c=21 then (decide (a<b),0) else if c=22 then (decide (a<=b),0)
 else if c=23 then (decide (d.wrap a>d.wrap b),0) else if c=24 then (decide (d.wrap a>=d.wrap b),0) else if c=25 then (decide (d.wrap a<d.wrap b),0) else if c=26 then (decide (d.wrap a<=d.wrap b),0)
 else if c=27 then (w8 k a b != 0,0) else (false,2)
def isP (c:Int) (d:Bool) (a b:Int):Bool×Int:=if d=true then isW .i32 .u32 c (IntKind.u32.wrap a) (IntKind.u32.wrap b) else isW .i64 .u64 c a b
def um3 (d c a b):qdj v8 d c a b=some (isP d c a b):=by
 rw [wo1];unfold isP;cases c with
 |true=>
  rw [j8,ww8,if_pos rfl];unfold isW;simp only [q7,beq_iff_eq,apply_ite some,jr6,j4]
 |false=>
  rw [j6,wx0,if_neg (by decide)];unfold isW;simp only [q7,beq_iff_eq,apply_ite some,jr6,j4]
end Go.Y.E
