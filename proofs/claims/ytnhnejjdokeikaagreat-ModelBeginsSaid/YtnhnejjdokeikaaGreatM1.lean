import Derived.Test.YtnhnejjdokeikaaGreatAB
import Derived.Test.YtnhnejjdokeikaaGreatIa
import Derived.Test.YtnhnejjdokeikaaGreatIc
set_option linter.defProp false
namespace Go.Y
open Go.RowKit Go.V Go.X
def q7 {R} (c:Bool) (x y:Option R):j8 c x y=if c=true then x else y:=rfl
def j9 {R} (x y:Option R):j8 true x y=x:=rfl
def j6 {R} (x y:Option R):j8 false x y=y:=rfl
def j4 {b c} (a:b) (f:b->Option c):j7 (some a) f=f a:=rfl
def zb7 {x} (h: -9223372036854775808<=x/\x<=9223372036854775807):IntKind.i64.wrap x=x:=by
 unfold IntKind.wrap;simp [IntKind.bits,IntKind.signed];omega
def loop {g} (f:Nat->Nat->Option g) (c len:Nat) (r:Option g) (a: ∀n k,k<len->f (n+c) k=f n (k+1)) (b: ∀n,f (n+1) len=r): ∀m k n,k+m=len->c*m+1<=n->f n k=r
 |0,k,n,h,e=>by
  obtain ⟨d,rfl⟩: ∃d,n=d+1:=⟨n-1,by omega⟩;have:k=len:=by omega
  subst this;exact b d
 |m+1,k,n,h,e=>by
  obtain ⟨d,rfl⟩: ∃d,n=d+c:=⟨n-c,by rw [N2] at e;omega⟩;rw [a d k (by omega)];exact loop f c len r a b m (k+1) d (by omega) (by rw [N2] at e;omega)
def qc1 {d} (f:Nat->Nat->Option d) (c len:Nat) (r:Option d) (a: ∀n k,k<len->f (n+c) k=f n (k+1)) (b: ∀n,f (n+1) len=r) (n:Nat) (e:c*len+1<=n):f n 0=r:=loop f c len r a b len 0 n (by omega) e
def gk2 {g} (f:Nat->Nat->Option g) (c len:Nat) (r:Nat->Option g) (a: ∀n k,k<len->f (n+c) k=r k\/(f (n+c) k=f n (k+1)/\r k=r (k+1))) (b: ∀n,f (n+1) len=r len): ∀m k n,k+m=len->c*m+1<=n->f n k=r k
 |0,k,n,i,e=>by
  obtain ⟨d,rfl⟩: ∃d,n=d+1:=⟨n-1,by omega⟩;have:k=len:=by omega
  subst this;exact b d
 |m+1,k,n,i,e=>by
  obtain ⟨d,rfl⟩: ∃d,n=d+c:=⟨n-c,by rw [N2] at e;omega⟩;rcases a d k (by omega) with h|⟨j,l⟩
  ·exact h
  ·rw [j,l];exact gk2 f c len r a b m (k+1) d (by omega) (by rw [N2] at e;omega)
def nx {k len:Nat} (h:k<len) (a:len<=1000000000):IntKind.i64.wrap ((k:Int)+1)=((k+1:Nat):Int):=by rw [zb7 (by omega)];omega
def up {n:Nat} {c:Nat} (h:c<=n): ∃m,n=m+c:=⟨n-c,by omega⟩
end Go.Y
namespace Go.Y.C
open Go.RowKit Go.V Go.X Go.Proofs Go.Y
def q7 {R} (c:Bool) (x y:Option R):j8 c x y=if c=true then x else y:=rfl
def j9 {R} (x y:Option R):j8 true x y=x:=rfl
def j6 {R} (x y:Option R):j8 false x y=y:=rfl
def j4 {b c} (a:b) (f:b->Option c):j7 (some a) f=f a:=rfl
def zs8 (c x):j8 c (some x) (some false)=some (c&&x):=by cases c<;>rfl
def qb3 (x):qec v7 [1,2,4,8] x=j8 (x==1) (some 0) (j8 (x==2) (some 1) (j8 (x==4) (some 2) (j8 (x==8) (some 3) (some (-1))))):=by kernel_rfl
def ze7 (x:Int):Bool:=x==1||(x==2||(x==4||x==8))
def zd5 (x):qcr v7 [1,2,4,8] x=some (ze7 x):=by
 rw [ko2,qb3];unfold ze7;cases x==1<;>cases x==2<;>cases x==4<;>cases x==8<;>rfl
def yb5 (x a b):qby v7 x a b=some (decide (a<=x)&&decide (x<=b)):=by rw [km8,zs8]
def zl9 (n m:Int):Bool:=decide (0<=n)&&decide (n<=m)
def zd1 (i:Ins):Bool:=if i.UseImm=true then i.Src==0&&(decide (-2147483648<=i.Imm)&&decide (i.Imm<2147483648)) else zl9 i.Src 10&&i.Imm==0
def zv3 (i:Ins):Bool:=decide (-32768<=i.Off)&&decide (i.Off<32768)
def zd4 (i:Ins):Bool:=
 if 1<=i.Op/\i.Op<=12 then zl9 i.Dst 9&&(zd1 i&&(i.Off==0&&i.Size==0))
 else if i.Op=13 then zl9 i.Dst 9&&(i.Src==0&&(!i.UseImm&&(i.Off==0&&(i.Imm==0&&i.Size==0))))
 else if i.Op=14 then zl9 i.Dst 9&&(zl9 i.Src 10&&(zv3 i&&(ze7 i.Size&&(!i.Narrow&&(!i.UseImm&&i.Imm==0)))))
 else if i.Op=15 then zl9 i.Dst 10&&(zv3 i&&(ze7 i.Size&&(zd1 i&& !i.Narrow)))
 else if i.Op=16 then zv3 i&&(!i.Narrow&&(i.Dst==0&&(i.Src==0&&(!i.UseImm&&(i.Imm==0&&i.Size==0)))))
 else if 17<=i.Op/\i.Op<=27 then zl9 i.Dst 10&&(zv3 i&&(zd1 i&&i.Size==0))
 else decide (i.Op=28)&&(!i.Narrow&&(i.Dst==0&&(i.Src==0&&(!i.UseImm&&(i.Off==0&&(i.Imm==0&&i.Size==0))))))
def yr2 (a):qaq v7 a=some (if 1<=a/\a<=12 then 201 else if a=13 then 193 else if a=14 then 181 else if a=15 then 186 else if a=16 then 144 else if 17<=a/\a<=27 then 218 else if a=28 then 128 else 0):=by
 rw [kl1];simp only [ju7,q7]
 grind
def jh4 (i):qa v7 i=some (zd4 i):=by
 rw [gl4,yr2];obtain ⟨b,c,d,s,u,e,g,sz⟩:=i;simp only [j4];have l: ∀(n:Nat) (f m:Int) (z:Bool) (x:Ins),jp7 (n+1) f m z b c d s u e g sz x.Op x.Narrow x.Dst x.Src x.UseImm x.Off x.Imm x.Size=
   some (f != 0&&((b==x.Op&&(c==x.Narrow&&(d==x.Dst&&(s==x.Src&&(u==x.UseImm&&(e==x.Off&&(g==x.Imm&&sz==x.Size)))))))&&((decide (0<=d)&&decide (d<=m))&&((decide (0<=s)&&decide (s<=10))&&((decide (-32768<=e)&&decide (e<=32767))&&((decide (-2147483648<=g)&&decide (g<=2147483647))&&z)))))):=by
  intro n f m z x;simp only [qm0,yb5,j4,zs8]
 have a: ∀(n:Nat) (f m:Int) (z:Bool) (q:Int) (a1:Bool) (a2 a3:Int) (a4:Bool) (r t v:Int),jp7 (n+1) f m z b c d s u e g sz q a1 a2 a3 a4 r t v=_:=fun n f m z q a1 a2 a3 a4 r t v=>l n f m z ⟨q,a1,a2,a3,a4,r,t,v⟩;by_cases h:1<=b/\b<=12
 ·rw [if_pos h];cases c<;>cases u<;>simp only [zg2,zg3,zg4,zg5,zg6,zg7,zg8,zg9,zh0,a,zd5,j4,U1,U5,j9,j6,show (w8 .i64 201 3 != 0)=true from by decide,show (w8 .i64 201 4 != 0)=false from by decide,show (w8 .i64 201 8 != 0)=true from by decide,show (w8 .i64 201 16 != 0)=false from by decide,show (w8 .i64 201 32 != 0)=false from by decide,show (w8 .i64 201 64 != 0)=true from by decide,show (w8 .i64 201 1 != 0)=true from by decide,show (w8 .i64 201 32==0)=true from by decide]<;>(refine congrArg some ?_;rw [V2];simp [zd4,zd1,zl9,zv3, *]<;>grind)
 by_cases j:b=13
 ·rw [if_neg h,if_pos j];cases c<;>cases u<;>simp only [zg2,zg3,zg4,zg5,zg6,zg7,zg8,zg9,zh0,a,zd5,j4,U1,U5,j9,j6,show (w8 .i64 193 3 != 0)=true from by decide,show (w8 .i64 193 4 != 0)=false from by decide,show (w8 .i64 193 8 != 0)=false from by decide,show (w8 .i64 193 16 != 0)=false from by decide,show (w8 .i64 193 32 != 0)=false from by decide,show (w8 .i64 193 64 != 0)=true from by decide,show (w8 .i64 193 1 != 0)=true from by decide,show (w8 .i64 193 32==0)=true from by decide]<;>(refine congrArg some ?_;rw [V2];simp [zd4,zd1,zl9,zv3, *]<;>grind)
 by_cases k:b=14
 ·rw [if_neg h,if_neg j,if_pos k];cases c<;>cases u<;>simp only [zg2,zg3,zg4,zg5,zg6,zg7,zg8,zg9,zh0,a,zd5,j4,U1,U5,j9,j6,show (w8 .i64 181 3 != 0)=true from by decide,show (w8 .i64 181 4 != 0)=true from by decide,show (w8 .i64 181 8 != 0)=false from by decide,show (w8 .i64 181 16 != 0)=true from by decide,show (w8 .i64 181 32 != 0)=true from by decide,show (w8 .i64 181 64 != 0)=false from by decide,show (w8 .i64 181 1 != 0)=true from by decide,show (w8 .i64 181 32==0)=false from by decide]<;>(refine congrArg some ?_;rw [V2];simp [zd4,zd1,zl9,zv3, *]<;>grind)
 by_cases o:b=15
 ·rw [if_neg h,if_neg j,if_neg k,if_pos o];cases c<;>cases u<;>simp only [zg2,zg3,zg4,zg5,zg6,zg7,zg8,zg9,zh0,a,zd5,j4,U1,U5,j9,j6,show (w8 .i64 186 3 != 0)=true from by decide,show (w8 .i64 186 4 != 0)=false from by decide,show (w8 .i64 186 8 != 0)=true from by decide,show (w8 .i64 186 16 != 0)=true from by decide,show (w8 .i64 186 32 != 0)=true from by decide,show (w8 .i64 186 64 != 0)=false from by decide,show (w8 .i64 186 1 != 0)=false from by decide,show (w8 .i64 186 32==0)=false from by decide]<;>(refine congrArg some ?_;rw [V2];simp [zd4,zd1,zl9,zv3, *]<;>grind)
 by_cases p:b=16
 ·rw [if_neg h,if_neg j,if_neg k,if_neg o,if_pos p];cases c<;>cases u<;>simp only [zg2,zg3,zg4,zg5,zg6,zg7,zg8,zg9,zh0,a,zd5,j4,U1,U5,j9,j6,show (w8 .i64 144 3 != 0)=false from by decide,show (w8 .i64 144 4 != 0)=false from by decide,show (w8 .i64 144 8 != 0)=false from by decide,show (w8 .i64 144 16 != 0)=true from by decide,show (w8 .i64 144 32 != 0)=false from by decide,show (w8 .i64 144 64 != 0)=false from by decide,show (w8 .i64 144 1 != 0)=false from by decide,show (w8 .i64 144 32==0)=true from by decide]<;>(refine congrArg some ?_;rw [V2];simp [zd4,zd1,zl9,zv3, *]<;>grind)
 by_cases w:17<=b/\b<=27
 ·rw [if_neg h,if_neg j,if_neg k,if_neg o,if_neg p,if_pos w];cases c<;>cases u<;>simp only [zg2,zg3,zg4,zg5,zg6,zg7,zg8,zg9,zh0,a,zd5,j4,U1,U5,j9,j6,show (w8 .i64 218 3 != 0)=true from by decide,show (w8 .i64 218 4 != 0)=false from by decide,show (w8 .i64 218 8 != 0)=true from by decide,show (w8 .i64 218 16 != 0)=true from by decide,show (w8 .i64 218 32 != 0)=false from by decide,show (w8 .i64 218 64 != 0)=true from by decide,show (w8 .i64 218 1 != 0)=false from by decide,show (w8 .i64 218 32==0)=true from by decide]<;>(refine congrArg some ?_;rw [V2];simp [zd4,zd1,zl9,zv3, *]<;>grind)
 by_cases y:b=28
 ·rw [if_neg h,if_neg j,if_neg k,if_neg o,if_neg p,if_neg w,if_pos y];cases c<;>cases u<;>simp only [zg2,zg3,zg4,zg5,zg6,zg7,zg8,zg9,zh0,a,zd5,j4,U1,U5,j9,j6,show (w8 .i64 128 3 != 0)=false from by decide,show (w8 .i64 128 4 != 0)=false from by decide,show (w8 .i64 128 8 != 0)=false from by decide,show (w8 .i64 128 16 != 0)=false from by decide,show (w8 .i64 128 32 != 0)=false from by decide,show (w8 .i64 128 64 != 0)=false from by decide,show (w8 .i64 128 1 != 0)=false from by decide,show (w8 .i64 128 32==0)=true from by decide]<;>(refine congrArg some ?_;rw [V2];simp [zd4,zd1,zl9,zv3, *]<;>grind)
 ·rw [if_neg h,if_neg j,if_neg k,if_neg o,if_neg p,if_neg w,if_neg y];cases c<;>cases u<;>simp only [zg2,zg3,zg4,zg5,zg6,zg7,zg8,zg9,zh0,a,zd5,j4,U1,U5,j9,j6,show (w8 .i64 0 3 != 0)=false from by decide,show (w8 .i64 0 4 != 0)=false from by decide,show (w8 .i64 0 8 != 0)=false from by decide,show (w8 .i64 0 16 != 0)=false from by decide,show (w8 .i64 0 32 != 0)=false from by decide,show (w8 .i64 0 64 != 0)=false from by decide,show (w8 .i64 0 1 != 0)=false from by decide,show (w8 .i64 0 32==0)=true from by decide]<;>(refine congrArg some ?_;rw [V2];simp [zd4,zd1,zl9,zv3, *]<;>grind)
def zb7 {x} (h: -9223372036854775808<=x/\x<=9223372036854775807):IntKind.i64.wrap x=x:=by
 unfold IntKind.wrap;simp [IntKind.bits,IntKind.signed];omega
def u8w (x):IntKind.u8.wrap x=x%256:=by unfold IntKind.wrap;simp [IntKind.bits,IntKind.signed]
def un4 (x):IntKind.u16.wrap x=x%65536:=by unfold IntKind.wrap;simp [IntKind.bits,IntKind.signed]
def un5 (x):IntKind.u32.wrap x=x%4294967296:=by unfold IntKind.wrap;simp [IntKind.bits,IntKind.signed]
structure Fit (i:Ins):Prop where
 op:1<=i.Op/\i.Op<=28
 dst:0<=i.Dst/\i.Dst<=10
 src:0<=i.Src/\i.Src<=10
 off: -32768<=i.Off/\i.Off<=32767
 imm: -2147483648<=i.Imm/\i.Imm<=2147483647
 sized:(i.Op=14\/i.Op=15)->i.Narrow=false/\(i.Size=1\/i.Size=2\/i.Size=4\/i.Size=8)
 plain: ¬(i.Op=14\/i.Op=15)->i.Size=0
def fit (i) (h:zd4 i=true):Fit i:=by
 unfold zd4 at h;constructor<;>grind [zd1,zv3,zl9,ze7]
def upP (i:Ins):Int:=if i.Narrow=true then 1 else if i.Size=2 then 1 else if i.Size=4 then 2 else if i.Size=8 then 3 else 0
def vx7 (i:Ins):List Int:= [i.Op+64*upP i+(if i.UseImm=true then 32 else 0),16*i.Dst+i.Src,i.Off%65536/256,i.Off%256,i.Imm%4294967296/16777216,i.Imm%4294967296/65536%256,i.Imm%4294967296/256%256,i.Imm%256]
def ud0 (i):0<=upP i/\upP i<=3:=by unfold upP;grind
def uq2 (i):qdq v7 i=some (upP i):=by
 rw [ws1,qb3,q7];unfold upP;by_cases a:i.Narrow=true
 ·rw [if_pos a,if_pos a]
 rw [if_neg a,if_neg a];simp only [q7,beq_iff_eq];by_cases h1:i.Size=1
 ·rw [h1];rfl
 by_cases h2:i.Size=2
 ·rw [h2];rfl
 by_cases h4:i.Size=4
 ·rw [h4];rfl
 by_cases b:i.Size=8
 ·rw [b];rfl
 rw [if_neg h1,if_neg h2,if_neg h4,if_neg b,if_neg h2,if_neg h4,if_neg b];rfl
def gh0: ∀o:Fin 32,∀u:Fin 4,bOr .u8 (o.val:Int) (zm3 .u8 (IntKind.u8.wrap (u.val:Int)) 6)=(o.val:Int)+64*(u.val:Int):=by decide+kernel
def vs6: ∀o:Fin 32,∀u:Fin 4,bOr .u8 (bOr .u8 (o.val:Int) (zm3 .u8 (IntKind.u8.wrap (u.val:Int)) 6)) 32=(o.val:Int)+64*(u.val:Int)+32:=by decide+kernel
def gh1: ∀d:Fin 16,∀s:Fin 16,bOr .i64 (zm3 .i64 (d.val:Int) 4) (s.val:Int)=16*(d.val:Int)+(s.val:Int):=by decide+kernel
def jg0 {x:Int} (m:Nat) (h:0<=x/\x<m): ∃o:Fin m,x=(o.val:Int):=⟨⟨x.toNat,by omega⟩,by simp;omega⟩
def shr (k x s m) (h:min s.toNat k.bits=m):zr2 k x s=x/2^m:=by
 unfold zr2;rw [h];exact Int.fdiv_eq_ediv_of_nonneg x (Int.pow_nonneg (by decide))
def un0 (x):zr2 .u16 x 8=x/256:=shr _ _ _ 8 rfl
def gz4 (x):zr2 .u32 x 24=x/16777216:=shr _ _ _ 24 rfl
def gz3 (x):zr2 .u32 x 16=x/65536:=shr _ _ _ 16 rfl
def gz5 (x):zr2 .u32 x 8=x/256:=shr _ _ _ 8 rfl
def ga8 (i) (h:Fit i):qbm v7 i=some (vx7 i):=by
 have g:bOr .i64 (zm3 .i64 i.Dst 4) i.Src=16*i.Dst+i.Src:=by
  obtain ⟨d,c⟩:=jg0 16 (x:=i.Dst) (by have:=h.dst;omega);obtain ⟨s,e⟩:=jg0 16 (x:=i.Src) (by have:=h.src;omega);rw [c,e];exact gh1 d s
 have c:=h.dst;have e:=h.src;have j:=h.off;have k:=h.imm;obtain ⟨o,a⟩:=jg0 32 (x:=i.Op) (by have:=h.op;omega);obtain ⟨u,f⟩:=jg0 4 (x:=upP i) (by have:=ud0 i;omega);rw [wl0,uq2,j4,q7];unfold vx7;rw [jv0,jv0,g];by_cases b:i.UseImm=true
 ·rw [if_pos b,if_pos b,f,a,vs6];simp only [u8w,un4,un5,un0,gz4,gz3,gz5];refine congrArg some ?_;simp only [List.cons.injEq,and_true,true_and]
  and_intros<;>first|trivial|omega
 ·rw [if_neg b,if_neg b,f,a,gh0];simp only [u8w,un4,un5,un0,gz4,gz3,gz5];refine congrArg some ?_;simp only [List.cons.injEq,and_true]
  and_intros<;>first|trivial|omega
def uo5 (b0 b1 b2 b3 b4 b5 b6 b7):qfo v7 [b0,b1,b2,b3,b4,b5,b6,b7]=
 ((((((((((j7 (qaq v7 (w8 .u8 b0 (31:Int))) fun a=>
 j8 ((w8 .i64 a (32:Int)) != (0:Int))
 ((if zr2 .u8 b0 (6:Int)<0 then none else (some (⟨w8 .u8 b0 (31:Int),false,IntKind.i64.wrap (zr2 .u8 b1 (4:Int)),IntKind.i64.wrap (w8 .u8 b1 (15:Int)),(w8 .u8 (zr2 .u8 b0 (5:Int)) (1:Int))==(1:Int),IntKind.i64.wrap (bOr .i16 (zm3 .i16 (IntKind.i16.wrap b2) (8:Int)) (IntKind.i16.wrap b3)),IntKind.i64.wrap (bOr .i32 (bOr .i32 (bOr .i32 (zm3 .i32 (IntKind.i32.wrap b4) (24:Int)) (zm3 .i32 (IntKind.i32.wrap b5) (16:Int))) (zm3 .i32 (IntKind.i32.wrap b6) (8:Int))) (IntKind.i32.wrap b7)),zm3 .i64 (1:Int) (zr2 .u8 b0 (6:Int))⟩:Ins))))
 ((some (⟨w8 .u8 b0 (31:Int),(zr2 .u8 b0 (6:Int))==(1:Int),IntKind.i64.wrap (zr2 .u8 b1 (4:Int)),IntKind.i64.wrap (w8 .u8 b1 (15:Int)),(w8 .u8 (zr2 .u8 b0 (5:Int)) (1:Int))==(1:Int),IntKind.i64.wrap (bOr .i16 (zm3 .i16 (IntKind.i16.wrap b2) (8:Int)) (IntKind.i16.wrap b3)),IntKind.i64.wrap (bOr .i32 (bOr .i32 (bOr .i32 (zm3 .i32 (IntKind.i32.wrap b4) (24:Int)) (zm3 .i32 (IntKind.i32.wrap b5) (16:Int))) (zm3 .i32 (IntKind.i32.wrap b6) (8:Int))) (IntKind.i32.wrap b7)),(0:Int)⟩:Ins))))))))))))):=by kernel_rfl
def qc4 (k m x y) (i:m<=k.bits) (j:x%2^m=0) (a:0<=y/\y<2^m):bOr k x y=k.wrap (x%2^k.bits+y):=by
 unfold bOr;congr 1;rw [BitVec.toNat_or,BitVec.toNat_ofInt,BitVec.toNat_ofInt];have s:(2:Int)^m<=2^k.bits:=by exact_mod_cast Nat.pow_le_pow_right (by decide) i
 have n:(0:Int)<2^k.bits:=K6 (by decide);have o:y%((2^k.bits:Nat):Int)=y:=by push_cast;exact Int.emod_eq_of_lt a.1 (by omega)
 have b:(x%((2^k.bits:Nat):Int))%2^m=0:=by
  push_cast
  rw [Int.emod_emod_of_dvd _ ⟨2^(k.bits-m),by rw [<-Int.pow_add];congr 1;omega⟩];exact j
 have f:0<=x%((2^k.bits:Nat):Int):=Int.emod_nonneg _ (by push_cast;omega);rw [o]
 push_cast at b f⊢
 generalize x%2^k.bits=X at b f⊢;obtain ⟨q,g⟩:=Int.dvd_of_emod_eq_zero b;have e:0<=q:=by
  have:(0:Int)<2^m:=K6 (by decide);rcases Int.lt_or_le q 0 with h|h
  ·have:=Int.mul_neg_of_pos_of_neg this h;omega
  ·exact h
 obtain ⟨c,rfl⟩:=T2 e;obtain ⟨d,rfl⟩:=T2 a.1;have p:d<2^m:=by have:=a.2;exact_mod_cast this
 have r:X.toNat=2^m*c:=by rw [g];exact_mod_cast Z1 (2^m*c)
 rw [r,Z1,<-Nat.two_pow_add_eq_or_of_lt p c,g]
 push_cast;rfl
def up8 (a b) (g:0<=a/\a<=255) (h:0<=b/\b<=255):bOr .i16 (zm3 .i16 (IntKind.i16.wrap a) 8) (IntKind.i16.wrap b)=if 256*a+b>=32768 then 256*a+b-65536 else 256*a+b:=by
 have c:IntKind.i16.wrap a=a:=by unfold IntKind.wrap;simp [IntKind.bits,IntKind.signed];omega
 have d:IntKind.i16.wrap b=b:=by unfold IntKind.wrap;simp [IntKind.bits,IntKind.signed];omega
 have e:zm3 .i16 a 8=IntKind.i16.wrap (a*256):=rfl;rw [c,d,e];have f:IntKind.i16.wrap (a*256)%256=0:=by unfold IntKind.wrap;simp [IntKind.bits,IntKind.signed];omega
 rw [qc4 .i16 8 _ _ (by decide) (by simpa using f) (by omega)];unfold IntKind.wrap;simp [IntKind.bits,IntKind.signed];omega
def up9 (a b c d) (j:0<=a/\a<=255) (k:0<=b/\b<=255) (l:0<=c/\c<=255) (n:0<=d/\d<=255):bOr .i32 (bOr .i32 (bOr .i32 (zm3 .i32 (IntKind.i32.wrap a) 24) (zm3 .i32 (IntKind.i32.wrap b) 16)) (zm3 .i32 (IntKind.i32.wrap c) 8)) (IntKind.i32.wrap d)=if 16777216*a+65536*b+256*c+d>=2147483648 then 16777216*a+65536*b+256*c+d-4294967296 else 16777216*a+65536*b+256*c+d:=by
 have w: ∀x:Int,0<=x/\x<2147483648->IntKind.i32.wrap x=x:=fun x h=>by unfold IntKind.wrap;simp [IntKind.bits,IntKind.signed];omega
 have e: ∀x:Int,0<=x/\x<4294967296->IntKind.i32.wrap x=if x>=2147483648 then x-4294967296 else x:=fun x h=>by unfold IntKind.wrap;simp [IntKind.bits,IntKind.signed];omega
 have f:zm3 .i32 a 24=IntKind.i32.wrap (a*16777216):=rfl;have g:zm3 .i32 b 16=IntKind.i32.wrap (b*65536):=rfl;have i:zm3 .i32 c 8=IntKind.i32.wrap (c*256):=rfl;have m: ∀x:Int,0<=x/\x<4294967296->IntKind.i32.wrap x%4294967296=x:=fun x h=>by rw [e x h];split<;>omega
 rw [w a (by omega),w b (by omega),w c (by omega),w d (by omega),f,g,i,w (b*65536) (by omega),w (c*256) (by omega)];rw [qc4 .i32 24 (IntKind.i32.wrap (a*16777216)) (b*65536) (by decide) (by have:=m (a*16777216) (by omega);show IntKind.i32.wrap (a*16777216)%16777216=0;omega) (by omega),show (2:Int)^IntKind.i32.bits=4294967296 from rfl,m _ (by omega)];rw [qc4 .i32 16 (IntKind.i32.wrap (a*16777216+b*65536)) (c*256) (by decide) (by have:=m (a*16777216+b*65536) (by omega);show IntKind.i32.wrap (a*16777216+b*65536)%65536=0;omega) (by omega),show (2:Int)^IntKind.i32.bits=4294967296 from rfl,m _ (by omega)];rw [qc4 .i32 8 (IntKind.i32.wrap (a*16777216+b*65536+c*256)) d (by decide) (by have:=m (a*16777216+b*65536+c*256) (by omega);show IntKind.i32.wrap (a*16777216+b*65536+c*256)%256=0;omega) (by omega),show (2:Int)^IntKind.i32.bits=4294967296 from rfl,m _ (by omega)];rw [e _ (by omega)];split<;>split<;>omega
def uf4: ∀o:Fin 256,w8 .u8 (o.val:Int) 31=(o.val:Int)%32:=by decide+kernel
def uf3: ∀o:Fin 256,w8 .u8 (o.val:Int) 15=(o.val:Int)%16:=by decide+kernel
def un7: ∀o:Fin 256,w8 .u8 (o.val:Int) 1=(o.val:Int)%2:=by decide+kernel
def a31 {x} (h:0<=x/\x<=255):w8 .u8 x 31=x%32:=by obtain ⟨o,rfl⟩:=jg0 256 (x:=x) (by omega);exact uf4 o
def a15 {x} (h:0<=x/\x<=255):w8 .u8 x 15=x%16:=by obtain ⟨o,rfl⟩:=jg0 256 (x:=x) (by omega);exact uf3 o
def a1 {x} (h:0<=x/\x<=255):w8 .u8 x 1=x%2:=by obtain ⟨o,rfl⟩:=jg0 256 (x:=x) (by omega);exact un7 o
def sh6 (x):zr2 .u8 x 6=x/64:=shr _ _ _ 6 rfl
def sh5 (x):zr2 .u8 x 5=x/32:=shr _ _ _ 5 rfl
def sh4 (x):zr2 .u8 x 4=x/16:=shr _ _ _ 4 rfl
def ue5 (u:Int):Int:=if u=0 then 1 else if u=1 then 2 else if u=2 then 4 else 8
def gd6: ∀u:Fin 4,zm3 .i64 1 (u.val:Int)=ue5 (u.val:Int):=by decide+kernel
def uh5 {u} (h:0<=u/\u<=3):zm3 .i64 1 u=ue5 u:=by obtain ⟨o,rfl⟩:=jg0 4 (x:=u) (by omega);exact gd6 o
def gi4 (z:Bool) (b0 b1 b2 b3 b4 b5 b6 b7:Int):Ins:=
 ⟨b0%32,z,b1/16,b1%16,b0/32%2==1,if 256*b2+b3>=32768 then 256*b2+b3-65536 else 256*b2+b3,
  if 16777216*b4+65536*b5+256*b6+b7>=2147483648 then 16777216*b4+65536*b5+256*b6+b7-4294967296 else 16777216*b4+65536*b5+256*b6+b7,if b0%32=14\/b0%32=15 then ue5 (b0/64) else 0⟩
def yj4 (x:Int):Prop:=0<=x/\x<=255
def kb1 (x): ∃y,qaq v7 x=some y/\(w8 .i64 y 32 != 0)=decide (x=14\/x=15):=by
 rw [yr2]
 repeat' split
 all_goals refine ⟨_,rfl,?_⟩
 all_goals first|(rw [show decide (x=14\/x=15)=false from by simp;omega];decide)|(rw [show decide (x=14\/x=15)=true from by simp;omega];decide)
def wc2 (b0 b1 b2 b3 b4 b5 b6 b7) (h0:yj4 b0) (h1:yj4 b1) (h2:yj4 b2) (h3:yj4 b3) (h4:yj4 b4) (h5:yj4 b5) (h6:yj4 b6) (h7:yj4 b7):
  qfo v7 [b0,b1,b2,b3,b4,b5,b6,b7]=some (gi4 (!decide (b0%32=14\/b0%32=15)&&b0/64==1) b0 b1 b2 b3 b4 b5 b6 b7):=by
 unfold yj4 at *;obtain ⟨y,b,c⟩:=kb1 (b0%32);have w: ∀x:Int,-2147483648<=x/\x<=2147483647->IntKind.i64.wrap x=x:=fun x h=>zb7 (by omega);rw [uo5,a31 h0,b,j4,c,up8 b2 b3 h2 h3,up9 b4 b5 b6 b7 h4 h5 h6 h7,sh6,sh5,sh4,a15 h1,a1 (x:=b0/32) (by omega)];rw [w (b1/16) (by omega),w (b1%16) (by omega),w (if 256*b2+b3>=32768 then 256*b2+b3-65536 else 256*b2+b3) (by split<;>omega),w (if 16777216*b4+65536*b5+256*b6+b7>=2147483648 then 16777216*b4+65536*b5+256*b6+b7-4294967296 else 16777216*b4+65536*b5+256*b6+b7) (by split<;>omega),q7];unfold gi4;by_cases a:b0%32=14\/b0%32=15
 ·rw [W4 a,if_pos rfl,if_neg (by omega),if_pos a,uh5 (by omega)];rfl
 ·rw [W5 a,if_neg (by simp),if_neg a];rfl
def kr9 (i:Ins) (b:List Int):Bool:=zd4 i&&decide (vx7 i=b)
section
variable (b0 b1 b2 b3 b4 b5 b6 b7:Int) (h0:yj4 b0) (h1:yj4 b1) (h2:yj4 b2) (h3:yj4 b3) (h4:yj4 b4) (h5:yj4 b5) (h6:yj4 b6) (h7:yj4 b7)
 (z0:Int) (z1:Bool) (z2 z3:Int) (z4:Bool) (z5 z6 z7:Int) (c0:Int) (c1:Bool) (c2 c3:Int) (c4:Bool) (c5 c6 c7:Int)
include h0 h1 h2 h3 h4 h5 h6 h7
end
def wb5 (a a1 a2 a3 a4 b c d b0 b1 b2 b3 b4 b5 b6 b7):qak v7 [a,a1,a2,a3,a4,b,c,d] [b0,b1,b2,b3,b4,b5,b6,b7]=j8 (a != b0) (some false) (j8 (a1 != b1) (some false) (j8 (a2 != b2) (some false) (j8 (a3 != b3) (some false) (j8 (a4 != b4) (some false) (j8 (b != b5) (some false) (j8 (c != b6) (some false) (j8 (d != b7) (some false) (some true)))))))):=by kernel_rfl
def je3 (i b0 b1 b2 b3 b4 b5 b6 b7):qak v7 (vx7 i) [b0,b1,b2,b3,b4,b5,b6,b7]=some (decide (vx7 i= [b0,b1,b2,b3,b4,b5,b6,b7])):=by
 unfold vx7;generalize i.Op+64*upP i+(if i.UseImm=true then 32 else 0)=a0;generalize 16*i.Dst+i.Src=a1;generalize i.Off%65536/256=a2;generalize i.Off%256=a3;generalize i.Imm%4294967296/16777216=a4;generalize i.Imm%4294967296/65536%256=a5;generalize i.Imm%4294967296/256%256=a6;generalize i.Imm%256=a7;rw [wb5];simp only [q7,List.cons.injEq,bne_iff_ne,ne_eq,and_true];by_cases h0:a0=b0
 ·by_cases h1:a1=b1
  ·by_cases h2:a2=b2
   ·by_cases h3:a3=b3
    ·by_cases h4:a4=b4
     ·by_cases h5:a5=b5
      ·by_cases h6:a6=b6
       ·by_cases h7:a7=b7
        ·simp [*]
        ·simp [*]
       ·simp [*]
      ·simp [*]
     ·simp [*]
    ·simp [*]
   ·simp [*]
  ·simp [*]
 ·simp [*]
def je0:List Int->Ins
 | [b0,b1,b2,b3,b4,b5,b6,b7]=>gi4 (!decide (b0%32=14\/b0%32=15)&&b0/64==1) b0 b1 b2 b3 b4 b5 b6 b7
 |_=>zb2
def gl0 (b:List Int):Option Ins:=if kr9 (je0 b) b=true then some (je0 b) else none
def ym0 {a} (s:List a) (h:0<s.length): ∃b r,s=b::r/\r.length+1=s.length:=by
 cases s with
 |nil=>simp at h
 |cons b r=>exact ⟨b,r,rfl,rfl⟩
def ug7 (s:List Int) (m:Nat) (h:s.length=8*(m+1)): ∃b0 b1 b2 b3 b4 b5 b6 b7 r,s= [b0,b1,b2,b3,b4,b5,b6,b7]++r/\r.length=8*m:=by
 obtain ⟨b0,a,rfl,j⟩:=ym0 s (by omega);obtain ⟨b1,b,rfl,k⟩:=ym0 a (by omega);obtain ⟨b2,c,rfl,l⟩:=ym0 b (by omega);obtain ⟨b3,d,rfl,n⟩:=ym0 c (by omega);obtain ⟨b4,e,rfl,o⟩:=ym0 d (by omega);obtain ⟨b5,f,rfl,p⟩:=ym0 e (by omega);obtain ⟨b6,g,rfl,q⟩:=ym0 f (by omega);obtain ⟨b7,i,rfl,t⟩:=ym0 g (by omega);exact ⟨b0,b1,b2,b3,b4,b5,b6,b7,i,rfl,by simp at h;omega⟩
def ve1:Nat->List Int->Option (List Ins)
 |0,_=>some []
 |m+1,b=>match gl0 (b.take 8) with
  |none=>none
  |some i=>match ve1 m (b.drop 8) with
   |none=>none
   |some l=>some (i::l)
def zv4 (a:List Ins):Option (List Ins)->List Ins×Int
 |none=>([],4)
 |some l=>(a++l,0)
def vm0 (b0 b1 b2 b3 b4 b5 b6 b7 r m a):zv4 a (ve1 (m+1) ([b0,b1,b2,b3,b4,b5,b6,b7]++r))=match gl0 [b0,b1,b2,b3,b4,b5,b6,b7] with
  |none=>([],4)
  |some i=>zv4 (a++ [i]) (ve1 m r):=by
 show zv4 a (match gl0 [b0,b1,b2,b3,b4,b5,b6,b7] with|none=>none|some i=>match ve1 m r with|none=>none|some l=>some (i::l))=_;cases gl0 [b0,b1,b2,b3,b4,b5,b6,b7] with
 |none=>rfl
 |some i=>
  cases ve1 m r with
  |none=>rfl
  |some l=>show (a++i::l,(0:Int))=(a++ [i]++l,0);rw [Q2];rfl
def ki5: ∀(m n s a),s.length=8*m->(∀x∈s,yj4 x)->a.length+m<=1000000->2*m+1<=n->qd6 n s a=some (zv4 a (ve1 m s))
 |0,n,s,a,d,_,_,h=>by
  obtain ⟨n,rfl⟩: ∃k,n=k+1:=⟨n-1,by omega⟩;rw [ju3,W5 (by omega),j6];show _=some (a++ [],(0:Int));rw [K8]
 |m+1,n,s,a,d,f,t,h=>by
  obtain ⟨n,rfl⟩: ∃k,n=k+2:=⟨n-2,by omega⟩;obtain ⟨b0,b1,b2,b3,b4,b5,b6,b7,r,rfl,j⟩:=ug7 s m d;have l:=fun i=>ki5 m n r (a++ [i]) j (fun x e=>f x (List.mem_append_right _ e)) (by rw [X9];simp;omega) (by omega);have b: ∀x∈ [b0,b1,b2,b3,b4,b5,b6,b7],yj4 x:=fun x e=>f x (List.mem_append_left _ e);simp only [Z0,J4,or_false,forall_eq_or_imp,forall_eq] at b;obtain ⟨h0,h1,h2,h3,h4,h5,h6,h7⟩:=b;have o:List.take 8 (List.drop 0 ([b0,b1,b2,b3,b4,b5,b6,b7]++r))= [b0,b1,b2,b3,b4,b5,b6,b7]:=rfl;have p:([b0,b1,b2,b3,b4,b5,b6,b7]++r).length=8*(m+1):=d;have q:List.take ((((([b0,b1,b2,b3,b4,b5,b6,b7]++r).length:Nat):Int).toNat)-8) (List.drop 8 ([b0,b1,b2,b3,b4,b5,b6,b7]++r))=r:=by
   rw [p];show List.take _ r=r;exact Q3 (by omega)
  rw [vm0];rw [ju3,W4 (by omega),j9,if_pos (by omega),o,wc2 _ _ _ _ _ _ _ _ h0 h1 h2 h3 h4 h5 h6 h7,j4,show gi4 (!decide (b0%32=14\/b0%32=15)&&b0/64==1) b0 b1 b2 b3 b4 b5 b6 b7=je0 [b0,b1,b2,b3,b4,b5,b6,b7] from rfl];simp only [jh4,j4,if_pos (show 0<=(0:Int)/\(0:Int)<=(8:Int)/\(8:Int)<=((([b0,b1,b2,b3,b4,b5,b6,b7]++r).length:Nat):Int) by omega)];show _=some (match (if kr9 (je0 [b0,b1,b2,b3,b4,b5,b6,b7]) [b0,b1,b2,b3,b4,b5,b6,b7]=true then some (je0 [b0,b1,b2,b3,b4,b5,b6,b7]) else none) with|none=>([],4)|some i=>zv4 (a++ [i]) (ve1 m r));unfold kr9;change j8 (!zd4 (je0 [b0,b1,b2,b3,b4,b5,b6,b7])) _ (j7 (qbm v7 (je0 [b0,b1,b2,b3,b4,b5,b6,b7])) _)=_;generalize je0 [b0,b1,b2,b3,b4,b5,b6,b7]=c;cases hr':zd4 c with
  |false=>rw [U5,j9,ju2,j9];rfl
  |true=>
   rw [U1,j6,ga8 c (fit c hr'),j4,je3,j4,ju2];by_cases g:vx7 c= [b0,b1,b2,b3,b4,b5,b6,b7]
   ·rw [W4 g,U1,j6,if_pos (by omega),if_pos (by omega),q];exact l c
   ·rw [W5 g];rfl
def getsP (b:List Int):List Ins×Int:=if b.length>32768 then ([],3) else if b.length%8=0 then zv4 [] (ve1 (b.length/8) b) else ([],4)
def get_p (b) (a: ∀x∈b,yj4 x):qal v7 b=some (getsP b):=by
 rw [wg5];unfold getsP;by_cases h1:b.length>32768
 ·rw [if_pos h1,W4 (by omega),j9]
 rw [if_neg h1,W5 (by omega),j6,q7,Int.tmod_eq_emod_of_nonneg (by omega)];by_cases h2:b.length%8=0
 ·rw [if_pos h2,if_neg (by simp;omega)];exact ki5 (b.length/8) v7 b [] (by omega) a (by simp;omega) (by unfold v7;omega)
 ·rw [if_neg h2,if_pos (by simp;omega)]
end Go.Y.C
namespace Go.Y.E
open Go.RowKit Go.V Go.X Go.Proofs Go.Y
def q7 {R} (c:Bool) (x y:Option R):j8 c x y=if c=true then x else y:=rfl
def j9 {R} (x y:Option R):j8 true x y=x:=rfl
def j6 {R} (x y:Option R):j8 false x y=y:=rfl
def j4 {b c} (a:b) (f:b->Option c):j7 (some a) f=f a:=rfl
def zs8 (c x):j8 c (some x) (some false)=some (c&&x):=by cases c<;>rfl
def qb3 (x):qec v7 [1,2,4,8] x=j8 (x==1) (some 0) (j8 (x==2) (some 1) (j8 (x==4) (some 2) (j8 (x==8) (some 3) (some (-1))))):=by kernel_rfl
def ze7 (x:Int):Bool:=x==1||(x==2||(x==4||x==8))
def zd5 (x):qcr v7 [1,2,4,8] x=some (ze7 x):=by
 rw [ko2,qb3];unfold ze7;cases x==1<;>cases x==2<;>cases x==4<;>cases x==8<;>rfl
def yb5 (x a b):qby v7 x a b=some (decide (a<=x)&&decide (x<=b)):=by rw [km8,zs8]
def zl9 (n m:Int):Bool:=decide (0<=n)&&decide (n<=m)
def zd1 (i:Ins):Bool:=if i.UseImm=true then i.Src==0&&(decide (-2147483648<=i.Imm)&&decide (i.Imm<2147483648)) else zl9 i.Src 10&&i.Imm==0
def zv3 (i:Ins):Bool:=decide (-32768<=i.Off)&&decide (i.Off<32768)
def zd4 (i:Ins):Bool:=
 if 1<=i.Op/\i.Op<=12 then zl9 i.Dst 9&&(zd1 i&&(i.Off==0&&i.Size==0))
 else if i.Op=13 then zl9 i.Dst 9&&(i.Src==0&&(!i.UseImm&&(i.Off==0&&(i.Imm==0&&i.Size==0))))
 else if i.Op=14 then zl9 i.Dst 9&&(zl9 i.Src 10&&(zv3 i&&(ze7 i.Size&&(!i.Narrow&&(!i.UseImm&&i.Imm==0)))))
 else if i.Op=15 then zl9 i.Dst 10&&(zv3 i&&(ze7 i.Size&&(zd1 i&& !i.Narrow)))
 else if i.Op=16 then zv3 i&&(!i.Narrow&&(i.Dst==0&&(i.Src==0&&(!i.UseImm&&(i.Imm==0&&i.Size==0)))))
 else if 17<=i.Op/\i.Op<=27 then zl9 i.Dst 10&&(zv3 i&&(zd1 i&&i.Size==0))
 else decide (i.Op=28)&&(!i.Narrow&&(i.Dst==0&&(i.Src==0&&(!i.UseImm&&(i.Off==0&&(i.Imm==0&&i.Size==0))))))
def vf1 (i):qcn v7 i=some (decide (16<=i.Op)&&decide (i.Op<=27)):=by rw [wn1,zs8]
def yr2 (a):qaq v7 a=some (if 1<=a/\a<=12 then 201 else if a=13 then 193 else if a=14 then 181 else if a=15 then 186 else if a=16 then 144 else if 17<=a/\a<=27 then 218 else if a=28 then 128 else 0):=by
 rw [kl1];simp only [ju7,q7]
 grind
def jh4 (i):qa v7 i=some (zd4 i):=by
 rw [gl4,yr2];obtain ⟨b,c,d,s,u,e,g,sz⟩:=i;simp only [j4];have l: ∀(n:Nat) (f m:Int) (z:Bool) (x:Ins),jp7 (n+1) f m z b c d s u e g sz x.Op x.Narrow x.Dst x.Src x.UseImm x.Off x.Imm x.Size=
   some (f != 0&&((b==x.Op&&(c==x.Narrow&&(d==x.Dst&&(s==x.Src&&(u==x.UseImm&&(e==x.Off&&(g==x.Imm&&sz==x.Size)))))))&&((decide (0<=d)&&decide (d<=m))&&((decide (0<=s)&&decide (s<=10))&&((decide (-32768<=e)&&decide (e<=32767))&&((decide (-2147483648<=g)&&decide (g<=2147483647))&&z)))))):=by
  intro n f m z x;simp only [qm0,yb5,j4,zs8]
 have a: ∀(n:Nat) (f m:Int) (z:Bool) (q:Int) (a1:Bool) (a2 a3:Int) (a4:Bool) (r t v:Int),jp7 (n+1) f m z b c d s u e g sz q a1 a2 a3 a4 r t v=_:=fun n f m z q a1 a2 a3 a4 r t v=>l n f m z ⟨q,a1,a2,a3,a4,r,t,v⟩;by_cases h:1<=b/\b<=12
 ·rw [if_pos h];cases c<;>cases u<;>simp only [zg2,zg3,zg4,zg5,zg6,zg7,zg8,zg9,zh0,a,zd5,j4,U1,U5,j9,j6,show (w8 .i64 201 3 != 0)=true from by decide,show (w8 .i64 201 4 != 0)=false from by decide,show (w8 .i64 201 8 != 0)=true from by decide,show (w8 .i64 201 16 != 0)=false from by decide,show (w8 .i64 201 32 != 0)=false from by decide,show (w8 .i64 201 64 != 0)=true from by decide,show (w8 .i64 201 1 != 0)=true from by decide,show (w8 .i64 201 32==0)=true from by decide]<;>(refine congrArg some ?_;rw [V2];simp [zd4,zd1,zl9,zv3, *]<;>grind)
 by_cases j:b=13
 ·rw [if_neg h,if_pos j];cases c<;>cases u<;>simp only [zg2,zg3,zg4,zg5,zg6,zg7,zg8,zg9,zh0,a,zd5,j4,U1,U5,j9,j6,show (w8 .i64 193 3 != 0)=true from by decide,show (w8 .i64 193 4 != 0)=false from by decide,show (w8 .i64 193 8 != 0)=false from by decide,show (w8 .i64 193 16 != 0)=false from by decide,show (w8 .i64 193 32 != 0)=false from by decide,show (w8 .i64 193 64 != 0)=true from by decide,show (w8 .i64 193 1 != 0)=true from by decide,show (w8 .i64 193 32==0)=true from by decide]<;>(refine congrArg some ?_;rw [V2];simp [zd4,zd1,zl9,zv3, *]<;>grind)
 by_cases k:b=14
 ·rw [if_neg h,if_neg j,if_pos k];cases c<;>cases u<;>simp only [zg2,zg3,zg4,zg5,zg6,zg7,zg8,zg9,zh0,a,zd5,j4,U1,U5,j9,j6,show (w8 .i64 181 3 != 0)=true from by decide,show (w8 .i64 181 4 != 0)=true from by decide,show (w8 .i64 181 8 != 0)=false from by decide,show (w8 .i64 181 16 != 0)=true from by decide,show (w8 .i64 181 32 != 0)=true from by decide,show (w8 .i64 181 64 != 0)=false from by decide,show (w8 .i64 181 1 != 0)=true from by decide,show (w8 .i64 181 32==0)=false from by decide]<;>(refine congrArg some ?_;rw [V2];simp [zd4,zd1,zl9,zv3, *]<;>grind)
 by_cases o:b=15
 ·rw [if_neg h,if_neg j,if_neg k,if_pos o];cases c<;>cases u<;>simp only [zg2,zg3,zg4,zg5,zg6,zg7,zg8,zg9,zh0,a,zd5,j4,U1,U5,j9,j6,show (w8 .i64 186 3 != 0)=true from by decide,show (w8 .i64 186 4 != 0)=false from by decide,show (w8 .i64 186 8 != 0)=true from by decide,show (w8 .i64 186 16 != 0)=true from by decide,show (w8 .i64 186 32 != 0)=true from by decide,show (w8 .i64 186 64 != 0)=false from by decide,show (w8 .i64 186 1 != 0)=false from by decide,show (w8 .i64 186 32==0)=false from by decide]<;>(refine congrArg some ?_;rw [V2];simp [zd4,zd1,zl9,zv3, *]<;>grind)
 by_cases p:b=16
 ·rw [if_neg h,if_neg j,if_neg k,if_neg o,if_pos p];cases c<;>cases u<;>simp only [zg2,zg3,zg4,zg5,zg6,zg7,zg8,zg9,zh0,a,zd5,j4,U1,U5,j9,j6,show (w8 .i64 144 3 != 0)=false from by decide,show (w8 .i64 144 4 != 0)=false from by decide,show (w8 .i64 144 8 != 0)=false from by decide,show (w8 .i64 144 16 != 0)=true from by decide,show (w8 .i64 144 32 != 0)=false from by decide,show (w8 .i64 144 64 != 0)=false from by decide,show (w8 .i64 144 1 != 0)=false from by decide,show (w8 .i64 144 32==0)=true from by decide]<;>(refine congrArg some ?_;rw [V2];simp [zd4,zd1,zl9,zv3, *]<;>grind)
 by_cases w:17<=b/\b<=27
 ·rw [if_neg h,if_neg j,if_neg k,if_neg o,if_neg p,if_pos w];cases c<;>cases u<;>simp only [zg2,zg3,zg4,zg5,zg6,zg7,zg8,zg9,zh0,a,zd5,j4,U1,U5,j9,j6,show (w8 .i64 218 3 != 0)=true from by decide,show (w8 .i64 218 4 != 0)=false from by decide,show (w8 .i64 218 8 != 0)=true from by decide,show (w8 .i64 218 16 != 0)=true from by decide,show (w8 .i64 218 32 != 0)=false from by decide,show (w8 .i64 218 64 != 0)=true from by decide,show (w8 .i64 218 1 != 0)=false from by decide,show (w8 .i64 218 32==0)=true from by decide]<;>(refine congrArg some ?_;rw [V2];simp [zd4,zd1,zl9,zv3, *]<;>grind)
 by_cases y:b=28
 ·rw [if_neg h,if_neg j,if_neg k,if_neg o,if_neg p,if_neg w,if_pos y];cases c<;>cases u<;>simp only [zg2,zg3,zg4,zg5,zg6,zg7,zg8,zg9,zh0,a,zd5,j4,U1,U5,j9,j6,show (w8 .i64 128 3 != 0)=false from by decide,show (w8 .i64 128 4 != 0)=false from by decide,show (w8 .i64 128 8 != 0)=false from by decide,show (w8 .i64 128 16 != 0)=false from by decide,show (w8 .i64 128 32 != 0)=false from by decide,show (w8 .i64 128 64 != 0)=false from by decide,show (w8 .i64 128 1 != 0)=false from by decide,show (w8 .i64 128 32==0)=true from by decide]<;>(refine congrArg some ?_;rw [V2];simp [zd4,zd1,zl9,zv3, *]<;>grind)
 ·rw [if_neg h,if_neg j,if_neg k,if_neg o,if_neg p,if_neg w,if_neg y];cases c<;>cases u<;>simp only [zg2,zg3,zg4,zg5,zg6,zg7,zg8,zg9,zh0,a,zd5,j4,U1,U5,j9,j6,show (w8 .i64 0 3 != 0)=false from by decide,show (w8 .i64 0 4 != 0)=false from by decide,show (w8 .i64 0 8 != 0)=false from by decide,show (w8 .i64 0 16 != 0)=false from by decide,show (w8 .i64 0 32 != 0)=false from by decide,show (w8 .i64 0 64 != 0)=false from by decide,show (w8 .i64 0 1 != 0)=false from by decide,show (w8 .i64 0 32==0)=true from by decide]<;>(refine congrArg some ?_;rw [V2];simp [zd4,zd1,zl9,zv3, *]<;>grind)
def wc5 (x y):qcw v7 x y=some (decide (x<y)):=by
 rw [wo1,wr7,j4];simp [q7]
def uo6 (a):qfm v7 [a]=some ([a],()):=by kernel_rfl
def ug8 (a b):qfq v7 [a,b] 0 2=j7 (qcw v7 b a) (fun y=>j8 y (some ([b,a],())) (some ([a,b],()))):=by kernel_rfl
def ug9 (a b):qfm v7 [a,b]=j7 (j7 (qfq v7 [a,b] 0 2) fun y=>some (y.1,())) fun y=>some (y.1,()):=by kernel_rfl
def uo7 (a b):qfm v7 [a,b]=some (if b<a then [b,a] else [a,b],()):=by
 rw [ug9,ug8,wc5,j4];by_cases h:b<a
 ·rw [if_pos h,W4 h];rfl
 ·rw [if_neg h,W5 h];rfl
def uo0 (a b):qfs v7 [a,b] 1 1=some (([a,b],()),()):=by kernel_rfl
def un8 (a):qfp v7 [a]=some (([a],()),((0,1),())):=by kernel_rfl
def ul8 (a b):qfp v7 [a,b]=j8 (b==a) (some (([a,0],()),((0,1),()))) (some (([a,b],()),((0,2),()))):=by kernel_rfl
def un9 (a b):qfr v7 [a,b] 1 1=some (([a,b],()),((1,1),())):=by kernel_rfl
def yj7 (i:Ins) (nx a:Int):List Int:=if i.Op=16 then [a] else if 17<=i.Op/\i.Op<=27 then (if a<nx then [a,nx] else if nx<a then [nx,a] else [nx]) else [nx]
def zr6 (l:List Ins) (at_:Int):List Int:=
 if 0<=at_/\at_<l.length then
  let i:=l.getD at_.toNat zb2
  if zd4 i=true/\i.Op≠28 then yj7 i (IntKind.i64.wrap (at_+1)) (IntKind.i64.wrap (IntKind.i64.wrap (at_+1)+i.Off)) else []
 else []
def ud4 (y:List Int) (o n:Nat) (l:List Int):Prop:=o+n<=y.length/\List.take n (List.drop o y)=l
def gd0 (l at_): ∃y o n,qab v7 l at_=some ((),((y,o,n),()))/\ud4 y o n (zr6 l at_):=by
 have a: ∀b,(b=false->0<=at_/\at_<((l.length:Nat):Int))-> ∃y o n,jc1 v7 l at_ b=some ((),((y,o,n),()))/\ud4 y o n (if b=true then [] else yj7 (l.getD at_.toNat zb2) (IntKind.i64.wrap (at_+1)) (IntKind.i64.wrap (IntKind.i64.wrap (at_+1)+(l.getD at_.toNat zb2).Off))):=by
  intro b p;rw [vo8,q7];by_cases c:b=true
  ·rw [if_pos c,if_pos c];exact ⟨[],0,0,rfl,by simp,rfl⟩
  ·rw [if_neg c,if_neg c];have f:=p (by simpa using c);rw [if_pos f,if_pos f,vf1,j4];simp only [vo9,if_pos f];generalize l.getD at_.toNat zb2=i;generalize IntKind.i64.wrap (at_+1)=nx;generalize IntKind.i64.wrap (nx+i.Off)=to;unfold yj7;by_cases d:i.Op=16
   ·rw [if_pos d,d];refine ⟨[nx,to],1,1,?_,by simp,rfl⟩;have q:(((([nx,to]:List Int).length:Nat):Int).toNat)-1=1:=rfl;rw [show (decide (16<=(16:Int))&&decide ((16:Int)<=27))=true from rfl,show ((16:Int)==16)=true from rfl,j9,j9,if_pos (by simp),q,uo0,j4,un9,j4]
   ·rw [if_neg d];have j:(i.Op==16)=false:=by simpa using d
    by_cases m:17<=i.Op/\i.Op<=27
    ·rw [if_pos m,j,show (decide (16<=i.Op)&&decide (i.Op<=27))=true from by simp;omega,j9,j6,uo7,j4];by_cases g:to<nx
     ·rw [if_pos g,if_pos g,ul8,show (nx==to)=false from by simp;omega,j6,j4];exact ⟨_,_,_,rfl,by simp,rfl⟩
     ·rw [if_neg g,if_neg g,ul8];by_cases k:nx<to
      ·rw [if_pos k,show (to==nx)=false from by simp;omega,j6,j4];exact ⟨_,_,_,rfl,by simp,rfl⟩
      ·rw [if_neg k,show (to==nx)=true from by simp;omega,j9,j4];exact ⟨_,_,_,rfl,by simp,rfl⟩
    ·rw [if_neg m,j,show (decide (16<=i.Op)&&decide (i.Op<=27))=false from by simp;omega,j6,j6,uo6,j4,un8,j4];exact ⟨_,_,_,rfl,by simp,rfl⟩
 rw [we8];unfold zr6;by_cases g:at_<0
 ·rw [W4 g,j9,if_neg (by omega)];simpa using a true (by simp)
 rw [W5 g,j6];by_cases k:at_>=((l.length:Nat):Int)
 ·rw [W4 k,j9,if_neg (by omega)];simpa using a true (by simp)
 have f:0<=at_/\at_<((l.length:Nat):Int):=by omega
 rw [W5 k,j6,if_pos f,if_pos f,jh4,j4];simp only [if_pos f];cases hr:zd4 (l.getD at_.toNat zb2) with
 |false=>simpa [j9] using a true (by simp)
 |true=>
  simp only [U1,j6,true_and];by_cases e:(l.getD at_.toNat zb2).Op=28
  ·rw [if_neg (fun h=>h e),show ((l.getD at_.toNat zb2).Op==28)=true from by simpa using e];simpa using a true (by simp)
  ·rw [if_pos e,show ((l.getD at_.toNat zb2).Op==28)=false from by simpa using e];simpa using a false (fun _=>f)
def zb7 {x} (h: -9223372036854775808<=x/\x<=9223372036854775807):IntKind.i64.wrap x=x:=by
 unfold IntKind.wrap;simp [IntKind.bits,IntKind.signed];omega
def loop {g} (f:Nat->Nat->Option g) (c len:Nat) (r:Option g) (a: ∀n k,k<len->f (n+c) k=f n (k+1)) (b: ∀n,f (n+1) len=r): ∀m k n,k+m=len->c*m+1<=n->f n k=r
 |0,k,n,h,e=>by
  obtain ⟨d,rfl⟩: ∃d,n=d+1:=⟨n-1,by omega⟩;have:k=len:=by omega
  subst this;exact b d
 |m+1,k,n,h,e=>by
  obtain ⟨d,rfl⟩: ∃d,n=d+c:=⟨n-c,by rw [N2] at e;omega⟩;rw [a d k (by omega)];exact loop f c len r a b m (k+1) d (by omega) (by rw [N2] at e;omega)
def qc1 {d} (f:Nat->Nat->Option d) (c len:Nat) (r:Option d) (a: ∀n k,k<len->f (n+c) k=f n (k+1)) (b: ∀n,f (n+1) len=r) (n:Nat) (e:c*len+1<=n):f n 0=r:=loop f c len r a b len 0 n (by omega) e
def nx {k len:Nat} (h:k<len) (a:len<=1000000000):IntKind.i64.wrap ((k:Int)+1)=((k+1:Nat):Int):=by rw [zb7 (by omega)];omega
def vn7 (l a):(zr6 l a).length<=400000000:=by
 unfold zr6 yj7;grind
def yz5 (a:Nat->Int):Nat->Nat->Option Fault
 |_,0=>none
 |k,m+1=>if a k=0 then yz5 a (k+1) m else some ⟨a k,(k:Int)⟩
def qw2 {q} (f:Nat->Nat->Option q) (p:q->Fault) (a:Nat->Int) (c len b:Nat) (F:Fault)
  (d: ∀n k,k<len->b<=n->(a k=0/\f (n+c) k=f n (k+1))\/(a k≠0/\ ∃Y,f (n+c) k=some Y/\p Y=⟨a k,(k:Int)⟩))
  (g:(∀k,k<len->a k=0)-> ∀n,b<=n-> ∃Y,f n len=some Y/\p Y=F):
  ∀m k n,k+m=len->c*m+b<=n->(∀j,j<k->a j=0)-> ∃Y,f n k=some Y/\p Y=(yz5 a k m).getD F
 |0,k,n,s,r,h=>by
  have:k=len:=by omega
  subst this;exact g h n (by omega)
 |m+1,k,n,s,r,h=>by
  rw [N2] at r;obtain ⟨i,rfl⟩: ∃i,n=i+c:=⟨n-c,by omega⟩;unfold yz5;rcases d i k (by omega) (by omega) with ⟨l,o⟩|⟨l,Y,o,t⟩
  ·rw [if_pos l,o];exact qw2 f p a c len b F d g m (k+1) i (by omega) (by omega) (fun j u=>by
    by_cases e:j=k
    ·subst e;exact l
    ·exact h j (by omega))
  ·rw [if_neg l];exact ⟨Y,o,t⟩
def yc3 (a:List Int) (r:List Bool):List Bool:=a.foldl (fun r x=>r.set x.toNat true) r
def gz7 (l:List Ins) (r:List Bool) (k:Nat):List Bool:=if r.getD k false=true then yc3 (zr6 l (k:Int)) r else r
def stP (l:List Ins):Nat->List Bool
 |0=>(List.replicate l.length false).set 0 true
 |k+1=>gz7 l (stP l k) k
def yv0: ∀(a r),(yc3 a r).length=r.length
 | [],_=>rfl
 |x::a,r=>by
  show (yc3 a (r.set x.toNat true)).length=_;rw [yv0 a,Q1]
def qa1 (l): ∀k,(stP l k).length=l.length
 |0=>by unfold stP;rw [Q1,Z9]
 |k+1=>by
  unfold stP gz7;split
  ·rw [yv0,qa1 l k]
  ·exact qa1 l k
def qp8 (r:List Bool) (k:Nat):r.set k (r.getD k false)=r:=by
 by_cases h:k<r.length
 ·rw [Y2,Y0 h];exact M1 h
 ·exact List.set_eq_of_length_le (by omega)
def kb9 (r:List Bool) (k j:Nat) (b:Bool):(r.set k b).getD j false=if k=j/\j<r.length then b else r.getD j false:=by
 rw [Y2,Y2,List.getElem?_set];by_cases h:k=j
 ·subst h;by_cases a:k<r.length
  ·rw [if_pos rfl,if_pos a,if_pos ⟨rfl,a⟩];rfl
  ·rw [if_pos rfl,if_neg a,if_neg (fun h=>a h.2),Y5 (by omega)]
 ·rw [if_neg h,if_neg (fun c=>h c.1)]
def jr6: ∀(a r j),(∀x∈a,x.toNat≠j)->(yc3 a r).getD j false=r.getD j false
 | [],_,_,_=>rfl
 |x::a,r,j,h=>by
  show (yc3 a (r.set x.toNat true)).getD j false=_;rw [jr6 a _ j (fun y b=>h y (Z4 _ b)),kb9,if_neg (fun c=>h x (U2) c.1)]
def qs8 (a:List Int) (r:List Bool) (j:Nat) (h:j<a.length):yc3 (a.take (j+1)) r=(yc3 (a.take j) r).set (a.getD j 0).toNat true:=by
 unfold yc3;rw [List.take_add_one,List.foldl_append,Y0 h,Y2,Y0 h];rfl
def Fwd (l:List Ins):Prop:= ∀k,k<l.length-> ∀x∈zr6 l (k:Int),(k:Int)<x/\x<l.length
def c1 (l:List Ins) (k:Nat):Int:=if zd4 (l.getD k zb2)=true then 0 else 4
def ks0 (i:Ins):Bool:=decide (16<=i.Op)&&decide (i.Op<=27)
def c2 (l:List Ins) (k:Nat):Int:=if ks0 (l.getD k zb2)=true then (if (l.getD k zb2).Off<0 then 100 else if (k:Int)+1+(l.getD k zb2).Off>=(l.length:Int) then 101 else 0) else 0
def c3 (l:List Ins) (k:Nat):Int:=if k+1=l.length/\(l.getD k zb2).Op≠28/\(l.getD k zb2).Op≠16 then 102 else 0
def c4 (l:List Ins) (k:Nat):Int:=if (stP l (k+1)).getD k false=true then 0 else 103
def ye3 (l:List Ins):Fault:=
 if l.length=0 then ⟨6,0⟩ else if l.length>4096 then ⟨3,0⟩ else
  (yz5 (c1 l) 0 l.length).getD ((yz5 (c2 l) 0 l.length).getD ((yz5 (c3 l) 0 l.length).getD ((yz5 (c4 l) 0 l.length).getD ⟨0,0⟩)))
def yf5 {l k} (h:c1 l k=0):zd4 (l.getD k zb2)=true:=by
 unfold c1 at h;split at h
 ·assumption
 ·cases h
def yj1 (i) (h:zd4 i=true): -32768<=i.Off/\i.Off<=32767/\1<=i.Op/\i.Op<=28:=by
 unfold zd4 at h
 grind [zd1,zv3,zl9,ze7]
def ki4 {l} (o:l.length<=4096) (g: ∀k,k<l.length->c1 l k=0) (h: ∀k,k<l.length->c2 l k=0) (j: ∀k,k<l.length->c3 l k=0):Fwd l:=by
 intro k c x a;have r:=yf5 (g k c);have a2:=h k c;have a3:=j k c;have p:=yj1 _ r;unfold c2 ks0 at a2;unfold c3 at a3;unfold zr6 at a;rw [if_pos (by omega)] at a;simp only [Z1] at a;generalize l.getD k zb2=i at *;split at a
 ·rename_i m;obtain ⟨_,d⟩:=m;rw [zb7 (x:=(k:Int)+1) (by omega),zb7 (by omega)] at a;unfold yj7 at a;by_cases b:i.Op=16
  ·rw [if_pos b] at a;simp only [Z0,J4,or_false] at a;subst a;rw [if_pos (by simp;omega)] at a2;split at a2
   ·cases a2
   ·split at a2
    ·cases a2
    ·omega
  ·rw [if_neg b] at a;have e:k+1≠l.length:=by
    intro n;rw [if_pos ⟨n,d,b⟩] at a3;cases a3
   by_cases f:17<=i.Op/\i.Op<=27
   ·rw [if_pos f] at a;rw [if_pos (by simp;omega)] at a2;split at a2
    ·cases a2
    ·split at a2
     ·cases a2
     ·split at a
      ·simp only [Z0,J4,or_false] at a;rcases a with rfl|rfl<;>omega
      ·split at a
       ·simp only [Z0,J4,or_false] at a;rcases a with rfl|rfl<;>omega
       ·simp only [Z0,J4,or_false] at a;subst a;omega
   ·rw [if_neg f] at a;simp only [Z0,J4,or_false] at a;subst a;omega
 ·cases a
def jc9 (b x):qbq v7 b x=some (if b=true then x else 0):=by
 rw [wl3];cases b<;>rfl
def p1 (l:List Ins) (k:Nat) (a:k<l.length):qdz v7 (k:Int) l=some (((l,()),()),(c1 l k,())):=by
 rw [wt9,if_pos (by omega),jh4,j4,jc9,j4,Z1];unfold c1;cases zd4 (l.getD k zb2)<;>rfl
def p2 (l k) (c:k<l.length) (d:l.length<=4096) (b:c1 l k=0):qea v7 (k:Int) l=some (((l,()),()),(c2 l k,())):=by
 have e:=yj1 _ (yf5 b);rw [wu1,if_pos (by omega),if_pos (by omega),vf1,j4,Z1,zb7 (x:=(k:Int)+1) (by omega),zb7 (by omega),jc9];unfold c2 ks0;generalize l.getD k zb2=i at *;cases decide (16<=i.Op)&&decide (i.Op<=27) with
 |false=>rfl
 |true=>
  rw [U1,j6,if_pos rfl];by_cases h:i.Off<0
  ·rw [W4 (by omega),j9,if_pos h]
  ·rw [W5 (by omega),j6,if_neg h,j4];by_cases a:(k:Int)+1+i.Off>=(l.length:Int)
   ·rw [W4 a,if_pos a];rfl
   ·rw [W5 a,if_neg a];rfl
def p3 (l:List Ins) (k:Nat) (e:k<l.length) (f:l.length<=4096):qeb v7 (k:Int) l=some (((l,()),()),(c3 l k,())):=by
 rw [wu3,zb7 (by omega),q7];unfold c3;simp only [Z1];by_cases h:k+1=l.length
 ·rw [if_pos (by simp;omega),if_pos (by omega),q7];by_cases a:(l.getD k zb2).Op=28
  ·rw [if_neg (by simpa using a),if_neg (fun d=>d.2.1 a),jc9,j4];rfl
  ·rw [if_pos (by simpa using a),if_pos (by omega),jc9,j4];by_cases b:(l.getD k zb2).Op=16
   ·rw [if_neg (c:=k+1=l.length/\(l.getD k zb2).Op≠28/\(l.getD k zb2).Op≠16) (fun d=>d.2.2 b),b];rfl
   ·rw [if_pos (c:=k+1=l.length/\(l.getD k zb2).Op≠28/\(l.getD k zb2).Op≠16) ⟨h,a,b⟩,if_pos (by simpa using b)]
 ·rw [if_neg (by simp;omega),if_neg (fun d=>h d.1),jc9,j4];rfl
def we3 {y a o m} (h:ud4 y o m a) (j) (b:j<m):y.getD (o+j) 0=a.getD j 0/\a.length=m:=by
 obtain ⟨d,c⟩:=h;subst c;refine ⟨?_,by rw [Y6,Q6];omega⟩;rw [Y2,Y2,Z3,if_pos b,Q5]
def wc3 (a:List Int) (j:Nat) (b:j<a.length):a.getD j 0∈a:=by
 rw [Y2,Y0 b];exact J0 b
def p4 {l} (A:l.length<=4096) (t:Fwd l) (k) (u:k<l.length):qu v7 (k:Int) l (stP l k)=some (((l,()),((),()),stP l (k+1),()),(c4 l k,())):=by
 obtain ⟨y,o,m,e,c⟩:=gd0 l (k:Int);rw [uj9,e,j4];dsimp only;have B:(zr6 l (k:Int)).length=m:=by
  rw [<-c.2,Y6,Q6];have:=c.1;omega
 have a:=qa1 l k;have C:=vn7 l (k:Int);have v: ∀j,(if (stP l k).getD k false=true then yc3 ((zr6 l (k:Int)).take j) (stP l k) else stP l k).length=l.length:=by
  intro j;split
  ·rw [yv0,a]
  ·exact a
 have h: ∀j,(if (stP l k).getD k false=true then yc3 ((zr6 l (k:Int)).take j) (stP l k) else stP l k).getD k false=(stP l k).getD k false:=by
  intro j;split
  ·refine jr6 _ _ _ fun x i=>?_;have:=t k u x (J3 i);omega
  ·rfl
 have w:(if (stP l k).getD k false=true then yc3 ((zr6 l (k:Int)).take 0) (stP l k) else stP l k)=stP l k:=by
  rw [List.take_zero];split<;>rfl
 have Q:=qc1 (fun n j=>jq3 n (k:Int) o m ((m:Nat):Int) ((j:Nat):Int) l (if (stP l k).getD k false=true then yc3 ((zr6 l (k:Int)).take j) (stP l k) else stP l k) y) 2 m (some (((l,()),((),()),stP l (k+1),()),(c4 l k,()))) (fun n j p=>?_) (fun n=>?_) v7 (by unfold v7;omega)
 ·rw [w] at Q;exact Q
 ·show jq3 (n+1+1) (k:Int) o m ((m:Nat):Int) ((j:Nat):Int) l _ y=jq3 n (k:Int) o m ((m:Nat):Int) ((j+1:Nat):Int) l _ y;have i:=(we3 c j p).1;have D:=t k u _ (wc3 (zr6 l (k:Int)) j (by omega));rw [qn1,W4 (by omega),j9,if_pos (by omega),if_pos (by have:=c.1;omega),Z1,i];have d:=v j;have b:=h j;have z:=qs8 (zr6 l (k:Int)) (stP l k) j (by omega);generalize (zr6 l (k:Int)).getD j 0=x at *;by_cases f:(stP l k).getD k false=true
  ·simp only [if_pos f] at d b⊢;rw [z];generalize yc3 ((zr6 l (k:Int)).take j) (stP l k)=r at *;have q:0<=x/\x<((r.length:Nat):Int):=by omega
   have s:0<=(k:Int)/\(k:Int)<((r.length:Nat):Int):=by omega
   simp only [if_pos q,if_pos s,qn0,nx (len:=m) p (by omega),Z1,b,f,q7,ite_self]
  ·simp only [if_neg f] at d b⊢;generalize E:stP l k=r at *;have q:0<=x/\x<((r.length:Nat):Int):=by omega
   have s:0<=(k:Int)/\(k:Int)<((r.length:Nat):Int):=by omega
   simp only [if_pos q,if_pos s,qn0,nx (len:=m) p (by omega),Z1,q7];by_cases g:r.getD x.toNat false=true
   ·rw [if_pos g,<-g,qp8]
   ·rw [if_neg g,Bool.eq_false_iff.2 f,<-Bool.eq_false_iff.2 g,qp8]
 ·show jq3 (n+1) (k:Int) o m ((m:Nat):Int) ((m:Nat):Int) l _ y=_;have d:=v m;have b:(if (stP l k).getD k false=true then yc3 ((zr6 l (k:Int)).take m) (stP l k) else stP l k)=stP l (k+1):=by
   rw [Q3 (by omega)];rfl
  rw [b] at d⊢;rw [qn1,W5 (by omega),j6,if_pos (by omega),jc9,j4,Z1];unfold c4;cases (stP l (k+1)).getD k false<;>rfl
def je1 (l):qdy v7 l=some (ye3 l):=by
 rw [wt7];unfold ye3;by_cases d:l.length=0
 ·rw [if_pos d,d];rfl
 rw [if_neg d,show (((l.length:Nat):Int)==0)=false from beq_eq_false_iff_ne.2 (by omega),j6];by_cases h:l.length>4096
 ·rw [if_pos h,W4 (by omega),j9]
 rw [if_neg h,W5 (by omega),j6,if_pos (by omega),if_pos (by rw [Z9];omega),Z1];have e: ∃Y,qc v7 ((l.length:Nat):Int) l (stP l 0)=some Y/\Y.2.1=(yz5 (c1 l) 0 l.length).getD ((yz5 (c2 l) 0 l.length).getD ((yz5 (c3 l) 0 l.length).getD ((yz5 (c4 l) 0 l.length).getD ⟨0,0⟩))):=by
  rw [uh9];refine qw2 (fun n k=>jg9 n ((l.length:Nat):Int) ((l.length:Nat):Int) ((k:Nat):Int) l (stP l 0) 0 0) (fun Y=>Y.2.1) (c1 l) 1 l.length 50000 _ (fun n k b c=>?_) (fun f n c=>?_) l.length 0 _ (by omega) (by omega) (by omega)
  ·obtain ⟨n,rfl⟩: ∃j,n=j+1:=⟨n-1,by omega⟩;show _\/_/\ ∃Y,jg9 (n+2) _ _ _ _ _ _ _=_/\_;by_cases a:c1 l k=0
   ·refine .inl ⟨a,?_⟩;show jg9 (n+2) _ _ _ _ _ _ _=jg9 (n+1) _ _ _ _ _ _ _;rw [jk3,W4 (by omega),j9,p1 l k b,j4,a,nx b (by omega)];dsimp only;rw [show ((0:Int) != 0)=false from rfl,j6]
   ·refine .inr ⟨a,?_⟩;rw [jk3,W4 (by omega),j9,p1 l k b,j4];dsimp only;rw [show (c1 l k != 0)=true by simpa using a,j9];exact ⟨_,rfl,rfl⟩
  obtain ⟨n,rfl⟩: ∃j,n=j+2:=⟨n-2,by omega⟩;show ∃Y,jg9 (n+2) _ _ _ _ _ _ _=_/\_;rw [jk3,W5 (by omega),j6];refine qw2 (fun n k=>yl1 n ((l.length:Nat):Int) ((l.length:Nat):Int) ((k:Nat):Int) l (stP l 0) 0 0) (fun Y=>Y.2.1) (c2 l) 1 l.length 40000 _ (fun n k b c=>?_) (fun m n c=>?_) l.length 0 _ (by omega) (by omega) (by omega)
  ·obtain ⟨n,rfl⟩: ∃j,n=j+1:=⟨n-1,by omega⟩;show _\/_/\ ∃Y,yl1 (n+2) _ _ _ _ _ _ _=_/\_;by_cases a:c2 l k=0
   ·refine .inl ⟨a,?_⟩;show yl1 (n+2) _ _ _ _ _ _ _=yl1 (n+1) _ _ _ _ _ _ _;rw [yw2,W4 (by omega),j9,p2 l k b (by omega) (f k b),j4,a,nx b (by omega)];dsimp only;rw [show ((0:Int) != 0)=false from rfl,j6]
   ·refine .inr ⟨a,?_⟩;rw [yw2,W4 (by omega),j9,p2 l k b (by omega) (f k b),j4];dsimp only;rw [show (c2 l k != 0)=true by simpa using a,j9];exact ⟨_,rfl,rfl⟩
  obtain ⟨n,rfl⟩: ∃j,n=j+2:=⟨n-2,by omega⟩;show ∃Y,yl1 (n+2) _ _ _ _ _ _ _=_/\_;rw [yw2,W5 (by omega),j6];refine qw2 (fun n k=>yl2 n ((l.length:Nat):Int) ((l.length:Nat):Int) ((k:Nat):Int) l (stP l 0) 0 0) (fun Y=>Y.2.1) (c3 l) 1 l.length 30000 _ (fun n k b c=>?_) (fun o n c=>?_) l.length 0 _ (by omega) (by omega) (by omega)
  ·obtain ⟨n,rfl⟩: ∃j,n=j+1:=⟨n-1,by omega⟩;show _\/_/\ ∃Y,yl2 (n+2) _ _ _ _ _ _ _=_/\_;by_cases a:c3 l k=0
   ·refine .inl ⟨a,?_⟩;show yl2 (n+2) _ _ _ _ _ _ _=yl2 (n+1) _ _ _ _ _ _ _;rw [yw3,W4 (by omega),j9,p3 l k b (by omega),j4,a,nx b (by omega)];dsimp only;rw [show ((0:Int) != 0)=false from rfl,j6]
   ·refine .inr ⟨a,?_⟩;rw [yw3,W4 (by omega),j9,p3 l k b (by omega),j4];dsimp only;rw [show (c3 l k != 0)=true by simpa using a,j9];exact ⟨_,rfl,rfl⟩
  obtain ⟨n,rfl⟩: ∃j,n=j+2:=⟨n-2,by omega⟩;show ∃Y,yl2 (n+2) _ _ _ _ _ _ _=_/\_;rw [yw3,W5 (by omega),j6];have i:=ki4 (by omega) f m o;refine qw2 (fun n k=>yl3 n ((l.length:Nat):Int) ((l.length:Nat):Int) ((k:Nat):Int) l (stP l k) 0 0) (fun Y=>Y.2.1) (c4 l) 1 l.length 20000 _ (fun n k b c=>?_) (fun q n c=>?_) l.length 0 _ (by omega) (by omega) (by omega)
  ·obtain ⟨n,rfl⟩: ∃j,n=j+1:=⟨n-1,by omega⟩;show _\/_/\ ∃Y,yl3 (n+2) _ _ _ _ _ _ _=_/\_;by_cases a:c4 l k=0
   ·refine .inl ⟨a,?_⟩;show yl3 (n+2) _ _ _ _ _ _ _=yl3 (n+1) _ _ _ _ _ _ _;rw [yw4,W4 (by omega),j9,p4 (by omega) i k b,j4,a,nx b (by omega)];dsimp only;rw [show ((0:Int) != 0)=false from rfl,j6]
   ·refine .inr ⟨a,?_⟩;rw [yw4,W4 (by omega),j9,p4 (by omega) i k b,j4];dsimp only;rw [show (c4 l k != 0)=true by simpa using a,j9];exact ⟨_,rfl,rfl⟩
  obtain ⟨n,rfl⟩: ∃j,n=j+2:=⟨n-2,by omega⟩;show ∃Y,yl3 (n+2) _ _ _ _ _ _ _=_/\_;rw [yw4,W5 (by omega),j6];exact ⟨_,rfl,rfl⟩
 obtain ⟨Y,g,p⟩:=e;have g:qc v7 ((l.length:Nat):Int) l ((List.replicate l.length false).set 0 true)=some Y:=g;rw [g,j4,p]
def jv9 (a): ∀m k F,yz5 a k m=some F-> ∃j,k<=j/\j<k+m/\a j≠0/\F=⟨a j,(j:Int)⟩
 |0,_,_,h=>by cases h
 |m+1,k,F,h=>by
  unfold yz5 at h;split at h
  ·obtain ⟨j,e,f,b,c⟩:=jv9 a m (k+1) F h;exact ⟨j,by omega,by omega,b,c⟩
  ·rename_i d;cases h;exact ⟨k,by omega,by omega,d,rfl⟩
def zz7 (a): ∀m k,yz5 a k m=none-> ∀j,k<=j->j<k+m->a j=0
 |0,_,_,j,b,c=>by omega
 |m+1,k,h,j,b,c=>by
  unfold yz5 at h;split at h
  ·rename_i d;by_cases e:j=k
   ·rw [e];exact d
   ·exact zz7 a m (k+1) h j (by omega) (by omega)
  ·cases h
structure Okay (l:List Ins):Prop where
 pos:0<l.length
 len:l.length<=4096
 z1: ∀k,k<l.length->c1 l k=0
 z2: ∀k,k<l.length->c2 l k=0
 z3: ∀k,k<l.length->c3 l k=0
 z4: ∀k,k<l.length->c4 l k=0
def yi0 {o:Option Fault} {d:Fault} (h: ∀F,o=some F->F.Err≠0) (a:(o.getD d).Err=0):o=none/\d.Err=0:=by
 cases o with
 |none=>exact ⟨rfl,a⟩
 |some F=>exact absurd a (h F rfl)
def ys3 (a m k F) (h:yz5 a k m=some F):F.Err≠0:=by
 obtain ⟨j,_,_,b,rfl⟩:=jv9 a m k F h;exact b
def gd3 {l} (h:(ye3 l).Err=0):Okay l:=by
 unfold ye3 at h;by_cases b:l.length=0
 ·rw [if_pos b] at h;cases h
 rw [if_neg b] at h;by_cases c:l.length>4096
 ·rw [if_pos c] at h;cases h
 rw [if_neg c] at h;obtain ⟨a1,h⟩:=yi0 (ys3 _ _ _) h;obtain ⟨a2,h⟩:=yi0 (ys3 _ _ _) h;obtain ⟨a3,h⟩:=yi0 (ys3 _ _ _) h;obtain ⟨a4,h⟩:=yi0 (ys3 _ _ _) h;exact ⟨by omega,by omega,fun k a=>zz7 _ _ _ a1 k (by omega) (by omega),fun k a=>zz7 _ _ _ a2 k (by omega) (by omega),fun k a=>zz7 _ _ _ a3 k (by omega) (by omega),fun k a=>zz7 _ _ _ a4 k (by omega) (by omega)⟩
def Okay.fwd {l} (h:Okay l):Fwd l:=ki4 h.len h.z1 h.z2 h.z3
def U64 (x:Int):Prop:=0<=x/\x<=18446744073709551615
def jo8 (x):U64 (IntKind.u64.wrap x):=by
 unfold IntKind.wrap U64;simp [IntKind.bits,IntKind.signed];omega
def uq3 (x):0<=IntKind.u32.wrap x/\IntKind.u32.wrap x<=4294967295:=by
 unfold IntKind.wrap;simp [IntKind.bits,IntKind.signed];omega
def ji7 {x} (h:U64 x):IntKind.u64.wrap x=x:=by
 unfold U64 at h;unfold IntKind.wrap;simp [IntKind.bits,IntKind.signed];omega
def doV (k e:IntKind) (d c a b:Int):Int×Int:=
 if c=1 then (k.wrap (a+b),0) else if c=2 then (k.wrap (a-b),0) else if c=3 then (k.wrap (a*b),0) else if c=4 then (k.wrap (a.tdiv b),0) else if c=5 then (a.tmod b,0)
 else if c=6 then (w8 k a b,0) else if c=7 then (bOr k a b,0) else if c=8 then (vw8 k a b,0) else if c=9 then (zm3 k a (b.tmod d),0) else if c=10 then (zr2 k a (b.tmod d),0)
 else if c=11 then (k.wrap (zr2 e (e.wrap a) (b.tmod d)),0) else if c=12 then (b,0) else if c=13 then (k.wrap (0-a),0) else (0,2)
def doW (k e:IntKind) (c d a b:Int):Int×Int:=if (d=4\/d=5)/\b=0 then (0,113) else doV k e c d a b
def qq3 {x m:Int} (a:0<=x): ¬x.tmod m<0:=by
 have:=Int.tmod_nonneg m a;omega
def wb3 (op a b:Int) (hb:0<=b):qbk v7 op 32 a b=some (doW .u32 .i32 32 op a b):=by
 obtain ⟨n,e⟩: ∃n:Nat,(v7:Nat)=n+1:=⟨999999999,rfl⟩;have hj: ∀c:Bool,(c=false->(op=4\/op=5)->b≠0)->jn0 (n+1) op c 32 a b=some (if c=true then (0,113) else doV .u32 .i32 32 op a b):=by
  intro c hc;rw [vq3];cases c with
  |true=>rfl
  |false=>
   rw [j6];simp only [ww9,wy7,wy9,wz1,wz3,wz5,wz7,wz9,ua1,wv1,wv3,wv5,wv7,j4,qq3 hb,if_false,N5,show ¬((32:Int)=0) by decide];unfold doV;by_cases h4:op=4
   ·subst h4;have:=hc rfl (.inl rfl);simp only [if_neg this];rfl
   by_cases h5:op=5
   ·subst h5;have:=hc rfl (.inr rfl);simp only [if_neg this];rfl
   simp only [if_neg h4,if_neg h5,if_false,N5,apply_ite some]
 rw [wk6,e];unfold doW;by_cases h4:op=4
 ·subst h4;rw [q7,if_pos (by decide),hj _ (by intro h _ hb;subst hb;cases h)];by_cases h:b=0
  ·subst h;rfl
  ·rw [if_neg (by simpa using h),if_neg (by simp [h])]
 by_cases h5:op=5
 ·subst h5;rw [q7,if_neg (by decide),q7,if_pos (by decide),hj _ (by intro h _ hb;subst hb;cases h)];by_cases h:b=0
  ·subst h;rfl
  ·rw [if_neg (by simpa using h),if_neg (by simp [h])]
 rw [q7,if_neg (by simpa using h4),q7,if_neg (by simpa using h5),hj _ (by intro _ h;exact absurd h (by simp [h4,h5])),if_neg (by simp),if_neg (by simp [h4,h5])]
def wb4 (op a b:Int) (hb:0<=b):qbl v7 op 64 a b=some (doW .u64 .i64 64 op a b):=by
 obtain ⟨n,e⟩: ∃n:Nat,(v7:Nat)=n+1:=⟨999999999,rfl⟩;have hj: ∀c:Bool,(c=false->(op=4\/op=5)->b≠0)->jn1 (n+1) op c 64 a b=some (if c=true then (0,113) else doV .u64 .i64 64 op a b):=by
  intro c hc;rw [vq4];cases c with
  |true=>rfl
  |false=>
   rw [j6];simp only [wv9,ww1,ww3,ww5,ww7,wx1,wx3,wx5,wx7,wx9,wy1,wy3,wy5,j4,qq3 hb,if_false,N5,show ¬((64:Int)=0) by decide];unfold doV;by_cases h4:op=4
   ·subst h4;have:=hc rfl (.inl rfl);simp only [if_neg this];rfl
   by_cases h5:op=5
   ·subst h5;have:=hc rfl (.inr rfl);simp only [if_neg this];rfl
   simp only [if_neg h4,if_neg h5,if_false,N5,apply_ite some]
 rw [wk8,e];unfold doW;by_cases h4:op=4
 ·subst h4;rw [q7,if_pos (by decide),hj _ (by intro h _ hb;subst hb;cases h)];by_cases h:b=0
  ·subst h;rfl
  ·rw [if_neg (by simpa using h),if_neg (by simp [h])]
 by_cases h5:op=5
 ·subst h5;rw [q7,if_neg (by decide),q7,if_pos (by decide),hj _ (by intro h _ hb;subst hb;cases h)];by_cases h:b=0
  ·subst h;rfl
  ·rw [if_neg (by simpa using h),if_neg (by simp [h])]
 rw [q7,if_neg (by simpa using h4),q7,if_neg (by simpa using h5),hj _ (by intro _ h;exact absurd h (by simp [h4,h5])),if_neg (by simp),if_neg (by simp [h4,h5])]
def zy9 (c:Int) (d:Bool) (a b:Int):Int×Int:=
 if d=true then (IntKind.u64.wrap (doW .u32 .i32 32 c (IntKind.u32.wrap a) (IntKind.u32.wrap b)).1,(doW .u32 .i32 32 c (IntKind.u32.wrap a) (IntKind.u32.wrap b)).2) else doW .u64 .i64 64 c a b
def gh8 (d c a b) (e:U64 b):qcl v7 d c a b=some (zy9 d c a b):=by
 rw [wm9];unfold zy9;cases c with
 |true=>rw [j9,wb3 _ _ _ (uq3 b).1,j4];rfl
 |false=>rw [j6,wb4 _ _ _ e.1,j4];rfl
def kb0 {x m:Int} (a:0<=x/\x<=m) (n:Nat):0<=x.fdiv (2^n)/\x.fdiv (2^n)<=m:=by
 have b:(0:Int)<2^n:=K6 (by decide);rw [Int.fdiv_eq_ediv_of_nonneg _ (M7 b)];have c:=Int.ediv_nonneg a.1 (M7 b);have d:=Int.ediv_le_self (2^n) a.1;omega
def zk6 {c:Prop} [Decidable c] {x y:Int×Int} (a:c->U64 x.1) (b: ¬c->U64 y.1):U64 (if c then x else y).1:=by
 by_cases h:c
 ·rw [if_pos h];exact a h
 ·rw [if_neg h];exact b h
def gb3 {f a b} (d:U64 a) (c:U64 b):U64 (doW .u64 .i64 64 f a b).1:=by
 unfold doW doV;have e:U64 0:=⟨by decide,by decide⟩;have g:b≠0->U64 (a.tmod b):=fun i=>by
  have j:=Int.tmod_nonneg b d.1;have m:=Int.tmod_lt_of_pos a (b:=b) (by have:=c.1;omega);have:=c.2;exact ⟨j,by omega⟩
 refine zk6 (fun _=>e) fun k=>?_;refine zk6 (fun _=>jo8 _) fun _=>?_;refine zk6 (fun _=>jo8 _) fun _=>?_;refine zk6 (fun _=>jo8 _) fun _=>?_;refine zk6 (fun _=>jo8 _) fun _=>?_;refine zk6 (fun l=>g fun h=>k ⟨.inr l,h⟩) fun _=>?_;refine zk6 (fun _=>jo8 _) fun _=>?_;refine zk6 (fun _=>jo8 _) fun _=>?_;refine zk6 (fun _=>jo8 _) fun _=>?_;refine zk6 (fun _=>jo8 _) fun _=>?_;refine zk6 (fun _=>kb0 d _) fun _=>?_;refine zk6 (fun _=>jo8 _) fun _=>?_;refine zk6 (fun _=>c) fun _=>?_;refine zk6 (fun _=>jo8 _) fun _=>?_;exact e
def qi6 {c d a b} (e:U64 a) (f:U64 b):U64 (zy9 c d a b).1:=by
 unfold zy9;split
 ·exact jo8 _
 ·exact gb3 e f
def jt0 {a b} (c:Prop) [Decidable c] (x y:Option a) (f:a->Option b):j7 (if c then x else y) f=if c then j7 x f else j7 y f:=by split<;>rfl
def isW (d:IntKind) (k:IntKind) (c a b:Int):Bool×Int:=
 if c=17 then (a==b,0) else if c=18 then (a != b,0) else if c=19 then (decide (a>b),0) else if c=20 then (decide (a>=b),0) else if c=21 then (decide (a<b),0) else if c=22 then (decide (a<=b),0)
 else if c=23 then (decide (d.wrap a>d.wrap b),0) else if c=24 then (decide (d.wrap a>=d.wrap b),0) else if c=25 then (decide (d.wrap a<d.wrap b),0) else if c=26 then (decide (d.wrap a<=d.wrap b),0)
 else if c=27 then (w8 k a b != 0,0) else (false,2)
def isP (c:Int) (d:Bool) (a b:Int):Bool×Int:=if d=true then isW .i32 .u32 c (IntKind.u32.wrap a) (IntKind.u32.wrap b) else isW .i64 .u64 c a b
def uo8 (d c a b):qdm v7 d c a b=some (isP d c a b):=by
 rw [wr3];unfold isP;cases c with
 |true=>
  rw [j9,ua3,if_pos rfl];unfold isW;simp only [q7,beq_iff_eq,apply_ite some,jt0,j4]
 |false=>
  rw [j6,ua5,if_neg (by decide)];unfold isW;simp only [q7,beq_iff_eq,apply_ite some,jt0,j4]
end Go.Y.E
