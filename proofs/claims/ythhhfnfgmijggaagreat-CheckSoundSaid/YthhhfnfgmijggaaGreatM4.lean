import Derived.Test.YthhhfnfgmijggaaGreatM3
import Derived.Test.YthhhfnfgmijggaaGreatZa
import Derived.Test.YthhhfnfgmijggaaGreatM2
set_option linter.defProp false
namespace Go.Y
open Go.RowKit Go.V Go.X Go.Proofs
def zk0 (e:Int) (f:Bool) (i:Int) (g:Int) (j:Int) (h:Int) (a:Int) (b:Int):(Int×Int×Bool):=(if (b != (1:Int)) then ((0:Int),(0:Int),false) else (if (a==(1:Int)) then (za6 (za4 e f g h) fun c=>((1:Int),c.1,(c.2==(0:Int)))) else (if (((a==(0:Int))||f)||((e != (1:Int))&&(e != (2:Int)))) then ((0:Int),(0:Int),false) else (za6 (za4 e false g h) fun d=>(a,d.1,(d.2==(0:Int)))))))
def zj9 (b:Int) (d:Bool) (e:Int) (f:Int) (c:Int) (g:Int) (a:Int):(Int×Int×Bool):=(if (b==(13:Int)) then (zk0 b d e f c g a (1:Int)) else (zk0 b d e f c g a c))
def zj8 (b:Int) (c:Bool) (d:Int) (f:Int) (a:Int) (e:Int):(Int×Int×Bool):=(if ((b==(12:Int))&&(!c)) then (a,e,(a != (0:Int))) else (if (b==(12:Int)) then (zj9 b c d f a e a) else (zj9 b c d f a e d)))
def zh8 (a):za5 a=true↔((a.Kind=4\/a.Kind=0)/\a.In.Lo=0/\a.In.Hi=0)\/((a.Kind=1\/a.Kind=2)/\a.In.Lo<=a.In.Hi)\/(a.Kind=3/\a.In.Lo=a.In.Hi):=by
 simp only [za5,q9,zq0,ju0]
 grind
def zd8 (a k n len):zb6 a k n len=true↔za5 a=true/\(a.Kind=0\/(a.Kind=4/\k=1/\0<=len/\n=IntKind.u64.wrap len)\/(a.Kind≠0/\a.Kind≠4/\k=a.Kind/\a.In.Lo<=n/\n<=a.In.Hi)):=by
 simp only [zb6,yi0,ju0]
 grind
def ke2 {y nw n} (a:q8 n) (b:y.Lo<=n/\n<=y.Hi) (h:qcd y nw=false):yc5 nw n≠0:=by
 simp only [qcd,yi0,ym5,zh1,ju0] at h;cases nw with
 |false=>simp at h;show n≠0;omega
 |true=>simp at h;show n%4294967296≠0;omega
def wi1 {nw m n} (b:q8 m) (a:q8 n):za4 12 nw m n=za4 12 nw n n:=by
 rw [zm1 (by omega) b a,zm1 (by omega) a a];rfl
def qk1 {nw m n} (a:q8 m) (b:q8 n):za4 13 nw m n=za4 13 nw m m:=by
 rw [zm1 (by omega) a b,zm1 (by omega) a a];rfl
def qv3 {op} (a:1<=op/\op<=13) {nw m n} (b:q8 m) (c:q8 n) (h:op=4\/op=5->yc5 nw n≠0):(za4 op nw m n).2=0:=by
 rw [zm1 a b c];unfold qj1;have d:op=1\/op=2\/op=3\/op=4\/op=5\/op=6\/op=7\/op=8\/op=9\/op=10\/op=11\/op=12\/op=13:=by omega
 rcases d with rfl|rfl|rfl|rfl|rfl|rfl|rfl|rfl|rfl|rfl|rfl|rfl|rfl
 all_goals first|rfl|(simp [h (by omega)];rfl)
def yf8 {a k n len} (h:zb6 a k n len=true) (e:0<=len/\len<=65535) (b:(qi a).2=true):
  k=1/\Hs (qi a).1 n/\(qi a).1.Lo<=(qi a).1.Hi:=by
 rw [zd8,zh8] at h;unfold qi at b⊢;by_cases d:a.Kind=4
 ·have c:(a.Kind==4)=true:=by simpa using d
  rw [c] at b⊢;simp only [if_true];have f:IntKind.u64.wrap len=len:=by rw [v7];omega
  refine ⟨by omega,⟨by show (0:Int)<=n;omega,by show n<=(65535:Int);omega⟩,by decide⟩
 ·have c:(a.Kind==4)=false:=by simpa using d
  rw [c] at b⊢;simp only [U1,if_false,beq_iff_eq] at b⊢;exact ⟨by omega,⟨by omega,by omega⟩,by omega⟩
def wi6 {a k n len} (h:zb6 a k n len=true) (e:a.Kind≠0) (b:(qi a).2=false):k=a.Kind/\(k=2\/k=3)/\a.In.Lo<=n/\n<=a.In.Hi/\a.In.Lo<=a.In.Hi:=by
 rw [zd8,zh8] at h;unfold qi at b;by_cases d:a.Kind=4
 ·have c:(a.Kind==4)=true:=by simpa using d
  rw [c] at b;simp at b
 ·have c:(a.Kind==4)=false:=by simpa using d
  rw [c] at b;simp at b;omega
def zy4 {s n len} (h:Hs s n) (a:s.Lo<=s.Hi):zb6 ⟨1,s⟩ 1 n len=true:=by
 rw [zd8,zh8];exact ⟨.inr (.inl ⟨.inl rfl,a⟩),.inr (.inr ⟨by show (1:Int)≠0;decide,by show (1:Int)≠4;decide,rfl,h.1,h.2⟩)⟩
def vl0 {op} (e:op=1\/op=2) {a b} (f:q8 a.Lo/\q8 a.Hi) (g:q8 b.Lo/\q8 b.Hi) (c:a.Lo=a.Hi) (d:b.Lo=b.Hi):(span_Do op false a b).Lo=(span_Do op false a b).Hi:=by
 have h:=zm0 (nw:=false) f (Int.le_of_eq c);have i:=zm0 (nw:=false) g (Int.le_of_eq d);rw [zs2,if_pos ⟨by omega,Int.le_of_eq c,Int.le_of_eq d⟩,qg6 (by omega) h i];show ((jz1 false op a b).getD _).Lo=((jz1 false op a b).getD _).Hi;rcases e with rfl|rfl
 ·show ((if b.Hi<=j9 false-a.Hi\/b.Lo>j9 false-a.Lo then some (⟨(a.Lo+b.Lo)%(j9 false+1),(a.Hi+b.Hi)%(j9 false+1)⟩:j5) else none).getD _).Lo=((if b.Hi<=j9 false-a.Hi\/b.Lo>j9 false-a.Lo then some (⟨(a.Lo+b.Lo)%(j9 false+1),(a.Hi+b.Hi)%(j9 false+1)⟩:j5) else none).getD _).Hi;rw [if_pos (by omega),c,d];rfl
 ·show ((if a.Lo>=b.Hi\/a.Hi<b.Lo then some (⟨(a.Lo-b.Hi)%(j9 false+1),(a.Hi-b.Lo)%(j9 false+1)⟩:j5) else none).getD _).Lo=((if a.Lo>=b.Hi\/a.Hi<b.Lo then some (⟨(a.Lo-b.Hi)%(j9 false+1),(a.Hi-b.Lo)%(j9 false+1)⟩:j5) else none).getD _).Hi;rw [if_pos (by omega),c,d];rfl
def wi5:TKnown:=⟨0,⟨0,0⟩⟩
def wo9 (x:TKnown×Int) (t:Int×Int×Bool) (len:Int):Prop:=(x.2≠0/\x.1=wi5)\/(x.2=0/\t.2.2=true/\zb6 x.1 t.1 t.2.1 len=true)
def kw2 {op} (a:1<=op/\op<=13) {nw x y} (h:q8 x.Lo/\q8 x.Hi) (i:q8 y.Lo/\q8 y.Hi) (b:x.Lo<=x.Hi) (c:y.Lo<=y.Hi) {m n p q len} (j:q8 m) (k:q8 n) (l:q8 p) (o:q8 q)
  (d:Hs x p) (e:Hs y q) (f:za4 op nw m n=za4 op nw p q) (r:op=4\/op=5->yc5 nw n≠0):(za4 op nw m n).2=0/\zb6 ⟨1,span_Do op nw x y⟩ 1 (za4 op nw m n).1 len=true:=by
 obtain ⟨s,t⟩:=js9 a (nw:=nw) h i b c;have g:=qv3 a (nw:=nw) j k r;exact ⟨g,zy4 (by rw [f];exact t p q l o d e (by rw [<-f];exact g)) s.le⟩
def ju2 {op nw k m j n} (c:op=12->nw=true/\j=1) (d:op≠13->j=1) (g:op≠12->k=1):zj8 op nw k m j n=(1,(za4 op nw m n).1,(za4 op nw m n).2==0):=by
 unfold zj8 zj9 zk0 za6;by_cases a:op=12
 ·obtain ⟨h,i⟩:=c a;subst a;subst h;subst i;rfl
 ·have e:(op==12)=false:=by simpa using a
  rw [e,g a];by_cases b:op=13
  ·subst b;rfl
  ·have f:(op==13)=false:=by simpa using b
   rw [f,d b];rfl
def kd5 {op} (a:op=1\/op=2) {k m n} (b:k=2\/k=3):zj8 op false k m 1 n=(k,(za4 op false m n).1,(za4 op false m n).2==0):=by
 rcases a with rfl|rfl<;>rcases b with rfl|rfl<;>rfl
def qj8 {op} (f:1<=op/\op<=13) {nw} (c d A B) (u:q8 A.In.Lo/\q8 A.In.Hi) (L:q8 B.In.Lo/\q8 B.In.Hi) {e p v q len m n} (w:0<=len/\len<=65535)
  (x:zb6 A e p len=true) (K:zb6 B v q len=true) (y:A.Kind≠0) (M:B.Kind≠0) (N:q8 m) (O:q8 n) (z:q8 p) (k:q8 q)
  (P:za4 op nw m n=za4 op nw p q) (Q:op=4\/op=5->n=q) (t)
  (C:e=1->v=1->t=(1,(za4 op nw m n).1,(za4 op nw m n).2==0))
  (D:nw=false->(op=1\/op=2)->(e=2\/e=3)->v=1->t=(e,(za4 op false p q).1,(za4 op false p q).2==0)):
  wo9 (zg9 op nw c d A.Kind A.In.Lo A.In.Hi B.Kind B.In.Lo B.In.Hi) t len:=by
 unfold zg9 za6;simp only;rw [show (⟨A.Kind,⟨A.In.Lo,A.In.Hi⟩⟩:TKnown)=A from rfl,show (⟨B.Kind,⟨B.In.Lo,B.In.Hi⟩⟩:TKnown)=B from rfl];have R:=jp7 u;have E:=jp7 L;cases h1:(qi A).2 with
 |true=>
  obtain ⟨l,F,G⟩:=yf8 x w h1;cases h2:(qi B).2 with
  |true=>
   obtain ⟨b,o,S⟩:=yf8 K w h2;rw [C l b];simp only [N8];split
   ·exact .inl ⟨by show (113:Int)≠0;decide,rfl⟩
   ·rename_i g;have T:op=4\/op=5->yc5 nw n≠0:=by
     intro h;rw [Q h];refine ke2 k o ?_;cases hz:qcd (qi B).1 nw with
     |false=>rfl
     |true=>rw [hz] at g;exact absurd (by rcases h with rfl|rfl<;>rfl) g
    obtain ⟨r,s⟩:=kw2 (len:=len) f (nw:=nw) R E G S N O z k F o P T;exact .inr ⟨rfl,by show ((za4 op nw m n).2==0)=true;simpa using r,s⟩
  |false=>
   simp only [Bool.and_false,T8,U1,if_false];exact .inl ⟨by show (114:Int)≠0;decide,rfl⟩
 |false=>
  obtain ⟨l,b,F,o,G⟩:=wi6 x y h1;simp only [T8,U1,if_false];cases h2:(qi B).2 with
  |false=>
   simp only [Bool.and_false,T8,U1,if_false];exact .inl ⟨by show (114:Int)≠0;decide,rfl⟩
  |true=>
   obtain ⟨U,V,W⟩:=yf8 K w h2;by_cases a:((((op==1)||(op==2))&& !nw)&&true)=true
   ·rw [a];have h:op=1\/op=2:=by simp at a;exact a.1
    have H:nw=false:=by simp at a;exact a.2
    subst H;rw [D rfl h b U];obtain ⟨X,Y⟩:=js9 f (nw:=false) u E G W;have r:=qv3 f (nw:=false) z k (by omega);have s:=Y p q z k ⟨F,o⟩ V r;have i:(e=3->A.In.Lo=A.In.Hi/\(qi B).1.Lo=(qi B).1.Hi)->wo9 (zz9 op false c d A.Kind A.In.Lo A.In.Hi B.Kind B.In.Lo B.In.Hi (qi A) (qi B) true) (e,(za4 op false p q).1,(za4 op false p q).2==0) len:=by
     intro j;refine .inr ⟨rfl,by show ((za4 op false p q).2==0)=true;simpa using r,?_⟩;show zb6 ⟨A.Kind,span_Do op false A.In (qi B).1⟩ e (za4 op false p q).1 len=true;rw [<-l,zd8,zh8];have Z:=X.le;refine ⟨?_,.inr (.inr ⟨by show e≠0;omega,by show e≠4;omega,rfl,s.1,s.2⟩)⟩;rcases b with b|b
     ·exact .inr (.inl ⟨.inr b,Z⟩)
     ·obtain ⟨s1,s2⟩:=j b;exact .inr (.inr ⟨b,vl0 h u E s1 s2⟩)
    rcases b with b|b
    ·have I:(A.Kind==2)=true:=by simpa using l▸b
     rw [I];exact i (by omega)
    ·have I:(A.Kind==2)=false:=by simp;omega
     have J:(A.Kind==3)=true:=by simp;omega
     rw [I,J];simp only [Bool.and_false,U1,if_false,N8];by_cases j:(qi B).1.Lo=(qi B).1.Hi
     ·rw [show ((qi B).1.Lo==(qi B).1.Hi)=true from by simpa using j];refine i fun _=>⟨?_,j⟩;rw [zd8,zh8] at x;omega
     ·rw [show ((qi B).1.Lo==(qi B).1.Hi)=false from by simpa using j];exact .inl ⟨by show (114:Int)≠0;decide,rfl⟩
   ·have a:((((op==1)||(op==2))&& !nw)&&true)=false:=by simpa using a
    rw [a];simp only [T8,U1,if_false];exact .inl ⟨by show (114:Int)≠0;decide,rfl⟩
def wh1 {op nw a b} (t:q8 a.In.Lo/\q8 a.In.Hi) (u:q8 b.In.Lo/\q8 b.In.Hi) {m n k j len} (c:q8 m) (d:q8 n) (v:0<=len/\len<=65535)
  (r:zb6 a k m len=true) (o:zb6 b j n len=true):wo9 (zp8 op nw a b) (zj8 op nw k m j n) len:=by
 have A:za5 a=true:=((zd8 a k m len).1 r).1;have B:za5 b=true:=((zd8 b j n len).1 o).1;unfold zp8;rw [A,B];by_cases w:1<=op/\op<=13
 ·rw [if_neg (by simp;omega)];by_cases s:((op != 12)&&(a.Kind==0)||(op != 13)&&(b.Kind==0))=true
  ·rw [if_pos s];exact .inl ⟨by show (110:Int)≠0;decide,rfl⟩
  ·rw [if_neg s];have x:op≠12->a.Kind≠0:=by intro e f;apply s;simp [e,f]
   have p:op≠13->b.Kind≠0:=by intro e f;apply s;simp [e,f]
   by_cases g:op=12
   ·subst g;have q:=p (by decide);have C:j≠0:=by
     have:=(zd8 b j n len).1 o;omega
    cases nw with
    |false=>
     refine .inr ⟨rfl,?_,o⟩;show (j != 0)=true;simpa using C
    |true=>
     show wo9 (zg9 12 true a b b.Kind b.In.Lo b.In.Hi b.Kind b.In.Lo b.In.Hi) _ len;exact qj8 (by omega) a b b b u u v o o q q c d d d (wi1 c d) (by omega) _ (fun _ h=>ju2 (fun _=>⟨rfl,h⟩) (fun _=>h) (by omega)) (by intro h;cases h)
   ·have y:(op==12)=false:=by simpa using g
    rw [y];simp only [T8,U1,if_false];have i:=x g;by_cases l:op=13
    ·subst l;exact qj8 (by omega) a b a a t t v r r i i c d c c (qk1 c d) (by omega) _ (fun h _=>ju2 (by omega) (by omega) (fun _=>h)) (by omega)
    ·have z:(op==13)=false:=by simpa using l
     rw [z];simp only [U1,if_false];refine qj8 w a b a b t u v r o i (p l) c d c d rfl (fun _=>rfl) _ (fun e f=>ju2 (by omega) (fun _=>f) (fun _=>e)) (fun e f D E=>?_);subst e;subst E;exact kd5 f D
 ·rw [if_pos (by simp;omega)];exact .inl ⟨by show (2:Int)≠0;decide,rfl⟩
end Go.Y
namespace Go.Y
open Go.RowKit Go.V Go.X Go.Proofs
def gg3 (op a b):za4 op true a b=yx5 op 32 (IntKind.u32.wrap a) (IntKind.u32.wrap b):=rfl
def we1 {op} (c:1<=op/\op<=13) {nw a b} (d:q8 a) (e:q8 b):q8 (za4 op nw a b).1:=by
 rw [zm1 c d e];cases h:qj1 nw op (yc5 nw a) (yc5 nw b) with
 |none=>show q8 (0:Int);decide
 |some x=>
  have:=qv1 c (jn8 d) (jn8 e) h;have f:=zn3 nw;show q8 x;omega
def qj2 {op} (c:1<=op/\op<=13) (nw) {a b} (e:q8 a) (d:q8 b):Z.aluP op nw a b=za4 op nw a b:=by
 have f:=Z.alu_p op nw a b d;have g:qcb v3 op nw a b=some (za4 op nw a b):=by
  rw [vq5];cases nw with
  |true=>
   rw [j4,do32 _ _ _ (kr6 b).1,z5,gg3];have h:=we1 c (nw:=true) e d;rw [gg3] at h;rw [zf4 (by omega)]
  |false=>rw [z8,do64 _ _ _ (by omega),z5];rfl
 exact X5 (f.symm.trans g)
def ue7 {p} (h:q8 p):IntKind.i64.wrap p=sgn false p:=by
 rw [yv9];unfold sgn j9;simp only [U1,if_false];split<;>omega
def ue6 {p} (h:0<=p/\p<=4294967295):IntKind.i32.wrap p=sgn true p:=by
 rw [js7];unfold sgn j9;simp only [if_true];split<;>omega
def gi8 (a k nw) {op p q} (b:17<=op/\op<=27) (c:a.wrap p=sgn nw p) (d:a.wrap q=sgn nw q) (e:w9 k p q=((p.toNat&&&q.toNat:Nat):Int)):(Z.isW a k op p q).1=isE nw op p q:=by
 unfold Z.isW isE;rw [c,d,e];have f:op=17\/op=18\/op=19\/op=20\/op=21\/op=22\/op=23\/op=24\/op=25\/op=26\/op=27:=by omega
 rcases f with rfl|rfl|rfl|rfl|rfl|rfl|rfl|rfl|rfl|rfl|rfl
 ·show (p==q)=decide (p=q);by_cases h:p=q<;>simp [h]
 ·show (p != q)=decide (p≠q);by_cases h:p=q<;>simp [h]
 ·rfl
 ·rfl
 ·rfl
 ·rfl
 ·rfl
 ·rfl
 ·rfl
 ·rfl
 ·show (((p.toNat&&&q.toNat:Nat):Int) != 0)=decide (p.toNat&&&q.toNat≠0);by_cases h:p.toNat&&&q.toNat=0
  ·rw [h];rfl
  ·rw [W6 h];exact bne_iff_ne.2 (by omega)
def uh8 {op} (c:17<=op/\op<=27) (nw) {a b} (d:q8 a) (e:q8 b):(Z.isP op nw a b).1=isE nw op (yc5 nw a) (yc5 nw b):=by
 unfold Z.isP yc5;cases nw with
 |true=>
  rw [if_pos rfl,if_pos rfl,if_pos rfl,zc7,zc7];exact gi8 .i32 .u32 true c (ue6 (by omega)) (ue6 (by omega)) (gg6 (by omega) (by omega))
 |false=>
  rw [if_neg (by decide),if_neg (by decide),if_neg (by decide)];exact gi8 .i64 .u64 false c (ue7 d) (ue7 e) (zx8 d e)
end Go.Y
namespace Go.Y
open Go.RowKit Go.V Go.X Go.Proofs
def vg9 (k n len):zb6 ⟨0,⟨0,0⟩⟩ k n len=true:=rfl
def qx2 {a b:TKnown} (d:za5 a=true) (h:(qi a).2=true):(qi a).1.Lo<=(qi a).1.Hi:=by
 unfold qi at h⊢;split
 ·decide
 ·rename_i e;rw [if_neg e] at h;rcases (zh8 a).1 d with ⟨f,_⟩|⟨_,c⟩|⟨f,c⟩
  ·have:a.Kind=1:=by simpa using h
   omega
  ·exact c
  ·have:a.Kind=1:=by simpa using h
   omega
def jh3 {s t n} (h:Hs s n) (a:t.Lo<=t.Hi):Hs (zf9 s t) n/\(zf9 s t).Lo<=(zf9 s t).Hi:=by
 obtain ⟨b,c⟩:=h;unfold zf9 Hs;dsimp only;unfold zo3 zi1;split<;>split<;>omega
def jh4 {s t n} (h:Hs t n) (a:s.Lo<=s.Hi):Hs (zf9 s t) n/\(zf9 s t).Lo<=(zf9 s t).Hi:=by
 obtain ⟨b,c⟩:=h;unfold zf9 Hs;dsimp only;unfold zo3 zi1;split<;>split<;>omega
def uh9 {a b k n len} (i:0<=len/\len<=65535) (h:zb6 a k n len=true):zb6 (zi9 a b) k n len=true:=by
 have j:=((zd8 a k n len).1 h).1;unfold zi9;simp only [za6];rw [j];cases rb:za5 b with
 |false=>rfl
 |true=>
  simp only [W9,Bool.or_self,U1,if_false];split
  ·exact h
  ·split
   ·rename_i e;rw [X3] at e;obtain ⟨l,c,g⟩:=yf8 h i e.1;obtain ⟨d,f⟩:=jh3 c (qx2 (b:=a) rb e.2);rw [l];exact zy4 d f
   ·split
    ·rename_i c;rw [X3,beq_iff_eq,beq_iff_eq] at c;rcases (zh8 b).1 rb with ⟨q,_⟩|⟨_,q⟩|⟨q,_⟩
     ·omega
     ·rw [zd8] at h;rcases h.2 with g|⟨g,_⟩|⟨_,_,m,o,p⟩
      ·omega
      ·omega
      ·obtain ⟨d,f⟩:=jh3 (s:=a.In) ⟨o,p⟩ q;rw [zd8,zh8];exact ⟨.inr (.inl ⟨.inr rfl,f⟩),.inr (.inr ⟨by show (2:Int)≠0;decide,by show (2:Int)≠4;decide,by rw [m];exact c.1,d.1,d.2⟩)⟩
     ·omega
    ·rfl
def ui0 {a b k n len} (o:0<=len/\len<=65535) (h:zb6 b k n len=true):zb6 (zi9 a b) k n len=true:=by
 have p:=((zd8 b k n len).1 h).1;unfold zi9;simp only [za6];rw [p];cases ra:za5 a with
 |false=>rfl
 |true=>
  simp only [W9,Bool.or_self,U1,if_false];split
  ·rename_i g;simp only [X3,beq_iff_eq] at g;obtain ⟨i,j,l⟩:=g;have:a=b:=by
    obtain ⟨w,⟨x,y⟩⟩:=a;obtain ⟨z,⟨A,B⟩⟩:=b;simp only at i j l;subst i;subst j;subst l;rfl
   rw [this];exact h
  ·split
   ·rename_i e;rw [X3] at e;obtain ⟨r,c,m⟩:=yf8 h o e.2;obtain ⟨d,f⟩:=jh4 c (qx2 (b:=a) ra e.1);rw [r];exact zy4 d f
   ·split
    ·rename_i c;rw [X3,beq_iff_eq,beq_iff_eq] at c;rcases (zh8 a).1 ra with ⟨q,_⟩|⟨_,q⟩|⟨q,_⟩
     ·omega
     ·rw [zd8] at h;rcases h.2 with m|⟨m,_⟩|⟨_,_,s,u,v⟩
      ·omega
      ·omega
      ·obtain ⟨d,f⟩:=jh4 (t:=b.In) ⟨u,v⟩ q;rw [zd8,zh8];exact ⟨.inr (.inl ⟨.inr rfl,f⟩),.inr (.inr ⟨by show (2:Int)≠0;decide,by show (2:Int)≠4;decide,by rw [s];exact c.2,d.1,d.2⟩)⟩
     ·omega
    ·rfl
def KH (k:Known) (v:X.Val) (len:Int):Prop:=zb6 (tk k) v.kind v.n len=true
structure HoldsP (p:Pl) (s:Z.MS) (len:Int):Prop where
 live:p.Live=true
 least:0<=p.Least/\p.Least<=len
 regs: ∀k,k<11->KH (p.Regs.getD k j7) (s.R.getD k X.zf1) len
 bytes: ∀k,k<512->p.Bytes.getD k false=true->s.S.getD k false=true
def NOk (a:List Pl):Prop:= ∀k,(a.getD k j8).Live=true->0<=(a.getD k j8).Least
def qc7 {a b} (c:a.length=512) (d:b.length=512) {k} (h:(qa1 a b).getD k false=true):a.getD k false=true/\b.getD k false=true:=by
 unfold qa1 at h;rw [if_pos ⟨c,d⟩,Y2,yn3] at h;split at h
 ·rw [V3,X3] at h;exact h
 ·rw [List.getElem?_replicate] at h;split at h<;>simp at h
def qx3 {q p} (b:q.length=11) {k} (a:k<11):(jr q p 11).getD k j7=km3 (q.getD k j7) (p.getD k j7):=by
 rw [Y2,gw6,if_pos ⟨a,by omega⟩];rfl
def gf6 {ps} (d:AllOk ps) (e:NOk ps) {k} (b:k<ps.length) {p} (f:PlOk p) {s len} (g:0<=len/\len<=65535) (h:HoldsP p s len):HoldsP ((zm7 ps k p).getD k j8) s len:=by
 unfold zm7;split
 ·rename_i c;have q:=d k c;rw [ze3,if_pos ⟨rfl,b⟩];refine ⟨rfl,?_,fun j a=>?_,fun j a i=>h.bytes j a (qc7 q.bytes f.bytes i).2⟩
  ·have l:=e k c;have m:=h.least;show 0<=zo3 _ _/\zo3 _ _<=len;unfold zo3;split<;>omega
  ·show KH ((jr _ _ 11).getD j j7) _ _;rw [qx3 q.regs a];exact ui0 g (h.regs j a)
 ·rw [ze3,if_pos ⟨rfl,b⟩];exact h
def gf7 {ps} (d:AllOk ps) {k j p} (e:PlOk p) (f:0<=p.Least) {s len} (g:0<=len/\len<=65535) (h:HoldsP (ps.getD j j8) s len):HoldsP ((zm7 ps k p).getD j j8) s len:=by
 unfold zm7;split
 ·rename_i b;have q:=d k b;rw [ze3];split
  ·rename_i c;obtain ⟨rfl,_⟩:=c;refine ⟨rfl,?_,fun i a=>?_,fun i a l=>h.bytes i a (qc7 q.bytes e.bytes l).1⟩
   ·have m:=h.least;show 0<=zo3 _ _/\zo3 _ _<=len;unfold zo3;split<;>omega
   ·show KH ((jr _ _ 11).getD i j7) _ _;rw [qx3 q.regs a];exact uh9 g (h.regs i a)
  ·exact h
 ·rename_i b;rw [ze3];split
  ·rename_i c;obtain ⟨rfl,_⟩:=c;exact absurd h.live b
  ·exact h
def gv2 {ps} (c:NOk ps) (k) {p} (e:0<=p.Least):NOk (zm7 ps k p):=by
 intro j a;unfold zm7 at a⊢;split at a
 ·rename_i b;rw [if_pos b];rw [ze3] at a⊢;split
  ·have:=c k b;show 0<=zo3 _ _;unfold zo3;split<;>omega
  ·rename_i d;rw [if_neg d] at a;exact c j a
 ·rename_i b;rw [if_neg b];rw [ze3] at a⊢;split
  ·exact e
  ·rename_i d;rw [if_neg d] at a;exact c j a
end Go.Y
namespace Go.Y
open Go.RowKit Go.V Go.X Go.Proofs
def vm8 {k v len} (h:KH k v len):za5 (tk k)=true/\(k.Kind=0\/(k.Kind=4/\v.kind=1/\0<=len/\v.n=IntKind.u64.wrap len)\/(k.Kind≠0/\k.Kind≠4/\v.kind=k.Kind/\k.In_Lo<=v.n/\v.n<=k.In_Hi)):=(zd8 _ _ _ _).1 h
def qx4 {k v len} (h:KH k v len) (a:k.Kind=3):v.kind=3/\v.n=k.In_Lo:=by
 obtain ⟨r,q⟩:=vm8 h;have b:k.In_Lo=k.In_Hi:=by
  rcases (zh8 (tk k)).1 r with ⟨q,_⟩|⟨q,_⟩|⟨_,q⟩
  ·have:k.Kind=4\/k.Kind=0:=q;omega
  ·have:k.Kind=1\/k.Kind=2:=q;omega
  ·exact q
 rcases q with q|⟨q,_⟩|⟨_,_,q,c,d⟩
 ·omega
 ·omega
 ·omega
def kc3 {k v len} (h:KH k v len) (a:k.Kind=2):v.kind=2/\k.In_Lo<=v.n/\v.n<=k.In_Hi:=by
 rcases (vm8 h).2 with q|⟨q,_⟩|⟨_,_,q,b,c⟩<;>omega
def yq1 {a len k v b} (j:0<=a/\a<=len) (l:len<=65535) (h:KH k v len) (e:yl8 a k=.inl b):v.kind=1/\Hs b v.n/\b.Lo<=b.Hi/\(k.Kind=1\/k.Kind=4/\v.n=len):=by
 obtain ⟨r,q⟩:=vm8 h;unfold yl8 at e;split at e
 ·cases e
 ·split at e
  ·rename_i f;cases e;have g:k.In_Lo<=k.In_Hi:=by
    rcases (zh8 (tk k)).1 r with ⟨q,_⟩|⟨_,q⟩|⟨q,_⟩
    ·have:k.Kind=4\/k.Kind=0:=q;omega
    ·exact q
    ·have:k.Kind=3:=q;omega
   rcases q with q|⟨q,_⟩|⟨_,_,q,d,c⟩
   ·omega
   ·omega
   ·exact ⟨by omega,⟨d,c⟩,g,.inl f⟩
  ·split at e
   ·rename_i i;cases e;rcases q with q|⟨_,d,_,c⟩|⟨_,q,_⟩
    ·omega
    ·rw [zf4 (by omega)] at c;rw [zf4 (by omega)];exact ⟨d,⟨by show a<=v.n;omega,by show v.n<=65535;omega⟩,by show a<=65535;omega,.inr ⟨i,c⟩⟩
    ·omega
   ·cases e
def jf0 {w:Pl} {s:Z.MS} {len} (h: ∀k,k<11->KH (w.Regs.getD k j7) (s.R.getD k X.zf1) len) {i:Ins} (b:i.UseImm=true\/0<=i.Src/\i.Src<=10):KH (yl9 w.Regs i) (Z.secV i s.R) len:=by
 unfold yl9 Z.secV;by_cases a:i.UseImm=true
 ·rw [if_pos a,if_pos a];exact zy4 (s:=⟨IntKind.u64.wrap i.Imm,IntKind.u64.wrap i.Imm⟩) ⟨U0 _,U0 _⟩ (U0 _)
 ·rw [if_neg a,if_neg a];have:=b.resolve_left a;exact h _ (by omega)
def kb7 (R:List X.Val) (k j:Nat) (x:X.Val):(R.set k x).getD j X.zf1=if k=j/\j<R.length then x else R.getD j X.zf1:=by
 rw [Y2,Y2,List.getElem?_set];by_cases h:k=j
 ·subst h;by_cases a:k<R.length
  ·rw [if_pos rfl,if_pos a,if_pos ⟨rfl,a⟩];rfl
  ·rw [if_pos rfl,if_neg a,if_neg (fun h=>a h.2),Y5 (by omega)]
 ·rw [if_neg h,if_neg (fun b=>h b.1)]
def vc2 {b:List Known} {R:List X.Val} {len} (c:b.length=11) (e:R.length=11) (h: ∀k,k<11->KH (b.getD k j7) (R.getD k X.zf1) len) (d:Nat) {x v} (f:KH x v len): ∀k,k<11->KH ((b.set d x).getD k j7) ((R.set d v).getD k X.zf1) len:=by
 intro k g;rw [yp3,kb7,c,e];by_cases a:d=k/\k<11
 ·rw [if_pos a,if_pos a];exact f
 ·rw [if_neg a,if_neg a];exact h k g
def vs4 {S}: ∀(m p),(∀j,j<m->S.getD (p+j) false=true)->Z.allS S p m=true
 |0,_,_=>rfl
 |m+1,p,h=>by
  rw [Z.allS,show S.getD p false=true from h 0 (by omega),N8];exact vs4 m (p+1) fun j a=>by have:=h (j+1) (by omega);rw [show p+1+j=p+(j+1) by omega];exact this
def kt7 {b p m} (h:qj0 b p m 0=true): ∀j,j<m->b.getD (p+j) false=true:=by
 intro j a;unfold qj0 at h;rw [Y8] at h;exact h j (by rw [List.mem_range'_1];omega)
def qc0 (b p): ∀(m j),(yy9 b p m).getD j false=true->b.getD j false=true\/p<=j/\j<p+m
 |0,j,h=>.inl h
 |m+1,j,h=>by
  rw [yy9] at h;rw [Y2,List.getElem?_set] at h;split at h
  ·rename_i a;exact .inr ⟨by omega,by omega⟩
  ·rw [<-List.getD_eq_getElem?_getD] at h;rcases qc0 b p m j h with q|q
   ·exact .inl q
   ·exact .inr ⟨q.1,by omega⟩
def vc8: ∀(m p j S),j<S.length->(S.getD j false=true\/p<=j/\j<p+m)->(Z.setS S p m).getD j false=true
 |0,p,j,S,_,h=>by
  rcases h with h|h
  ·exact h
  ·omega
 |m+1,p,j,S,b,h=>by
  rw [Z.setS];refine vc8 m (p+1) j _ (by rw [Q3];exact b) ?_;by_cases a:p=j
  ·left;rw [Y2,List.getElem?_set,if_pos a,if_pos (by omega)];rfl
  ·rcases h with h|h
   ·left;rw [Y2,List.getElem?_set,if_neg a,<-List.getD_eq_getElem?_getD];exact h
   ·right;omega
def wq0 {k i n} (a:n=k.In_Lo) (b: -512<=zp0 k i) (c:zp0 k i<= -i.Size) (d:1<=i.Size):Z.frP n i=(zp0 k i+512,0):=by
 subst a;unfold Z.frP;dsimp only;rw [show IntKind.i64.wrap (IntKind.u64.wrap (k.In_Lo+IntKind.u64.wrap i.Off))=zp0 k i from rfl,za1 (by omega),if_neg (by omega)]
def ql9 {s} (h:zd0 s=true):s=1\/s=2\/s=4\/s=8:=by
 unfold zd0 at h;simp only [V5,beq_iff_eq] at h;exact h
def wh4 {z v len} (a:zd0 z=true) (b:0<=v/\v<256^z.toNat):KH (yp8 z) ⟨1,v⟩ len:=by
 have:(yp8 z).In_Hi=256^z.toNat-1:=by rcases ql9 a with rfl|rfl|rfl|rfl<;>decide
 refine zy4 (s:=⟨0,(yp8 z).In_Hi⟩) ⟨b.1,?_⟩ ?_
 ·show v<=(yp8 z).In_Hi;omega
 ·show 0<=(yp8 z).In_Hi;omega
def vh8 {w} (o:PlOk w) {s} (r:Z.MOk s) {P} (E:Z.ByteL P) (t:P.length<=65535) (h:HoldsP w s P.length) {i} (y:0<=i.Src/\i.Src<=10) (g:zd0 i.Size=true) (z: -32768<=i.Off/\i.Off<=32767) {a A} (e:yv2 w i a=.inl A):
  (Z.ldP i P s).1=0/\ ∃p,(a+1,p)∈A/\HoldsP p (Z.ldP i P s).2 P.length:=by
 have F:=ql9 g;unfold yv2 at e;split at e
 case isFalse=>cases e
 rename_i b;cases e;have f:=h.regs i.Src.toNat (by omega);have B:=o.u i.Src.toNat;have c: ∀v:Int,0<=v/\v<256^i.Size.toNat->HoldsP ⟨w.Live,w.Regs.set i.Dst.toNat (yp8 i.Size),w.Bytes,w.Least⟩ {s with R:=s.R.set i.Dst.toNat ⟨1,v⟩} P.length:=fun v G=>
  ⟨h.live,h.least,vc2 o.regs r.rl h.regs _ (wh4 g G),h.bytes⟩
 unfold km8 at b;dsimp only at b;unfold Z.ldP Z.ask1;rw [show Z.rg s.R i.Src=s.R.getD i.Src.toNat X.zf1 from rfl];generalize w.Regs.getD i.Src.toNat j7=k at f B b;generalize s.R.getD i.Src.toNat X.zf1=v at f⊢;split at b
 ·rename_i H;obtain ⟨C,D⟩:=qx4 f H;unfold vk1 at b;split at b
  case isFalse=>rename_i I;exact absurd b I
  rename_i J;split at b
  case isFalse=>exact absurd b (by decide)
  rename_i K;obtain ⟨_,_,L,M⟩:=ja1 J;have l:=wq0 (i:=i) D L M (by omega);have d:Z.allS s.S (zp0 k i+512).toNat i.Size.toNat=true:=vs4 _ _ fun j N=>h.bytes _ (by omega) (kt7 K j N);rw [if_neg (by rw [if_neg (by omega)];decide),if_neg (by omega),if_neg (by omega),l,if_neg (fun q=>q rfl),if_neg (by rw [d];decide)];refine ⟨rfl,_,Q6.2 rfl,c _ (Z.beF_rng r.bb _ _)⟩
 ·split at b
  ·rename_i O;obtain ⟨C,D,q3⟩:=kc3 f O;split at b
   ·exact absurd b (by decide)
   ·split at b
    ·exact absurd b (by decide)
    ·split at b
     ·exact absurd b (by decide)
     ·rename_i c1 Q T;have hb:=B.1;rw [za1 (x:=k.In_Lo) (by omega),za1 (x:=k.In_Lo+i.Off) (by omega)] at Q;rw [za1 (x:=k.In_Hi) (by omega),za1 (x:=k.In_Hi+i.Off) (by omega),za1 (x:=k.In_Hi+i.Off+i.Size) (by omega)] at T;have U:=h.least;have V:IntKind.i64.wrap (IntKind.u64.wrap (v.n+IntKind.u64.wrap i.Off))=v.n+i.Off:=by
       rw [v7,v7,yv9];omega
      have W:Z.getP P (v.n+i.Off) i.Size=(Z.beF P (v.n+i.Off).toNat i.Size.toNat,0):=by
       have m:Z.placeP P.length (v.n+i.Off) i.Size=0:=by
        unfold Z.placeP;rw [if_pos g,if_neg (by omega)]
       unfold Z.getP;rw [if_pos m]
      rw [if_neg (by rw [if_neg (by omega)];decide),if_neg (by omega),if_pos C,V,W,if_neg (fun q=>q rfl)];exact ⟨rfl,_,Q6.2 rfl,c _ (Z.beF_rng E _ _)⟩
  ·split at b
   ·exact absurd b (by decide)
   ·rename_i Y;exact absurd b (jk7 Y)
def kf1 {w} (J:PlOk w) {s} (A:Z.MOk s) {len} (e:0<=len/\len<=65535) (h:HoldsP w s len) {i} (K:0<=i.Dst/\i.Dst<=10) (f:i.UseImm=true\/0<=i.Src/\i.Src<=10) (B:zd0 i.Size=true) {a x} (d:qk9 w i a=.inl x):
  (Z.ptP i s).1=0/\ ∃p,(a+1,p)∈x/\HoldsP p (Z.ptP i s).2 len:=by
 have C:=ql9 B;have n:=h.regs i.Dst.toNat (by omega);have o:=jf0 h.regs f;unfold qk9 at d;dsimp only at d;unfold Z.ptP Z.bothE;have L:Z.secE i s.R=if i.UseImm=true then 0 else Z.ask1 s.R i.Src:=rfl
 have D:Z.secE i s.R=if (Z.secV i s.R).kind=0 then 110 else 0:=by
  unfold Z.secE Z.secV Z.ask1;by_cases m:i.UseImm=true
  ·rw [if_pos m,if_pos m,if_neg (by show ¬(1:Int)=0;decide)]
  ·rw [if_neg m,if_neg m]
 rw [D];unfold Z.ask1;rw [show Z.rg s.R i.Dst=s.R.getD i.Dst.toNat X.zf1 from rfl];generalize w.Regs.getD i.Dst.toNat j7=k at n d;generalize s.R.getD i.Dst.toNat X.zf1=v at n⊢;generalize yl9 w.Regs i=b at o d;generalize Z.secV i s.R=u at o⊢;split at d
 ·cases d
 ·split at d
  ·cases d
  ·split at d
   ·cases d
   ·rename_i M N y;have y:k.Kind=3:=by omega
    split at d
    ·cases d
    ·rename_i O E;split at d
     ·rename_i r;cases d;obtain ⟨P,F⟩:=qx4 n y;obtain ⟨Q,_⟩:=yq1 h.least e.2 o E;have g:zg7 w.Bytes (zp0 k i) i.Size=0:=by
       unfold yv6 at r;split at r
       ·assumption
       ·rename_i G;exact absurd r G
      obtain ⟨_,_,H,I⟩:=ja1 g;have t:=wq0 (i:=i) F H I (by omega);rw [if_neg (c:=v.kind=0) (by omega),if_neg (c:=u.kind=0) (by omega),if_neg (c:= ¬(0:Int)=0) (fun h=>h rfl),if_neg (by decide),if_neg (by omega),if_neg (by omega),t,if_neg (fun q=>q rfl)];refine ⟨rfl,_,Q6.2 rfl,h.live,h.least,h.regs,fun j z l=>?_⟩;show (Z.setS s.S (zp0 k i+512).toNat i.Size.toNat).getD j false=true;refine vc8 _ _ _ _ (by rw [A.sl];exact z) ?_;have l:(yv6 w.Bytes (zp0 k i) i.Size).1.getD j false=true:=l;unfold yv6 at l;rw [if_pos g] at l;rcases qc0 _ _ _ _ l with q|q
      ·exact .inl (h.bytes j z q)
      ·exact .inr q
     ·cases d
end Go.Y
namespace Go.Y
open Go.RowKit Go.V Go.X Go.Proofs
def vy5 (i R):Z.secE i R=if (Z.secV i R).kind=0 then 110 else 0:=by
 unfold Z.secE Z.secV Z.ask1;by_cases a:i.UseImm=true
 ·rw [if_pos a,if_pos a,if_neg (by show ¬(1:Int)=0;decide)]
 ·rw [if_neg a,if_neg a]
def yr6 {x y:Int} (h:x≠y):(x==y)=false:=beq_eq_false_iff_ne.2 h
def qi5 {w} (G:PlOk w) {s} (H:Z.MOk s) {P len} (B:0<=len/\len<=65535) (h:HoldsP w s len) {i} (hop:1<=i.Op/\i.Op<=13) (hd:0<=i.Dst/\i.Dst<=10) (C:i.UseImm=true\/0<=i.Src/\i.Src<=10) {a T} (j:zr2 w i a=.inl T):
  (Z.stP1 i P s).1=0/\ ∃p,(a+1,p)∈T/\HoldsP p (Z.stP1 i P s).2 len:=by
 have I:=h.regs i.Dst.toNat (by omega);have U:=G.u i.Dst.toNat;have sh:=jf0 h.regs C;have su:=qa9 G.u i;have t:q8 (s.R.getD i.Dst.toNat X.zf1).n:=H.rg i.Dst;have A:q8 (Z.secV i s.R).n:=H.secV i;have J: ∀(x:Known) (v:X.Val),KH x v len->HoldsP ⟨w.Live,w.Regs.set i.Dst.toNat x,w.Bytes,w.Least⟩ {s with R:=s.R.set i.Dst.toNat v} len:=fun x v hx=>
  ⟨h.live,h.least,vc2 G.regs H.rl h.regs _ hx,h.bytes⟩
 unfold zr2 at j;dsimp only at j;have K:KH (if i.Op=13 then ⟨0,0,0⟩ else yl9 w.Regs i) (Z.secV i s.R) len:=by
  split
  ·exact vg9 _ _ _
  ·exact sh
 have V:UOk (if i.Op=13 then ⟨0,0,0⟩ else yl9 w.Regs i):=by
  split
  ·exact ⟨by show q8 (0:Int);decide,by show q8 (0:Int);decide⟩
  ·exact su
 generalize (if i.Op=13 then (⟨0,0,0⟩:Known) else yl9 w.Regs i)=b at j K V;have L:=vy5 i s.R;unfold Z.stP1 Z.mvP Z.ngP Z.rkP Z.bothE Z.ask1;rw [L,show Z.rg s.R i.Dst=s.R.getD i.Dst.toNat X.zf1 from rfl];generalize w.Regs.getD i.Dst.toNat j7=k at I U j;generalize s.R.getD i.Dst.toNat X.zf1=v at I t⊢;generalize Z.secV i s.R=u at K A⊢;have y:=wh1 (op:=i.Op) (nw:=i.Narrow) (a:=tk k) (b:=tk b) U V t A B I K;have M:doK i.Op i.Narrow k b=(ofT (zp8 i.Op i.Narrow (tk k) (tk b)).1,(zp8 i.Op i.Narrow (tk k) (tk b)).2):=rfl;rw [M] at j;dsimp only at j;generalize zp8 i.Op i.Narrow (tk k) (tk b)=r at y j;by_cases N:r.2=0
 case neg=>rw [if_neg N] at j;cases j
 rw [if_pos N] at j;cases j;rcases y with ⟨q,_⟩|⟨_,g,t3⟩
 ·exact absurd N q
 have d: ∀(O n:Int),O=(zj8 i.Op i.Narrow v.kind v.n u.kind u.n).1->n=(zj8 i.Op i.Narrow v.kind v.n u.kind u.n).2.1->HoldsP ⟨w.Live,w.Regs.set i.Dst.toNat (ofT r.1),w.Bytes,w.Least⟩ {s with R:=s.R.set i.Dst.toNat ⟨O,n⟩} len:=by
  rintro O n rfl rfl
  exact J _ _ t3
 by_cases o:i.Op=12
 ·rw [if_pos o];unfold zj8 zj9 zk0 za6 at g d;simp only [o] at g d;cases hn:i.Narrow with
  |false=>
   rw [hn] at g d;have Q:u.kind≠0:=by simpa using g
   rw [if_neg (c:=u.kind=0) Q,if_neg (fun q=>q rfl),if_neg (by simp)];exact ⟨rfl,_,Q6.2 rfl,d _ _ (by simp) (by simp)⟩
  |true=>
   rw [hn] at g d;have e:u.kind=1:=by
    by_cases q:u.kind=1
    ·exact q
    ·simp [q] at g
   have l:IntKind.u64.wrap (IntKind.u32.wrap u.n)=(za4 12 true v.n u.n).1:=by
    rw [zm1 (by decide) t A];show _=yc5 true u.n;unfold yc5;rw [if_pos rfl,zc7,zf4 (by omega)]
   rw [if_neg (c:=u.kind=0) (by omega),if_neg (fun q=>q rfl),if_neg (fun q=>q.2 e)];exact ⟨rfl,_,Q6.2 rfl,d _ _ (by simp [e]) (by rw [if_pos rfl,l];simp [e])⟩
 rw [if_neg o];by_cases m:i.Op=13
 ·rw [if_pos m];unfold zj8 zj9 zk0 za6 at g d;simp only [m] at g d;have f:v.kind=1:=by
   by_cases q:v.kind=1
   ·exact q
   ·simp [q] at g
  have D:(za4 13 i.Narrow v.n u.n).2=0:=by simpa [f] using g
  have l:Z.aluP i.Op i.Narrow v.n 0=za4 13 i.Narrow v.n u.n:=by
   rw [m,qj2 (by decide) _ t (by decide),qk1 t (by decide),qk1 t A]
  rw [if_neg (c:=v.kind=0) (by omega),if_neg (fun q=>q rfl),if_neg (fun q=>q f),l];exact ⟨D,_,Q6.2 rfl,d _ _ (by simp [f]) (by simp [f])⟩
 rw [if_neg m,if_neg (by omega),if_neg (by omega),if_neg (by omega),if_neg (by omega),if_pos (by omega)];unfold zj8 zj9 zk0 za6 at g d;simp only [yr6 o,yr6 m,T8,U1,if_false] at g d;have e:u.kind=1:=by
  by_cases q:u.kind=1
  ·exact q
  ·simp [q] at g
 by_cases f:v.kind=1
 ·have D:(za4 i.Op i.Narrow v.n u.n).2=0:=by simpa [e,f] using g
  rw [if_neg (c:=v.kind=0) (by omega),if_neg (c:= ¬(0:Int)=0) (fun q=>q rfl),if_neg (c:=u.kind=0) (by omega),if_neg (c:= ¬(0:Int)=0) (fun q=>q rfl),if_neg (by omega),qj2 (by omega) _ t A,if_pos D];exact ⟨rfl,_,Q6.2 rfl,d _ _ (by simp [e,f]) (by simp [e,f])⟩
 ·have S:v.kind≠0/\i.Narrow=false/\(i.Op=1\/i.Op=2):=by
   refine ⟨fun q=>?_,?_,?_⟩
   ·simp [e,q] at g
   ·cases q:i.Narrow with
    |false=>rfl
    |true=>simp [e,yr6 f,q] at g
   ·by_cases q:i.Op=1\/i.Op=2
    ·exact q
    ·have q1:i.Op≠1:=fun z=>q (.inl z);have q2:i.Op≠2:=fun z=>q (.inr z);simp [e,yr6 f,q1,q2] at g
  obtain ⟨W,E,Y⟩:=S;have hc:(((v.kind==0)||i.Narrow)||((i.Op != 1)&&(i.Op != 2)))=false:=by
   rw [yr6 W,E];rcases Y with q|q<;>rw [q]<;>rfl
  have D:(za4 i.Op false v.n u.n).2=0:=by simpa [e,yr6 f,hc] using g
  rw [if_neg (c:=v.kind=0) W,if_neg (c:= ¬(0:Int)=0) (fun q=>q rfl),if_neg (c:=u.kind=0) (by omega),if_neg (c:= ¬(0:Int)=0) (fun q=>q rfl),if_neg (fun q=>q.elim (fun z=>z e) (fun z=>z.2 ⟨Y,E⟩)),qj2 (by omega) _ t A,E,if_pos D];rw [E] at d;rw [E] at hc;have F: ¬(v.kind=0\/ ¬i.Op=1/\ ¬i.Op=2):=by omega
  exact ⟨rfl,_,Q6.2 rfl,d _ _ (by simp [e,yr6 f,F]) (by simp [e,yr6 f,F])⟩
end Go.Y
namespace Go.Y
open Go.RowKit Go.V Go.X Go.Proofs
def qm2 {p} (j:p.Regs.length=11) {s len} (e:len<=65535) (h:HoldsP p s len) {r} (l:0<=r/\r<=10) {x} (g:(s.R.getD r.toNat X.zf1).kind=1) (f:Hs x (s.R.getD r.toNat X.zf1).n) (m:0<=x.Lo) (c:x.Lo<=x.Hi)
  (a:(p.Regs.getD r.toNat j7).Kind=1\/(p.Regs.getD r.toNat j7).Kind=4/\(s.R.getD r.toNat X.zf1).n=len):HoldsP (zl3 p r x) s len:=by
 unfold zl3;by_cases b:(p.Regs.getD r.toNat j7).Kind=1
 ·rw [if_pos b];refine ⟨h.live,h.least,fun k d=>?_,h.bytes⟩;show KH ((p.Regs.set r.toNat ⟨(p.Regs.getD r.toNat j7).Kind,x.Lo,x.Hi⟩).getD k j7) _ _;rw [yp3];split
  ·rename_i i;obtain ⟨rfl,_⟩:=i;rw [b];unfold KH;rw [g];exact zy4 f c
  ·exact h.regs k d
 ·rw [if_neg b];have o:=a.resolve_left b;obtain ⟨q,t⟩:=f;have u:=h.least;refine ⟨h.live,?_,h.regs,h.bytes⟩;show 0<=zi1 p.Least (IntKind.i64.wrap x.Lo)/\zi1 p.Least (IntKind.i64.wrap x.Lo)<=len;rw [za1 (by omega)];unfold zi1;split<;>omega
def qu9 {p:Pl} {r q:Int} {x} (h:r.toNat≠q.toNat):(zl3 p r x).Regs.getD q.toNat j7=p.Regs.getD q.toNat j7:=by
 unfold zl3;split
 ·show (p.Regs.set r.toNat _).getD q.toNat j7=_;rw [yp3,if_neg (fun z=>h z.1)]
 ·rfl
def qh7 {w} (j:PlOk w) {s} (E:Z.MOk s) {len} (b:0<=len/\len<=65535) (h:HoldsP w s len) {i} (k:17<=i.Op/\i.Op<=27) (F:0<=i.Dst/\i.Dst<=10) (d:i.UseImm=true\/0<=i.Src/\i.Src<=10) {a G} (f:zr0 w i a=.inl G):
  Z.brE i s.R=0/\ ∃p,(a+1+(if Z.brJ i s.R=true then i.Off else 0),p)∈G/\HoldsP p s len:=by
 have P:=h.regs i.Dst.toNat (by omega);have Q:=jf0 h.regs d;have S:q8 (s.R.getD i.Dst.toNat X.zf1).n:=E.rg i.Dst;have T:q8 (Z.secV i s.R).n:=E.secV i;have U:=j.u i.Dst.toNat;have V:=qa9 j.u i;unfold zr0 at f;dsimp only at f;split at f
 ·cases f
 split at f
 ·cases f
 rename_i m H;split at f
 ·cases f
 rename_i n I;cases f;obtain ⟨J,W,Y,K⟩:=yq1 h.least b.2 P H;obtain ⟨L,un,ln,x⟩:=yq1 h.least b.2 Q I;have y:=jk8 U H;have z:=jk8 V I;have M:Z.brE i s.R=0:=by
  unfold Z.brE Z.bothE;rw [vy5];unfold Z.ask1;rw [show Z.rg s.R i.Dst=s.R.getD i.Dst.toNat X.zf1 from rfl];rw [if_neg (c:=(s.R.getD i.Dst.toNat X.zf1).kind=0) (by omega),if_neg (c:= ¬(0:Int)=0) (fun q=>q rfl),if_neg (c:=(Z.secV i s.R).kind=0) (by omega),if_neg (c:= ¬(0:Int)=0) (fun q=>q rfl),if_neg (by omega)]
 refine ⟨M,?_⟩;have ej:Z.brJ i s.R=isE i.Narrow i.Op (yc5 i.Narrow (s.R.getD i.Dst.toNat X.zf1).n) (yc5 i.Narrow (Z.secV i s.R).n):=by
  unfold Z.brJ;rw [M,W6 rfl,N8];exact uh8 k _ S T
 obtain ⟨g,o,A,t,v,B,C⟩:=uf6 k (nw:=i.Narrow) y z Y ln W un ej.symm;rw [kk5 _ _ _ _ _ y z] at g o A t v B C;have e:HoldsP (vf8 w i (ifE i.Op i.Narrow (Z.brJ i s.R) m n).1 (ifE i.Op i.Narrow (Z.brJ i s.R) m n).2.1) s len:=by
  generalize ifE i.Op i.Narrow (Z.brJ i s.R) m n=r at g o A t v B C;have N:0<=r.1.Lo:=by have:=B.1;have:=y.1;omega
  have y0:0<=r.2.1.Lo:=by have:=C.1;have:=z.1;omega
  unfold vf8;by_cases l:i.UseImm=true
  ·rw [if_pos l];exact qm2 j.regs b.2 h F J t N o K
  ·rw [if_neg l];have d:=d.resolve_left l;by_cases O:i.Src=i.Dst
   ·rw [if_pos O];exact h
   ·rw [if_neg O];have D:i.Dst.toNat≠i.Src.toNat:=by omega
    have e1:Z.secV i s.R=s.R.getD i.Src.toNat X.zf1:=by unfold Z.secV;rw [if_neg l]
    have e2:yl9 w.Regs i=w.Regs.getD i.Src.toNat j7:=by unfold yl9;rw [if_neg l]
    rw [e1] at L x v;rw [e2] at x;have hA:=qm2 j.regs b.2 h F J t N o K;refine qm2 ((ze5 ..).1.trans j.regs) b.2 hA d L v y0 A ?_;rw [qu9 D];exact x
 cases hj:Z.brJ i s.R with
 |true=>
  rw [hj] at g e;rw [if_pos rfl];refine ⟨_,X4.2 (.inr ?_),e⟩;unfold jm9;rw [if_pos g];exact Q6.2 rfl
 |false=>
  rw [hj] at g e;rw [if_neg (by decide),Int.add_zero];refine ⟨_,X4.2 (.inl ?_),e⟩;unfold jm9;rw [if_pos g];exact Q6.2 rfl
def ze2 {l k i} (f:InsOk l k i) (t:zg2 i=true) {w} (v:PlOk w) {s} (x:Z.MOk s) {P} (E:Z.ByteL P) (u:P.length<=65535) (h:HoldsP w s P.length) {a D} (d:yw7 w i a=.inl D):
  (Z.stP1 i P s).1=0/\(i.Op≠28-> ∃p,(a+1+Z.jmpP i s.R,p)∈D/\HoldsP p (Z.stP1 i P s).2 P.length):=by
 have y:(0:Int)<=P.length/\(P.length:Int)<=65535:=by omega
 have j:=zy7 i t;have F:=f.op;unfold yw7 at d;split at d
 ·rename_i e;have b:Z.stP1 i P s=Z.ldP i P s:=by unfold Z.stP1;rw [if_neg (by omega),if_neg (by omega),if_pos e]
  have g:Z.jmpP i s.R=0:=by unfold Z.jmpP;rw [if_neg (by omega),if_neg (by omega)]
  rw [b,g,Int.add_zero];obtain ⟨n,o⟩:=vh8 v x E u h (f.src e).1 (f.src e).2 ⟨j.1,j.2.1⟩ d;exact ⟨n,fun _=>o⟩
 ·rename_i r;split at d
  ·rename_i e;have b:Z.stP1 i P s=Z.ptP i s:=by unfold Z.stP1;rw [if_neg (by omega),if_neg (by omega),if_neg (by omega),if_pos e]
   have g:Z.jmpP i s.R=0:=by unfold Z.jmpP;rw [if_neg (by omega),if_neg (by omega)]
   rw [b,g,Int.add_zero];have G:zd0 i.Size=true:=by
    unfold zg2 at t;rw [if_neg (by omega),if_neg (by omega),if_neg (by omega),if_pos e] at t;simp only [X3] at t;exact t.2.2.1
   obtain ⟨n,o⟩:=kf1 v x y h f.dst (f.sec r) G d;exact ⟨n,fun _=>o⟩
  ·split at d
   ·rename_i e;cases d;have b:Z.stP1 i P s=(0,s):=by unfold Z.stP1;rw [if_neg (by omega),if_neg (by omega),if_neg (by omega),if_neg (by omega),if_pos e]
    have g:Z.jmpP i s.R=i.Off:=by unfold Z.jmpP;rw [if_pos e]
    rw [b,g];exact ⟨rfl,fun _=>⟨w,Q6.2 rfl,h⟩⟩
   ·split at d
    ·rename_i e;have b:Z.stP1 i P s=(Z.exE s.R,s):=by unfold Z.stP1;rw [if_neg (by omega),if_neg (by omega),if_neg (by omega),if_neg (by omega),if_neg (by omega),if_pos e]
     rw [b];refine ⟨?_,fun q=>absurd e q⟩;unfold ji8 at d;split at d
     ·rename_i J H;obtain ⟨q,_⟩:=yq1 h.least y.2 (h.regs 0 (by decide)) H;show Z.exE s.R=0;unfold Z.exE Z.ask1;rw [show Z.rg s.R 0=s.R.getD 0 X.zf1 from rfl,if_neg (c:=(s.R.getD 0 X.zf1).kind=0) (by omega),if_neg (c:= ¬(0:Int)=0) (fun q=>q rfl),if_neg (fun z=>z q)]
     ·cases d
    ·split at d
     ·rename_i A B C e;obtain ⟨n,o⟩:=qi5 (P:=P) v x y h ⟨by omega,e⟩ f.dst (f.sec r) d;have g:Z.jmpP i s.R=0:=by unfold Z.jmpP;rw [if_neg (by omega),if_neg (by omega)]
      rw [g,Int.add_zero];exact ⟨n,fun _=>o⟩
     ·rename_i A B C I;have m:17<=i.Op/\i.Op<=27:=by omega
      obtain ⟨n,o⟩:=qh7 v x y h m f.dst (f.sec r) d;have b:Z.stP1 i P s=(Z.brE i s.R,s):=by unfold Z.stP1;rw [if_neg (by omega),if_neg (by omega),if_neg (by omega),if_neg (by omega),if_neg (by omega),if_neg (by omega),if_neg (by omega)]
      have g:Z.jmpP i s.R=if Z.brJ i s.R=true then i.Off else 0:=by unfold Z.jmpP;rw [if_neg (by omega),if_pos m]
      rw [b,g];exact ⟨n,fun _=>o⟩
end Go.Y
namespace Go.Y
open Go.RowKit Go.V Go.X Go.Proofs
def TsN (a:List (Int×Pl)):Prop:= ∀x∈a,0<=x.2.Least
def kn3 {t p} (h:0<=p.Least):TsN [(t,p)]:=fun x a=>by rw [Q6] at a;subst a;exact h
def qm3 {p} (h:0<=p.Least) (r x):0<=(zl3 p r x).Least:=by
 unfold zl3;split
 ·exact h
 ·show 0<=zi1 _ _;unfold zi1;split<;>omega
def gh6 {w} (h:0<=w.Least) (i x y):0<=(vf8 w i x y).Least:=by
 unfold vf8;split
 ·exact qm3 h _ _
 ·split
  ·exact h
  ·exact qm3 (qm3 h _ _) _ _
def zam6 {w} (h:0<=w.Least) {i a c} (e:yw7 w i a=.inl c):TsN c:=by
 unfold yw7 at e;split at e
 ·unfold yv2 at e;split at e
  ·cases e;exact kn3 h
  ·cases e
 ·split at e
  ·unfold qk9 at e;dsimp only at e;split at e
   ·cases e
   ·split at e
    ·cases e
    ·split at e
     ·cases e
     ·split at e
      ·cases e
      ·split at e
       ·cases e;exact kn3 h
       ·cases e
  ·split at e
   ·cases e;exact kn3 h
   ·split at e
    ·unfold ji8 at e;split at e
     ·cases e;intro x b;cases b
     ·cases e
    ·split at e
     ·unfold zr2 at e;dsimp only at e;generalize doK i.Op i.Narrow (w.Regs.getD i.Dst.toNat j7) (if i.Op=13 then ⟨0,0,0⟩ else yl9 w.Regs i)=r at e;by_cases d:r.2=0
      ·rw [if_pos d] at e;cases e;exact kn3 h
      ·rw [if_neg d] at e;cases e
     ·unfold zr0 at e;dsimp only at e;split at e
      ·cases e
      ·split at e
       ·cases e
       ·split at e
        ·cases e
        ·cases e;intro x b;rw [X4] at b;unfold jm9 at b;rcases b with b|b
         ·split at b
          ·rw [Q6] at b;subst b;exact gh6 h _ _ _
          ·cases b
         ·split at b
          ·rw [Q6] at b;subst b;exact gh6 h _ _ _
          ·cases b
def vv4 {l k i} (c:InsOk l k i) {w f} (e:yw7 w i (k:Int)=.inl f): ∀x∈f,(k:Int)+1<=x.1/\x.1<(l.length:Int):=by
 have h:=c.op;have b: ∀p:Pl,i.Op≠28->i.Op≠16-> ∀x∈ [((k:Int)+1,p)],(k:Int)+1<=x.1/\x.1<(l.length:Int):=fun p j m x a=>by
  rw [Q6] at a;subst a;have:=c.next j m;exact ⟨U0 _,by show (k:Int)+1<l.length;omega⟩
 unfold yw7 at e;split at e
 ·unfold yv2 at e;split at e
  ·cases e;exact b _ (by omega) (by omega)
  ·cases e
 ·split at e
  ·unfold qk9 at e;dsimp only at e;split at e
   ·cases e
   ·split at e
    ·cases e
    ·split at e
     ·cases e
     ·split at e
      ·cases e
      ·split at e
       ·cases e;exact b _ (by omega) (by omega)
       ·cases e
  ·split at e
   ·rename_i d;cases e;intro x a;rw [Q6] at a;subst a;have:=c.far (.inl d);exact ⟨by show (k:Int)+1<=k+1+i.Off;omega,this.2⟩
   ·split at e
    ·unfold ji8 at e;split at e
     ·cases e;intro x a;cases a
     ·cases e
    ·split at e
     ·unfold zr2 at e;dsimp only at e;generalize doK i.Op i.Narrow (w.Regs.getD i.Dst.toNat j7) (if i.Op=13 then ⟨0,0,0⟩ else yl9 w.Regs i)=r at e;by_cases g:r.2=0
      ·rw [if_pos g] at e;cases e;exact b _ (by omega) (by omega)
      ·rw [if_neg g] at e;cases e
     ·unfold zr0 at e;dsimp only at e;split at e
      ·cases e
      ·split at e
       ·cases e
       ·split at e
        ·cases e
        ·cases e;intro x a;rw [X4] at a;unfold jm9 at a;have n:=c.far (.inr (by omega));have o:=c.next (by omega) (by omega);rcases a with a|a
         ·split at a
          ·rw [Q6] at a;subst a;exact ⟨U0 _,by show (k:Int)+1<l.length;omega⟩
          ·cases a
         ·split at a
          ·rw [Q6] at a;subst a;exact ⟨by show (k:Int)+1<=k+1+i.Off;omega,n.2⟩
          ·cases a
def qh3: ∀(a) {ps},NOk ps->TsN a->NOk (zd4 ps a)
 | [],_,h,_=>h
 |x::r,_,h,b=>qh3 r (gv2 h _ (b x (by simp))) fun y c=>b y (by simp [c])
def ym6 {s len} (d:0<=len/\len<=65535) (j): ∀(a) {ps},AllOk ps->jn4 a->TsN a->HoldsP (ps.getD j j8) s len->HoldsP ((zd4 ps a).getD j j8) s len
 | [],_,_,_,_,h=>h
 |x::r,_,e,b,f,h=>ym6 d j r (jv8 e _ (b x (by simp))) (fun y c=>b y (by simp [c])) (fun y c=>f y (by simp [c])) (gf7 e (b x (by simp)) (f x (by simp)) d h)
def jh8 {s len} (e:0<=len/\len<=65535) {t p} (k:HoldsP p s len): ∀(d) {ps},AllOk ps->NOk ps->jn4 d->TsN d->(t,p)∈d->t.toNat<ps.length->HoldsP ((zd4 ps d).getD t.toNat j8) s len
 | [],_,_,_,_,_,f,_=>by cases f
 |x::r,ps,m,n,g,o,f,q=>by
  have a:=jv8 m x.1.toNat (g x (by simp));have i:=gv2 n x.1.toNat (o x (by simp));have b:jn4 r:=fun y j=>g y (by simp [j]);have c:TsN r:=fun y j=>o y (by simp [j]);rcases Z0.1 f with h|h
  ·subst h;exact ym6 e _ r a b c (gf6 m n q (g _ (by simp)) e k)
  ·exact jh8 e k r a i b c h (by rw [jf5];exact q)
def js1 (j): ∀(a ps),(∀x∈a,x.1.toNat≠j)->(zd4 ps a).getD j j8=ps.getD j j8
 | [],_,_=>rfl
 |x::r,ps,h=>by
  rw [zd4,js1 j r _ fun y b=>h y (by simp [b])];have c:=h x (by simp);unfold zm7;split<;>rw [ze3,if_neg (fun q=>c q.1)]
section
variable {l:List Ins} (hok:Okay l)
include hok
theorem jv9: ∀(m k ps),k+m=l.length->ps.length=l.length->AllOk ps->NOk ps->(zq9 l m k ps).2.Err=0->
  (∀j,j<k->(zq9 l m k ps).1.getD j j8=ps.getD j j8)/\(∀(j:Nat) (s:Z.MS) (len:Int),0<=len/\len<=65535->HoldsP (ps.getD j j8) s len->HoldsP ((zq9 l m k ps).1.getD j j8) s len)/\
  (∀j,k<=j->j<l.length->((zq9 l m k ps).1.getD j j8).Live=true->PlOk ((zq9 l m k ps).1.getD j j8)/\ ∃b,yw7 ((zq9 l m k ps).1.getD j j8) (l.getD j v8) (j:Int)=.inl b/\ ∀t p (s:Z.MS) (len:Int),0<=len/\len<=65535->(t,p)∈b->HoldsP p s len->HoldsP ((zq9 l m k ps).1.getD t.toNat j8) s len)/\(zq9 l m k ps).1.length=l.length
 |0,k,ps,G,v,_,_,_=>⟨fun _ _=>rfl,fun _ _ _ _ h=>h,fun j D w=>by omega,v⟩
 |m+1,k,ps,G,v,n,y,c=>by
  obtain ⟨H,I⟩:=km2 hok (k:=k) (by omega);rw [zq9] at c⊢;by_cases o:(ps.getD k j8).Live=true
  ·rw [if_pos o] at c⊢;have E:=n k o;have A:=y k o;cases ho:yw7 (ps.getD k j8) (l.getD k v8) (k:Int) with
   |inr e=>rw [ho] at c;exact absurd c (uj1 ho)
   |inl b=>
    rw [ho] at c;dsimp only at c⊢;have f:=vn2 E I (k:Int) ho;have g:=zam6 A ho;have q:=vv4 H ho;obtain ⟨r,z,B,C⟩:=jv9 m (k+1) (zd4 ps b) (by omega) ((yc4 ..).trans v) (yj7 b n f) (qh3 b y g) c;have d: ∀j,j<=k->(zd4 ps b).getD j j8=ps.getD j j8:=fun j i=>js1 j b ps fun x J=>by have:=q x J;omega
    refine ⟨fun j i=>(r j (by omega)).trans (d j (by omega)),fun j s len a h=>z j s len a (ym6 a j b n f g h),fun j D w u=>?_,C⟩;by_cases i:j=k
    ·subst i;have K:=(r j (by omega)).trans (d j (W8 _));rw [K];refine ⟨E,b,ho,fun t p s len a F L=>z _ s len a (jh8 a L b n y f g F ?_)⟩;have:=q _ F;dsimp only at this;omega
    ·exact B j (by omega) w u
  ·rw [if_neg o] at c⊢;obtain ⟨r,z,B,C⟩:=jv9 m (k+1) ps (by omega) v n y c;refine ⟨fun j i=>r j (by omega),z,fun j D w u=>?_,C⟩;by_cases i:j=k
   ·subst i;rw [r j (by omega)] at u;exact absurd u o
   ·exact B j (by omega) w u
end
end Go.Y
namespace Go.Y
open Go.RowKit Go.V Go.X Go.Proofs
def uj6 (x m) (a:1<=m/\m<=4611686018427387904): ∃k:Nat,qfr v3 x m=some ((k:Nat):Int)/\(k:Int)<m:=by
 rw [zae3,W7 (by omega),z8,if_neg (by omega),j6];have b:=Int.tmod_lt_of_pos x (by omega:0<m);have c: -m<x.tmod m:=by
  have:=Int.tmod_lt_of_pos (-x) (by omega:0<m);rw [Int.neg_tmod] at this;omega
 by_cases h:x.tmod m<0
 ·rw [W6 h,if_pos rfl,za1 (by omega)];exact ⟨(x.tmod m+m).toNat,by congr 1;omega,by omega⟩
 ·rw [W7 h,if_neg (by decide)];exact ⟨(x.tmod m).toNat,by congr 1;omega,by omega⟩
def wn4 (P) (c:P.length<=65535):HoldsP startP (Z.ms0 P) P.length:=by
 refine ⟨rfl,⟨by decide,by show (0:Int)<=P.length;omega⟩,fun k b=>?_,fun k b a=>?_⟩
 ·have:k=0\/k=1\/k=2\/k=3\/k=4\/k=5\/k=6\/k=7\/k=8\/k=9\/k=10:=by omega
  rcases this with rfl|rfl|rfl|rfl|rfl|rfl|rfl|rfl|rfl|rfl|rfl
  ·rfl
  ·rfl
  ·show zb6 ⟨4,⟨0,0⟩⟩ 1 (P.length:Int) (P.length:Int)=true;rw [zd8];refine ⟨rfl,.inr (.inl ⟨rfl,rfl,by omega,?_⟩)⟩;rw [zf4 (by omega)]
  ·rfl
  ·rfl
  ·rfl
  ·rfl
  ·rfl
  ·rfl
  ·rfl
  ·rfl
 ·have a:(List.replicate 512 false).getD k false=true:=a;rw [Y2,List.getElem?_replicate] at a;split at a<;>simp at a
def ue5 {l:List Ins} (d:Okay l) {P:List Int} (n:Z.ByteL P) (e:P.length<=3000) {g:List Pl}
  (i: ∀j,j<l.length->(g.getD j j8).Live=true->PlOk (g.getD j j8)/\ ∃o,yw7 (g.getD j j8) (l.getD j v8) (j:Int)=.inl o/\ ∀t p (s:Z.MS) (len:Int),0<=len/\len<=65535->(t,p)∈o->HoldsP p s len->HoldsP (g.getD t.toNat j8) s len):
  ∀(f k:Nat) (s:Z.MS) (a:Int),k<l.length->l.length<=k+f->0<=a->a<=k->Z.MOk s->HoldsP (g.getD k j8) s P.length->(Z.runP l P f k s a).Err=0/\1<=(Z.runP l P f k s a).Steps/\(Z.runP l P f k s a).Steps<=(l.length:Int)
 |0,k,_,_,q,A,_,_,_,_=>by omega
 |f+1,k,s,a,q,A,G,H,v,w=>by
  obtain ⟨x,y⟩:=km2 d q;obtain ⟨B,o,z,C⟩:=i k q w.live;obtain ⟨D,E⟩:=ze2 x y B v n (by omega) w z;have r:=Z.st_ok (Z.rok y) n v;rw [Z.runP,if_neg (fun h=>h D)];by_cases c:(l.getD k v8).Op=28
  ·rw [if_pos c];exact ⟨rfl,by show 1<=a+1;omega,by show a+1<=_;omega⟩
  ·rw [if_neg c];obtain ⟨p,b,u⟩:=E c;have m:=vv4 x z _ b;dsimp only at m;have F:=C _ p _ _ (by omega) b u;exact ue5 d n e i f _ _ (a+1) (by omega) (by omega) (by omega) (by omega) r F
def sound_true (l:List Ins) (P:List Int) (c:Int) (hP:Z.ByteL P):qu v3 l P c=some true:=by
 obtain ⟨n,e⟩: ∃n:Nat,(v3:Nat)=n+1+1+1+1+1+1:=⟨999999994,rfl⟩;rw [zaq3,wf1,z5,W9,z8];by_cases c1:((l.length:Nat):Int)>200
 ·rw [W6 c1,j4,e,ja4,j4]
 rw [W7 c1,z8];by_cases c2:((P.length:Nat):Int)>3000
 ·rw [W6 c2,j4,e,ja4,j4]
 rw [W7 c2,z8,qw6,z5];by_cases he:(zf3 l).2.Err=0
 ·rw [he,show ((0:Int) != 0)=false from rfl,e,ja4,z8];have key: ∀Q:List Int,Z.ByteL Q->Q.length<=3000-> ∃o:X.Outcome,qr v3 l Q=some o/\o.Err=0/\1<=o.Steps/\o.Steps<=(l.length:Int):=by
   intro Q hQ hq;refine ⟨_,Z.run_p l Q hQ,?_⟩;unfold zf3 at he;by_cases hc:(zq3 l).Err=0
   ·rw [if_pos hc] at he;have hok:=qk4 hc;have hf:(zn1 l).length=l.length:=by unfold zn1;rw [Q3,Z9]
    have hN:NOk (zn1 l):=by
     intro k hk;unfold zn1 at hk⊢;rw [ze3] at hk⊢;split
     ·decide
     ·rename_i hn;rw [if_neg hn] at hk;rw [Y2,List.getElem?_replicate] at hk;split at hk<;>exact absurd hk (by decide)
    obtain ⟨_,w2,w3,_⟩:=jv9 hok l.length 0 (zn1 l) (by omega) hf (qw7 l) hN he;have h0:HoldsP ((zn1 l).getD 0 j8) (Z.ms0 Q) Q.length:=by
     unfold zn1;rw [ze3,if_pos ⟨rfl,by rw [Z9];exact hok.pos⟩];exact wn4 Q (by omega)
    unfold Z.runAll;rw [if_neg (fun h=>h hc),if_neg (by omega)];exact ue5 hok hQ hq (fun j hj hlv=>w3 j (by omega) hj hlv) l.length 0 (Z.ms0 Q) 0 hok.pos (by omega) (by omega) (by omega) (Z.ms0_ok Q (by omega)) (w2 0 _ _ (by omega) h0)
   ·rw [if_neg hc] at he;exact absurd he hc
  have rd: ∀(m:Nat) (Q:List Int) (k:Int),Z.ByteL Q->Q.length<=3000->0<=k->k<2-> ∃Q',Z.ByteL Q'/\Q'.length<=3000/\vj9 (m+1+1) l Q c k=vj9 m l Q' c (k+1):=by
   intro m Q k hQ hq h0 h2;obtain ⟨o,eo,o1,o2,o3⟩:=key Q hQ hq;obtain ⟨j,ej,hj⟩:=uj6 c ((Q.length:Int)+1) (by omega);refine ⟨List.take (((j:Nat):Int).toNat-0) (List.drop 0 Q),fun x hx=>hQ x (List.mem_of_mem_drop (K8 hx)),?_,?_⟩
   ·rw [Y6,Q8];omega
   rw [va5,W6 h2,j4,eo,z5,o1,show ((0:Int) != 0)=false from rfl,z8,W7 (by omega),z8,W7 (by omega),gd2,z8,za1 (x:=((Q.length:Nat):Int)+1) (by omega),ej,z5,if_pos (by omega),za1 (x:=k+1) (by omega)]
  obtain ⟨Q1,hQ1,hq1,e1⟩:=rd (n+1+1+1) P 0 hP (by omega) (by omega) (by omega);obtain ⟨Q2,_,_,e2⟩:=rd (n+1) Q1 (0+1) hQ1 hq1 (by omega) (by omega);rw [e1,e2,va5,W7 (by omega),z8]
 ·rw [show ((zf3 l).2.Err != 0)=true from bne_iff_ne.2 he,e,ja4,j4]
end Go.Y
