import Derived.Test.YthhhfnfgmijggaaGreatM3
import Derived.Test.YthhhfnfgmijggaaGreatMZ
import Derived.Test.YthhhfnfgmijggaaGreatM2
set_option linter.defProp false
namespace Go.Y
open Go.RowKit Go.V Go.X Go.Proofs
def zj7 (e:Int) (f:Bool) (i:Int) (g:Int) (j:Int) (h:Int) (a:Int) (b:Int):(Int×Int×Bool):=(if (b != (1:Int)) then ((0:Int),(0:Int),false) else (if (a==(1:Int)) then (za5 (za4 e f g h) fun c=>((1:Int),c.1,(c.2==(0:Int)))) else (if (((a==(0:Int))||f)||((e != (1:Int))&&(e != (2:Int)))) then ((0:Int),(0:Int),false) else (za5 (za4 e false g h) fun d=>(a,d.1,(d.2==(0:Int)))))))
def zj5 (b:Int) (d:Bool) (e:Int) (f:Int) (c:Int) (g:Int) (a:Int):(Int×Int×Bool):=(if (b==(13:Int)) then (zj7 b d e f c g a (1:Int)) else (zj7 b d e f c g a c))
def zj3 (b:Int) (c:Bool) (d:Int) (f:Int) (a:Int) (e:Int):(Int×Int×Bool):=(if ((b==(12:Int))&&(!c)) then (a,e,(a != (0:Int))) else (if (b==(12:Int)) then (zj5 b c d f a e a) else (zj5 b c d f a e d)))
def zh5 (a):w8 a=true↔((a.Kind=4\/a.Kind=0)/\a.In.Lo=0/\a.In.Hi=0)\/((a.Kind=1\/a.Kind=2)/\a.In.Lo<=a.In.Hi)\/(a.Kind=3/\a.In.Lo=a.In.Hi):=by
 simp only [w8,q9,zn0,js8]
 grind
def zd6 (a k n len):za0 a k n len=true↔w8 a=true/\(a.Kind=0\/(a.Kind=4/\k=1/\0<=len/\n=IntKind.u64.wrap len)\/(a.Kind≠0/\a.Kind≠4/\k=a.Kind/\a.In.Lo<=n/\n<=a.In.Hi)):=by
 simp only [za0,ya5,js8]
 grind
def kg5 {y nw n} (a:q8 n) (b:y.Lo<=n/\n<=y.Hi) (h:qbz y nw=false):yc5 nw n≠0:=by
 simp only [qbz,ya5,ym5,zg8,js8] at h;cases nw with
 |false=>simp at h;show n≠0;omega
 |true=>simp at h;show n%4294967296≠0;omega
def wm2 {nw m n} (b:q8 m) (a:q8 n):za4 12 nw m n=za4 12 nw n n:=by
 rw [zm0 (by omega) b a,zm0 (by omega) a a];rfl
def ql4 {nw m n} (a:q8 m) (b:q8 n):za4 13 nw m n=za4 13 nw m m:=by
 rw [zm0 (by omega) a b,zm0 (by omega) a a];rfl
def qu2 {op} (a:1<=op/\op<=13) {nw m n} (b:q8 m) (c:q8 n) (h:op=4\/op=5->yc5 nw n≠0):(za4 op nw m n).2=0:=by
 rw [zm0 a b c];unfold qj6;have d:op=1\/op=2\/op=3\/op=4\/op=5\/op=6\/op=7\/op=8\/op=9\/op=10\/op=11\/op=12\/op=13:=by omega
 rcases d with rfl|rfl|rfl|rfl|rfl|rfl|rfl|rfl|rfl|rfl|rfl|rfl|rfl
 all_goals first|rfl|(simp [h (by omega)];rfl)
def yf5 {a k n len} (h:za0 a k n len=true) (e:0<=len/\len<=65535) (b:(ql a).2=true):
  k=1/\Hs (ql a).1 n/\(ql a).1.Lo<=(ql a).1.Hi:=by
 rw [zd6,zh5] at h;unfold ql at b⊢;by_cases d:a.Kind=4
 ·have c:(a.Kind==4)=true:=by simpa using d
  rw [c] at b⊢;simp only [if_true];have f:IntKind.u64.wrap len=len:=by rw [q7];omega
  refine ⟨by omega,⟨by show (0:Int)<=n;omega,by show n<=(65535:Int);omega⟩,by decide⟩
 ·have c:(a.Kind==4)=false:=by simpa using d
  rw [c] at b⊢;simp only [W8,if_false,beq_iff_eq] at b⊢;exact ⟨by omega,⟨by omega,by omega⟩,by omega⟩
def wn2 {a k n len} (h:za0 a k n len=true) (e:a.Kind≠0) (b:(ql a).2=false):k=a.Kind/\(k=2\/k=3)/\a.In.Lo<=n/\n<=a.In.Hi/\a.In.Lo<=a.In.Hi:=by
 rw [zd6,zh5] at h;unfold ql at b;by_cases d:a.Kind=4
 ·have c:(a.Kind==4)=true:=by simpa using d
  rw [c] at b;simp at b
 ·have c:(a.Kind==4)=false:=by simpa using d
  rw [c] at b;simp at b;omega
def zx4 {s n len} (h:Hs s n) (a:s.Lo<=s.Hi):za0 ⟨1,s⟩ 1 n len=true:=by
 rw [zd6,zh5];exact ⟨.inr (.inl ⟨.inl rfl,a⟩),.inr (.inr ⟨by show (1:Int)≠0;decide,by show (1:Int)≠4;decide,rfl,h.1,h.2⟩)⟩
def ve1 {op} (e:op=1\/op=2) {a b} (f:q8 a.Lo/\q8 a.Hi) (g:q8 b.Lo/\q8 b.Hi) (c:a.Lo=a.Hi) (d:b.Lo=b.Hi):(span_Do op false a b).Lo=(span_Do op false a b).Hi:=by
 have h:=zl5 (nw:=false) f (Int.le_of_eq c);have i:=zl5 (nw:=false) g (Int.le_of_eq d);rw [zr7,if_pos ⟨by omega,Int.le_of_eq c,Int.le_of_eq d⟩,qf9 (by omega) h i];show ((jw9 false op a b).getD _).Lo=((jw9 false op a b).getD _).Hi;rcases e with rfl|rfl
 ·show ((if b.Hi<=j9 false-a.Hi\/b.Lo>j9 false-a.Lo then some (⟨(a.Lo+b.Lo)%(j9 false+1),(a.Hi+b.Hi)%(j9 false+1)⟩:j6) else none).getD _).Lo=((if b.Hi<=j9 false-a.Hi\/b.Lo>j9 false-a.Lo then some (⟨(a.Lo+b.Lo)%(j9 false+1),(a.Hi+b.Hi)%(j9 false+1)⟩:j6) else none).getD _).Hi;rw [if_pos (by omega),c,d];rfl
 ·show ((if a.Lo>=b.Hi\/a.Hi<b.Lo then some (⟨(a.Lo-b.Hi)%(j9 false+1),(a.Hi-b.Lo)%(j9 false+1)⟩:j6) else none).getD _).Lo=((if a.Lo>=b.Hi\/a.Hi<b.Lo then some (⟨(a.Lo-b.Hi)%(j9 false+1),(a.Hi-b.Lo)%(j9 false+1)⟩:j6) else none).getD _).Hi;rw [if_pos (by omega),c,d];rfl
def wf5:TKnown:=⟨0,⟨0,0⟩⟩
def wx8 (x:TKnown×Int) (t:Int×Int×Bool) (len:Int):Prop:=(x.2≠0/\x.1=wf5)\/(x.2=0/\t.2.2=true/\za0 x.1 t.1 t.2.1 len=true)
def ku0 {op} (a:1<=op/\op<=13) {nw x y} (h:q8 x.Lo/\q8 x.Hi) (i:q8 y.Lo/\q8 y.Hi) (b:x.Lo<=x.Hi) (c:y.Lo<=y.Hi) {m n p q len} (j:q8 m) (k:q8 n) (l:q8 p) (o:q8 q)
  (d:Hs x p) (e:Hs y q) (f:za4 op nw m n=za4 op nw p q) (r:op=4\/op=5->yc5 nw n≠0):(za4 op nw m n).2=0/\za0 ⟨1,span_Do op nw x y⟩ 1 (za4 op nw m n).1 len=true:=by
 obtain ⟨s,t⟩:=jt9 a (nw:=nw) h i b c;have g:=qu2 a (nw:=nw) j k r;exact ⟨g,zx4 (by rw [f];exact t p q l o d e (by rw [<-f];exact g)) s.le⟩
def jw5 {op nw k m j n} (c:op=12->nw=true/\j=1) (d:op≠13->j=1) (g:op≠12->k=1):zj3 op nw k m j n=(1,(za4 op nw m n).1,(za4 op nw m n).2==0):=by
 unfold zj3 zj5 zj7 za5;by_cases a:op=12
 ·obtain ⟨h,i⟩:=c a;subst a;subst h;subst i;rfl
 ·have e:(op==12)=false:=by simpa using a
  rw [e,g a];by_cases b:op=13
  ·subst b;rfl
  ·have f:(op==13)=false:=by simpa using b
   rw [f,d b];rfl
def ki6 {op} (a:op=1\/op=2) {k m n} (b:k=2\/k=3):zj3 op false k m 1 n=(k,(za4 op false m n).1,(za4 op false m n).2==0):=by
 rcases a with rfl|rfl<;>rcases b with rfl|rfl<;>rfl
def qj4 {op} (f:1<=op/\op<=13) {nw} (c d A B) (u:q8 A.In.Lo/\q8 A.In.Hi) (L:q8 B.In.Lo/\q8 B.In.Hi) {e p v q len m n} (w:0<=len/\len<=65535)
  (x:za0 A e p len=true) (K:za0 B v q len=true) (y:A.Kind≠0) (M:B.Kind≠0) (N:q8 m) (O:q8 n) (z:q8 p) (k:q8 q)
  (P:za4 op nw m n=za4 op nw p q) (Q:op=4\/op=5->n=q) (t)
  (C:e=1->v=1->t=(1,(za4 op nw m n).1,(za4 op nw m n).2==0))
  (D:nw=false->(op=1\/op=2)->(e=2\/e=3)->v=1->t=(e,(za4 op false p q).1,(za4 op false p q).2==0)):
  wx8 (zg4 op nw c d A.Kind A.In.Lo A.In.Hi B.Kind B.In.Lo B.In.Hi) t len:=by
 unfold zg4 za5;simp only;rw [show (⟨A.Kind,⟨A.In.Lo,A.In.Hi⟩⟩:TKnown)=A from rfl,show (⟨B.Kind,⟨B.In.Lo,B.In.Hi⟩⟩:TKnown)=B from rfl];have R:=jq9 u;have E:=jq9 L;cases h1:(ql A).2 with
 |true=>
  obtain ⟨l,F,G⟩:=yf5 x w h1;cases h2:(ql B).2 with
  |true=>
   obtain ⟨b,o,l2⟩:=yf5 K w h2;rw [C l b];simp only [T4];split
   ·exact .inl ⟨by show (113:Int)≠0;decide,rfl⟩
   ·rename_i g;have S:op=4\/op=5->yc5 nw n≠0:=by
     intro h;rw [Q h];refine kg5 k o ?_;cases hz:qbz (ql B).1 nw with
     |false=>rfl
     |true=>rw [hz] at g;exact absurd (by rcases h with rfl|rfl<;>rfl) g
    obtain ⟨r,s⟩:=ku0 (len:=len) f (nw:=nw) R E G l2 N O z k F o P S;exact .inr ⟨rfl,by show ((za4 op nw m n).2==0)=true;simpa using r,s⟩
  |false=>
   simp only [Bool.and_false,R3,W8,if_false];exact .inl ⟨by show (114:Int)≠0;decide,rfl⟩
 |false=>
  obtain ⟨l,b,F,o,G⟩:=wn2 x y h1;simp only [R3,W8,if_false];cases h2:(ql B).2 with
  |false=>
   simp only [Bool.and_false,R3,W8,if_false];exact .inl ⟨by show (114:Int)≠0;decide,rfl⟩
  |true=>
   obtain ⟨T,U,V⟩:=yf5 K w h2;by_cases a:((((op==1)||(op==2))&& !nw)&&true)=true
   ·rw [a];have h:op=1\/op=2:=by simp at a;exact a.1
    have H:nw=false:=by simp at a;exact a.2
    subst H;rw [D rfl h b T];obtain ⟨X,Y⟩:=jt9 f (nw:=false) u E G V;have r:=qu2 f (nw:=false) z k (by omega);have s:=Y p q z k ⟨F,o⟩ U r;have i:(e=3->A.In.Lo=A.In.Hi/\(ql B).1.Lo=(ql B).1.Hi)->wx8 (zy5 op false c d A.Kind A.In.Lo A.In.Hi B.Kind B.In.Lo B.In.Hi (ql A) (ql B) true) (e,(za4 op false p q).1,(za4 op false p q).2==0) len:=by
     intro j;refine .inr ⟨rfl,by show ((za4 op false p q).2==0)=true;simpa using r,?_⟩;show za0 ⟨A.Kind,span_Do op false A.In (ql B).1⟩ e (za4 op false p q).1 len=true;rw [<-l,zd6,zh5];have Z:=X.le;refine ⟨?_,.inr (.inr ⟨by show e≠0;omega,by show e≠4;omega,rfl,s.1,s.2⟩)⟩;rcases b with b|b
     ·exact .inr (.inl ⟨.inr b,Z⟩)
     ·obtain ⟨s1,s2⟩:=j b;exact .inr (.inr ⟨b,ve1 h u E s1 s2⟩)
    rcases b with b|b
    ·have I:(A.Kind==2)=true:=by simpa using l▸b
     rw [I];exact i (by omega)
    ·have I:(A.Kind==2)=false:=by simp;omega
     have J:(A.Kind==3)=true:=by simp;omega
     rw [I,J];simp only [Bool.and_false,W8,if_false,T4];by_cases j:(ql B).1.Lo=(ql B).1.Hi
     ·rw [show ((ql B).1.Lo==(ql B).1.Hi)=true from by simpa using j];refine i fun _=>⟨?_,j⟩;rw [zd6,zh5] at x;omega
     ·rw [show ((ql B).1.Lo==(ql B).1.Hi)=false from by simpa using j];exact .inl ⟨by show (114:Int)≠0;decide,rfl⟩
   ·have a:((((op==1)||(op==2))&& !nw)&&true)=false:=by simpa using a
    rw [a];simp only [R3,W8,if_false];exact .inl ⟨by show (114:Int)≠0;decide,rfl⟩
def wh2 {op nw a b} (t:q8 a.In.Lo/\q8 a.In.Hi) (u:q8 b.In.Lo/\q8 b.In.Hi) {m n k j len} (c:q8 m) (d:q8 n) (v:0<=len/\len<=65535)
  (r:za0 a k m len=true) (o:za0 b j n len=true):wx8 (zp5 op nw a b) (zj3 op nw k m j n) len:=by
 have A:w8 a=true:=((zd6 a k m len).1 r).1;have B:w8 b=true:=((zd6 b j n len).1 o).1;unfold zp5;rw [A,B];by_cases w:1<=op/\op<=13
 ·rw [if_neg (by simp;omega)];by_cases s:((op != 12)&&(a.Kind==0)||(op != 13)&&(b.Kind==0))=true
  ·rw [if_pos s];exact .inl ⟨by show (110:Int)≠0;decide,rfl⟩
  ·rw [if_neg s];have x:op≠12->a.Kind≠0:=by intro e f;apply s;simp [e,f]
   have p:op≠13->b.Kind≠0:=by intro e f;apply s;simp [e,f]
   by_cases g:op=12
   ·subst g;have q:=p (by decide);have C:j≠0:=by
     have:=(zd6 b j n len).1 o;omega
    cases nw with
    |false=>
     refine .inr ⟨rfl,?_,o⟩;show (j != 0)=true;simpa using C
    |true=>
     show wx8 (zg4 12 true a b b.Kind b.In.Lo b.In.Hi b.Kind b.In.Lo b.In.Hi) _ len;exact qj4 (by omega) a b b b u u v o o q q c d d d (wm2 c d) (by omega) _ (fun _ h=>jw5 (fun _=>⟨rfl,h⟩) (fun _=>h) (by omega)) (by intro h;cases h)
   ·have y:(op==12)=false:=by simpa using g
    rw [y];simp only [R3,W8,if_false];have i:=x g;by_cases l:op=13
    ·subst l;exact qj4 (by omega) a b a a t t v r r i i c d c c (ql4 c d) (by omega) _ (fun h _=>jw5 (by omega) (by omega) (fun _=>h)) (by omega)
    ·have z:(op==13)=false:=by simpa using l
     rw [z];simp only [W8,if_false];refine qj4 w a b a b t u v r o i (p l) c d c d rfl (fun _=>rfl) _ (fun e f=>jw5 (by omega) (fun _=>f) (fun _=>e)) (fun e f D E=>?_);subst e;subst E;exact ki6 f D
 ·rw [if_pos (by simp;omega)];exact .inl ⟨by show (2:Int)≠0;decide,rfl⟩
end Go.Y
namespace Go.Y
open Go.RowKit Go.V Go.X Go.Proofs
def gq5 (op a b):za4 op true a b=yx0 op 32 (IntKind.u32.wrap a) (IntKind.u32.wrap b):=rfl
def wh7 {op} (c:1<=op/\op<=13) {nw a b} (d:q8 a) (e:q8 b):q8 (za4 op nw a b).1:=by
 rw [zm0 c d e];cases h:qj6 nw op (yc5 nw a) (yc5 nw b) with
 |none=>show q8 (0:Int);decide
 |some x=>
  have:=qy9 c (jp6 d) (jp6 e) h;have f:=zm9 nw;show q8 x;omega
def qk0 {op} (c:1<=op/\op<=13) (nw) {a b} (e:q8 a) (d:q8 b):Z.aluP op nw a b=za4 op nw a b:=by
 have f:=Z.alu_p op nw a b d;have g:qcv v3 op nw a b=some (za4 op nw a b):=by
  rw [vn9];cases nw with
  |true=>
   rw [z9,do32 _ _ _ (kr6 b).1,z6,gq5];have h:=wh7 c (nw:=true) e d;rw [gq5] at h;rw [zc1 (by omega)]
  |false=>rw [z5,do64 _ _ _ (by omega),z6];rfl
 exact X5 (f.symm.trans g)
def ub1 {p} (h:q8 p):IntKind.i64.wrap p=sgn false p:=by
 rw [zo6];unfold sgn j9;simp only [W8,if_false];split<;>omega
def wy2 {p} (h:0<=p/\p<=4294967295):IntKind.i32.wrap p=sgn true p:=by
 rw [yj7];unfold sgn j9;simp only [if_true];split<;>omega
def gu4 (ki k nw) {op p q} (a:17<=op/\op<=27) (b:ki.wrap p=sgn nw p) (c:ki.wrap q=sgn nw q) (d:g9 k p q=((p.toNat&&&q.toNat:Nat):Int)):(Z.isW ki k op p q).1=isE nw op p q:=by
 unfold Z.isW isE;rw [b,c,d];have e:op=17\/op=18\/op=19\/op=20\/op=21\/op=22\/op=23\/op=24\/op=25\/op=26\/op=27:=by omega
 rcases e with rfl|rfl|rfl|rfl|rfl|rfl|rfl|rfl|rfl|rfl|rfl
 ·show (p==q)=decide (p=q);by_cases h:p=q<;>simp [h]
 ·show (p != q)=decide (p≠q);by_cases h:p=q<;>simp [h]
 ·rfl
 ·rfl
 ·rfl
 ·rfl
 ·rfl
 ·rfl
 ·rfl
 ·rfl
 ·show (((p.toNat&&&q.toNat:Nat):Int) != 0)=decide (p.toNat&&&q.toNat≠0);by_cases h:p.toNat&&&q.toNat=0
  ·rw [h];rfl
  ·rw [W3 h];exact bne_iff_ne.2 (by omega)
def ug8 {op} (c:17<=op/\op<=27) (nw) {a b} (d:q8 a) (e:q8 b):(Z.isP op nw a b).1=isE nw op (yc5 nw a) (yc5 nw b):=by
 unfold Z.isP yc5;cases nw with
 |true=>
  rw [if_pos rfl,if_pos rfl,if_pos rfl,w5,w5];exact gu4 .i32 .u32 true c (wy2 (by omega)) (wy2 (by omega)) (go2 (by omega) (by omega))
 |false=>
  rw [if_neg (by decide),if_neg (by decide),if_neg (by decide)];exact gu4 .i64 .u64 false c (ub1 d) (ub1 e) (zm5 d e)
end Go.Y
namespace Go.Y
open Go.RowKit Go.V Go.X Go.Proofs
def vl1 (k n len):za0 ⟨0,⟨0,0⟩⟩ k n len=true:=rfl
def qt3 {a b:TKnown} (d:w8 a=true) (h:(ql a).2=true):(ql a).1.Lo<=(ql a).1.Hi:=by
 unfold ql at h⊢;split
 ·decide
 ·rename_i e;rw [if_neg e] at h;rcases (zh5 a).1 d with ⟨f,_⟩|⟨_,c⟩|⟨f,c⟩
  ·have:a.Kind=1:=by simpa using h
   omega
  ·exact c
  ·have:a.Kind=1:=by simpa using h
   omega
def jh4 {s t n} (h:Hs s n) (a:t.Lo<=t.Hi):Hs (zf0 s t) n/\(zf0 s t).Lo<=(zf0 s t).Hi:=by
 obtain ⟨b,c⟩:=h;unfold zf0 Hs;dsimp only;unfold zo7 zh7;split<;>split<;>omega
def jg8 {s t n} (h:Hs t n) (a:s.Lo<=s.Hi):Hs (zf0 s t) n/\(zf0 s t).Lo<=(zf0 s t).Hi:=by
 obtain ⟨b,c⟩:=h;unfold zf0 Hs;dsimp only;unfold zo7 zh7;split<;>split<;>omega
def ur9 {a b k n len} (i:0<=len/\len<=65535) (h:za0 a k n len=true):za0 (zi4 a b) k n len=true:=by
 have j:=((zd6 a k n len).1 h).1;unfold zi4;simp only [za5];rw [j];cases rb:w8 b with
 |false=>rfl
 |true=>
  simp only [W5,Bool.or_self,W8,if_false];split
  ·exact h
  ·split
   ·rename_i e;rw [X3] at e;obtain ⟨l,c,g⟩:=yf5 h i e.1;obtain ⟨d,f⟩:=jh4 c (qt3 (b:=a) rb e.2);rw [l];exact zx4 d f
   ·split
    ·rename_i c;rw [X3,beq_iff_eq,beq_iff_eq] at c;rcases (zh5 b).1 rb with ⟨q,_⟩|⟨_,q⟩|⟨q,_⟩
     ·omega
     ·rw [zd6] at h;rcases h.2 with g|⟨g,_⟩|⟨_,_,m,o,p⟩
      ·omega
      ·omega
      ·obtain ⟨d,f⟩:=jh4 (s:=a.In) ⟨o,p⟩ q;rw [zd6,zh5];exact ⟨.inr (.inl ⟨.inr rfl,f⟩),.inr (.inr ⟨by show (2:Int)≠0;decide,by show (2:Int)≠4;decide,by rw [m];exact c.1,d.1,d.2⟩)⟩
     ·omega
    ·rfl
def us9 {a b k n len} (o:0<=len/\len<=65535) (h:za0 b k n len=true):za0 (zi4 a b) k n len=true:=by
 have p:=((zd6 b k n len).1 h).1;unfold zi4;simp only [za5];rw [p];cases ra:w8 a with
 |false=>rfl
 |true=>
  simp only [W5,Bool.or_self,W8,if_false];split
  ·rename_i g;simp only [X3,beq_iff_eq] at g;obtain ⟨i,j,l⟩:=g;have:a=b:=by
    obtain ⟨w,⟨x,y⟩⟩:=a;obtain ⟨bk,⟨z,A⟩⟩:=b;simp only at i j l;subst i;subst j;subst l;rfl
   rw [this];exact h
  ·split
   ·rename_i e;rw [X3] at e;obtain ⟨r,c,m⟩:=yf5 h o e.2;obtain ⟨d,f⟩:=jg8 c (qt3 (b:=a) ra e.1);rw [r];exact zx4 d f
   ·split
    ·rename_i c;rw [X3,beq_iff_eq,beq_iff_eq] at c;rcases (zh5 a).1 ra with ⟨q,_⟩|⟨_,q⟩|⟨q,_⟩
     ·omega
     ·rw [zd6] at h;rcases h.2 with m|⟨m,_⟩|⟨_,_,s,u,v⟩
      ·omega
      ·omega
      ·obtain ⟨d,f⟩:=jg8 (t:=b.In) ⟨u,v⟩ q;rw [zd6,zh5];exact ⟨.inr (.inl ⟨.inr rfl,f⟩),.inr (.inr ⟨by show (2:Int)≠0;decide,by show (2:Int)≠4;decide,by rw [s];exact c.2,d.1,d.2⟩)⟩
     ·omega
    ·rfl
def KH (k:Known) (v:Z.Val) (len:Int):Prop:=za0 (tk k) v.kind v.n len=true
structure HoldsP (p:Pl) (s:Z.MS) (len:Int):Prop where
 live:p.Live=true
 least:0<=p.Least/\p.Least<=len
 regs: ∀k,k<11->KH (p.Regs.getD k j7) (s.R.getD k Z.dVal) len
 bytes: ∀k,k<512->p.Bytes.getD k false=true->s.S.getD k false=true
def NOk (a:List Pl):Prop:= ∀k,(a.getD k j8).Live=true->0<=(a.getD k j8).Least
def qf4 {a b} (c:a.length=512) (d:b.length=512) {k} (h:(qa8 a b).getD k false=true):a.getD k false=true/\b.getD k false=true:=by
 unfold qa8 at h;rw [if_pos ⟨c,d⟩,Y2,yn5] at h;split at h
 ·rw [V0,X3] at h;exact h
 ·rw [List.getElem?_replicate] at h;split at h<;>simp at h
def qv9 {q p} (b:q.length=11) {k} (a:k<11):(jr q p 11).getD k j7=km2 (q.getD k j7) (p.getD k j7):=by
 rw [Y2,gw1,if_pos ⟨a,by omega⟩];rfl
def gb0 {a} (e:AllOk a) (f:NOk a) {k} (c:k<a.length) {p} (g:PlOk p) {s len} (i:0<=len/\len<=65535) (h:HoldsP p s len):HoldsP ((zm3 a k p).getD k j8) s len:=by
 unfold zm3;split
 ·rename_i d;have q:=e k d;rw [ze1,if_pos ⟨rfl,c⟩];refine ⟨rfl,?_,fun j b=>?_,fun j b l=>h.bytes j b (qf4 q.bytes g.bytes l).2⟩
  ·have m:=f k d;have n:=h.least;show 0<=zo7 _ _/\zo7 _ _<=len;unfold zo7;split<;>omega
  ·show KH ((jr _ _ 11).getD j j7) _ _;rw [qv9 q.regs b];exact us9 i (h.regs j b)
 ·rw [ze1,if_pos ⟨rfl,c⟩];exact h
def gg0 {b} (e:AllOk b) {k j p} (f:PlOk p) (g:0<=p.Least) {s len} (l:0<=len/\len<=65535) (h:HoldsP (b.getD j j8) s len):HoldsP ((zm3 b k p).getD j j8) s len:=by
 unfold zm3;split
 ·rename_i c;have q:=e k c;rw [ze1];split
  ·rename_i d;obtain ⟨rfl,_⟩:=d;refine ⟨rfl,?_,fun i a=>?_,fun i a m=>h.bytes i a (qf4 q.bytes f.bytes m).1⟩
   ·have n:=h.least;show 0<=zo7 _ _/\zo7 _ _<=len;unfold zo7;split<;>omega
   ·show KH ((jr _ _ 11).getD i j7) _ _;rw [qv9 q.regs a];exact ur9 l (h.regs i a)
  ·exact h
 ·rename_i c;rw [ze1];split
  ·rename_i d;obtain ⟨rfl,_⟩:=d;exact absurd h.live c
  ·exact h
def gv0 {e} (c:NOk e) (k) {p} (f:0<=p.Least):NOk (zm3 e k p):=by
 intro j a;unfold zm3 at a⊢;split at a
 ·rename_i b;rw [if_pos b];rw [ze1] at a⊢;split
  ·have:=c k b;show 0<=zo7 _ _;unfold zo7;split<;>omega
  ·rename_i d;rw [if_neg d] at a;exact c j a
 ·rename_i b;rw [if_neg b];rw [ze1] at a⊢;split
  ·exact f
  ·rename_i d;rw [if_neg d] at a;exact c j a
end Go.Y
namespace Go.Y
open Go.RowKit Go.V Go.X Go.Proofs
def vq9 {k v len} (h:KH k v len):w8 (tk k)=true/\(k.Kind=0\/(k.Kind=4/\v.kind=1/\0<=len/\v.n=IntKind.u64.wrap len)\/(k.Kind≠0/\k.Kind≠4/\v.kind=k.Kind/\k.In_Lo<=v.n/\v.n<=k.In_Hi)):=(zd6 _ _ _ _).1 h
def qy5 {k v len} (h:KH k v len) (a:k.Kind=3):v.kind=3/\v.n=k.In_Lo:=by
 obtain ⟨r,q⟩:=vq9 h;have b:k.In_Lo=k.In_Hi:=by
  rcases (zh5 (tk k)).1 r with ⟨q,_⟩|⟨q,_⟩|⟨_,q⟩
  ·have:k.Kind=4\/k.Kind=0:=q;omega
  ·have:k.Kind=1\/k.Kind=2:=q;omega
  ·exact q
 rcases q with q|⟨q,_⟩|⟨_,_,q,c,d⟩
 ·omega
 ·omega
 ·omega
def vy8 {k v len} (h:KH k v len) (a:k.Kind=2):v.kind=2/\k.In_Lo<=v.n/\v.n<=k.In_Hi:=by
 rcases (vq9 h).2 with q|⟨q,_⟩|⟨_,_,q,b,c⟩<;>omega
def yr0 {a len k v b} (j:0<=a/\a<=len) (l:len<=65535) (h:KH k v len) (e:ym0 a k=.inl b):v.kind=1/\Hs b v.n/\b.Lo<=b.Hi/\(k.Kind=1\/k.Kind=4/\v.n=len):=by
 obtain ⟨r,q⟩:=vq9 h;unfold ym0 at e;split at e
 ·cases e
 ·split at e
  ·rename_i f;cases e;have g:k.In_Lo<=k.In_Hi:=by
    rcases (zh5 (tk k)).1 r with ⟨q,_⟩|⟨_,q⟩|⟨q,_⟩
    ·have:k.Kind=4\/k.Kind=0:=q;omega
    ·exact q
    ·have:k.Kind=3:=q;omega
   rcases q with q|⟨q,_⟩|⟨_,_,q,d,c⟩
   ·omega
   ·omega
   ·exact ⟨by omega,⟨d,c⟩,g,.inl f⟩
  ·split at e
   ·rename_i i;cases e;rcases q with q|⟨_,d,_,c⟩|⟨_,q,_⟩
    ·omega
    ·rw [zc1 (by omega)] at c;rw [zc1 (by omega)];exact ⟨d,⟨by show a<=v.n;omega,by show v.n<=65535;omega⟩,by show a<=65535;omega,.inr ⟨i,c⟩⟩
    ·omega
   ·cases e
def jf5 {w:Pl} {s:Z.MS} {len} (h: ∀k,k<11->KH (w.Regs.getD k j7) (s.R.getD k Z.dVal) len) {i:Ins} (b:i.UseImm=true\/0<=i.Src/\i.Src<=10):KH (yl8 w.Regs i) (Z.secV i s.R) len:=by
 unfold yl8 Z.secV;by_cases a:i.UseImm=true
 ·rw [if_pos a,if_pos a];exact zx4 (s:=⟨IntKind.u64.wrap i.Imm,IntKind.u64.wrap i.Imm⟩) ⟨W7 _,W7 _⟩ (W7 _)
 ·rw [if_neg a,if_neg a];have:=b.resolve_left a;exact h _ (by omega)
def kh8 (R:List Z.Val) (k j:Nat) (x:Z.Val):(R.set k x).getD j Z.dVal=if k=j/\j<R.length then x else R.getD j Z.dVal:=by
 rw [Y2,Y2,List.getElem?_set];by_cases h:k=j
 ·subst h;by_cases a:k<R.length
  ·rw [if_pos rfl,if_pos a,if_pos ⟨rfl,a⟩];rfl
  ·rw [if_pos rfl,if_neg a,if_neg (fun h=>a h.2),Y5 (by omega)]
 ·rw [if_neg h,if_neg (fun b=>h b.1)]
def qz9 {rs:List Known} {R:List Z.Val} {len} (b:rs.length=11) (c:R.length=11) (h: ∀k,k<11->KH (rs.getD k j7) (R.getD k Z.dVal) len) (d:Nat) {x v} (e:KH x v len): ∀k,k<11->KH ((rs.set d x).getD k j7) ((R.set d v).getD k Z.dVal) len:=by
 intro k f;rw [yo8,kh8,b,c];by_cases a:d=k/\k<11
 ·rw [if_pos a,if_pos a];exact e
 ·rw [if_neg a,if_neg a];exact h k f
def vw8 {S}: ∀(m p),(∀j,j<m->S.getD (p+j) false=true)->Z.allS S p m=true
 |0,_,_=>rfl
 |m+1,p,h=>by
  rw [Z.allS,show S.getD p false=true from h 0 (by omega),T4];exact vw8 m (p+1) fun j a=>by have:=h (j+1) (by omega);rw [show p+1+j=p+(j+1) by omega];exact this
def gb3 {b p m} (h:ql6 b p m 0=true): ∀j,j<m->b.getD (p+j) false=true:=by
 intro j a;unfold ql6 at h;rw [Y8] at h;exact h j (by rw [List.mem_range'_1];omega)
def qg0 (b p): ∀(m j),(yy1 b p m).getD j false=true->b.getD j false=true\/p<=j/\j<p+m
 |0,j,h=>.inl h
 |m+1,j,h=>by
  rw [yy1] at h;rw [Y2,List.getElem?_set] at h;split at h
  ·rename_i a;exact .inr ⟨by omega,by omega⟩
  ·rw [<-List.getD_eq_getElem?_getD] at h;rcases qg0 b p m j h with q|q
   ·exact .inl q
   ·exact .inr ⟨q.1,by omega⟩
def qu1: ∀(m p j S),j<S.length->(S.getD j false=true\/p<=j/\j<p+m)->(Z.setS S p m).getD j false=true
 |0,p,j,S,_,h=>by
  rcases h with h|h
  ·exact h
  ·omega
 |m+1,p,j,S,b,h=>by
  rw [Z.setS];refine qu1 m (p+1) j _ (by rw [Q1];exact b) ?_;by_cases a:p=j
  ·left;rw [Y2,List.getElem?_set,if_pos a,if_pos (by omega)];rfl
  ·rcases h with h|h
   ·left;rw [Y2,List.getElem?_set,if_neg a,<-List.getD_eq_getElem?_getD];exact h
   ·right;omega
def wq1 {k i n} (a:n=k.In_Lo) (b: -512<=zp1 k i) (c:zp1 k i<= -i.Size) (d:1<=i.Size):Z.frP n i=(zp1 k i+512,0):=by
 subst a;unfold Z.frP;dsimp only;rw [show IntKind.i64.wrap (IntKind.u64.wrap (k.In_Lo+IntKind.u64.wrap i.Off))=zp1 k i from rfl,u0 (by omega),if_neg (by omega)]
def qk8 {s} (h:zh1 s=true):s=1\/s=2\/s=4\/s=8:=by
 unfold zh1 at h;simp only [V6,beq_iff_eq] at h;exact h
def wi5 {z v len} (a:zh1 z=true) (b:0<=v/\v<256^z.toNat):KH (yp5 z) ⟨1,v⟩ len:=by
 have:(yp5 z).In_Hi=256^z.toNat-1:=by rcases qk8 a with rfl|rfl|rfl|rfl<;>decide
 refine zx4 (s:=⟨0,(yp5 z).In_Hi⟩) ⟨b.1,?_⟩ ?_
 ·show v<=(yp5 z).In_Hi;omega
 ·show 0<=(yp5 z).In_Hi;omega
def vg3 {w} (m:PlOk w) {s} (o:Z.MOk s) {P} (D:Z.ByteL P) (r:P.length<=65535) (h:HoldsP w s P.length) {i} (t:0<=i.Src/\i.Src<=10) (f:zh1 i.Size=true) (y: -32768<=i.Off/\i.Off<=32767) {a z} (e:yu1 w i a=.inl z):
  (Z.ldP i P s).1=0/\ ∃p,(a+1,p)∈z/\HoldsP p (Z.ldP i P s).2 P.length:=by
 have E:=qk8 f;unfold yu1 at e;split at e
 case isFalse=>cases e
 rename_i b;cases e;have kh:=h.regs i.Src.toNat (by omega);have A:=m.u i.Src.toNat;have c: ∀v:Int,0<=v/\v<256^i.Size.toNat->HoldsP ⟨w.Live,w.Regs.set i.Dst.toNat (yp5 i.Size),w.Bytes,w.Least⟩ {s with R:=s.R.set i.Dst.toNat ⟨1,v⟩} P.length:=fun v F=>
  ⟨h.live,h.least,qz9 m.regs o.rl h.regs _ (wi5 f F),h.bytes⟩
 unfold kp2 at b;dsimp only at b;unfold Z.ldP Z.ask1;rw [show Z.rg s.R i.Src=s.R.getD i.Src.toNat Z.dVal from rfl];generalize w.Regs.getD i.Src.toNat j7=k at kh A b;generalize s.R.getD i.Src.toNat Z.dVal=v at kh⊢;split at b
 ·rename_i G;obtain ⟨B,C⟩:=qy5 kh G;unfold vj4 at b;split at b
  case isFalse=>rename_i H;exact absurd b H
  rename_i I;split at b
  case isFalse=>exact absurd b (by decide)
  rename_i J;obtain ⟨_,_,K,L⟩:=yy6 I;have g:=wq1 (i:=i) C K L (by omega);have d:Z.allS s.S (zp1 k i+512).toNat i.Size.toNat=true:=vw8 _ _ fun j M=>h.bytes _ (by omega) (gb3 J j M);rw [if_neg (by rw [if_neg (by omega)];decide),if_neg (by omega),if_neg (by omega),g,if_neg (fun q=>q rfl),if_neg (by rw [d];decide)];refine ⟨rfl,_,Q4.2 rfl,c _ (Z.beF_rng o.bb _ _)⟩
 ·split at b
  ·rename_i N;obtain ⟨B,C,V⟩:=vy8 kh N;split at b
   ·exact absurd b (by decide)
   ·split at b
    ·exact absurd b (by decide)
    ·split at b
     ·exact absurd b (by decide)
     ·rename_i c1 c2 c3;have X:=A.1;rw [u0 (x:=k.In_Lo) (by omega),u0 (x:=k.In_Lo+i.Off) (by omega)] at c2;rw [u0 (x:=k.In_Hi) (by omega),u0 (x:=k.In_Hi+i.Off) (by omega),u0 (x:=k.In_Hi+i.Off+i.Size) (by omega)] at c3;have O:=h.least;have Q:IntKind.i64.wrap (IntKind.u64.wrap (v.n+IntKind.u64.wrap i.Off))=v.n+i.Off:=by
       rw [q7,q7,zo6];omega
      have T:Z.getP P (v.n+i.Off) i.Size=(Z.beF P (v.n+i.Off).toNat i.Size.toNat,0):=by
       have l:Z.placeP P.length (v.n+i.Off) i.Size=0:=by
        unfold Z.placeP;rw [if_pos f,if_neg (by omega)]
       unfold Z.getP;rw [if_pos l]
      rw [if_neg (by rw [if_neg (by omega)];decide),if_neg (by omega),if_pos B,Q,T,if_neg (fun q=>q rfl)];exact ⟨rfl,_,Q4.2 rfl,c _ (Z.beF_rng D _ _)⟩
  ·split at b
   ·exact absurd b (by decide)
   ·rename_i U;exact absurd b (jk3 U)
def kf3 {w} (H:PlOk w) {s} (z:Z.MOk s) {len} (e:0<=len/\len<=65535) (h:HoldsP w s len) {i} (I:0<=i.Dst/\i.Dst<=10) (f:i.UseImm=true\/0<=i.Src/\i.Src<=10) (A:zh1 i.Size=true) {a t} (d:ql0 w i a=.inl t):
  (Z.ptP i s).1=0/\ ∃p,(a+1,p)∈t/\HoldsP p (Z.ptP i s).2 len:=by
 have B:=qk8 A;have kh:=h.regs i.Dst.toNat (by omega);have n:=jf5 h.regs f;unfold ql0 at d;dsimp only at d;unfold Z.ptP Z.bothE;have J:Z.secE i s.R=if i.UseImm=true then 0 else Z.ask1 s.R i.Src:=rfl
 have es:Z.secE i s.R=if (Z.secV i s.R).kind=0 then 110 else 0:=by
  unfold Z.secE Z.secV Z.ask1;by_cases m:i.UseImm=true
  ·rw [if_pos m,if_pos m,if_neg (by show ¬(1:Int)=0;decide)]
  ·rw [if_neg m,if_neg m]
 rw [es];unfold Z.ask1;rw [show Z.rg s.R i.Dst=s.R.getD i.Dst.toNat Z.dVal from rfl];generalize w.Regs.getD i.Dst.toNat j7=k at kh d;generalize s.R.getD i.Dst.toNat Z.dVal=v at kh⊢;generalize yl8 w.Regs i=b at n d;generalize Z.secV i s.R=u at n⊢;split at d
 ·cases d
 ·split at d
  ·cases d
  ·split at d
   ·cases d
   ·rename_i K L x;have x:k.Kind=3:=by omega
    split at d
    ·cases d
    ·rename_i M C;split at d
     ·rename_i o;cases d;obtain ⟨N,D⟩:=qy5 kh x;obtain ⟨O,_⟩:=yr0 h.least e.2 n C;have g:zg3 w.Bytes (zp1 k i) i.Size=0:=by
       unfold jn8 at o;split at o
       ·assumption
       ·rename_i E;exact absurd o E
      obtain ⟨_,_,F,G⟩:=yy6 g;have r:=wq1 (i:=i) D F G (by omega);rw [if_neg (c:=v.kind=0) (by omega),if_neg (c:=u.kind=0) (by omega),if_neg (c:= ¬(0:Int)=0) (fun h=>h rfl),if_neg (by decide),if_neg (by omega),if_neg (by omega),r,if_neg (fun q=>q rfl)];refine ⟨rfl,_,Q4.2 rfl,h.live,h.least,h.regs,fun j y l=>?_⟩;show (Z.setS s.S (zp1 k i+512).toNat i.Size.toNat).getD j false=true;refine qu1 _ _ _ _ (by rw [z.sl];exact y) ?_;have l:(jn8 w.Bytes (zp1 k i) i.Size).1.getD j false=true:=l;unfold jn8 at l;rw [if_pos g] at l;rcases qg0 _ _ _ _ l with q|q
      ·exact .inl (h.bytes j y q)
      ·exact .inr q
     ·cases d
end Go.Y
namespace Go.Y
open Go.RowKit Go.V Go.X Go.Proofs
def vw1 (i R):Z.secE i R=if (Z.secV i R).kind=0 then 110 else 0:=by
 unfold Z.secE Z.secV Z.ask1;by_cases a:i.UseImm=true
 ·rw [if_pos a,if_pos a,if_neg (by show ¬(1:Int)=0;decide)]
 ·rw [if_neg a,if_neg a]
def yh2 {x y:Int} (h:x≠y):(x==y)=false:=beq_eq_false_iff_ne.2 h
def qi3 {w} (G:PlOk w) {s} (H:Z.MOk s) {P len} (B:0<=len/\len<=65535) (h:HoldsP w s len) {i} (hop:1<=i.Op/\i.Op<=13) (hd:0<=i.Dst/\i.Dst<=10) (C:i.UseImm=true\/0<=i.Src/\i.Src<=10) {a S} (j:zq7 w i a=.inl S):
  (Z.stP1 i P s).1=0/\ ∃p,(a+1,p)∈S/\HoldsP p (Z.stP1 i P s).2 len:=by
 have kh:=h.regs i.Dst.toNat (by omega);have T:=G.u i.Dst.toNat;have sh:=jf5 h.regs C;have su:=qa5 G.u i;have t:q8 (s.R.getD i.Dst.toNat Z.dVal).n:=H.rg i.Dst;have A:q8 (Z.secV i s.R).n:=H.secV i;have I: ∀(x:Known) (v:Z.Val),KH x v len->HoldsP ⟨w.Live,w.Regs.set i.Dst.toNat x,w.Bytes,w.Least⟩ {s with R:=s.R.set i.Dst.toNat v} len:=fun x v hx=>
  ⟨h.live,h.least,qz9 G.regs H.rl h.regs _ hx,h.bytes⟩
 unfold zq7 at j;dsimp only at j;have J:KH (if i.Op=13 then ⟨0,0,0⟩ else yl8 w.Regs i) (Z.secV i s.R) len:=by
  split
  ·exact vl1 _ _ _
  ·exact sh
 have U:UOk (if i.Op=13 then ⟨0,0,0⟩ else yl8 w.Regs i):=by
  split
  ·exact ⟨by show q8 (0:Int);decide,by show q8 (0:Int);decide⟩
  ·exact su
 generalize (if i.Op=13 then (⟨0,0,0⟩:Known) else yl8 w.Regs i)=b at j J U;have K:=vw1 i s.R;unfold Z.stP1 Z.mvP Z.ngP Z.rkP Z.bothE Z.ask1;rw [K,show Z.rg s.R i.Dst=s.R.getD i.Dst.toNat Z.dVal from rfl];generalize w.Regs.getD i.Dst.toNat j7=k at kh T j;generalize s.R.getD i.Dst.toNat Z.dVal=v at kh t⊢;generalize Z.secV i s.R=u at J A⊢;have y:=wh2 (op:=i.Op) (nw:=i.Narrow) (a:=tk k) (b:=tk b) T U t A B kh J;have L:doK i.Op i.Narrow k b=(ofT (zp5 i.Op i.Narrow (tk k) (tk b)).1,(zp5 i.Op i.Narrow (tk k) (tk b)).2):=rfl;rw [L] at j;dsimp only at j;generalize zp5 i.Op i.Narrow (tk k) (tk b)=r at y j;by_cases M:r.2=0
 case neg=>rw [if_neg M] at j;cases j
 rw [if_pos M] at j;cases j;rcases y with ⟨q,_⟩|⟨_,g,t3⟩
 ·exact absurd M q
 have d: ∀(N n:Int),N=(zj3 i.Op i.Narrow v.kind v.n u.kind u.n).1->n=(zj3 i.Op i.Narrow v.kind v.n u.kind u.n).2.1->HoldsP ⟨w.Live,w.Regs.set i.Dst.toNat (ofT r.1),w.Bytes,w.Least⟩ {s with R:=s.R.set i.Dst.toNat ⟨N,n⟩} len:=by
  rintro N n rfl rfl
  exact I _ _ t3
 by_cases o:i.Op=12
 ·rw [if_pos o];unfold zj3 zj5 zj7 za5 at g d;simp only [o] at g d;cases hn:i.Narrow with
  |false=>
   rw [hn] at g d;have O:u.kind≠0:=by simpa using g
   rw [if_neg (c:=u.kind=0) O,if_neg (fun q=>q rfl),if_neg (by simp)];exact ⟨rfl,_,Q4.2 rfl,d _ _ (by simp) (by simp)⟩
  |true=>
   rw [hn] at g d;have e:u.kind=1:=by
    by_cases q:u.kind=1
    ·exact q
    ·simp [q] at g
   have l:IntKind.u64.wrap (IntKind.u32.wrap u.n)=(za4 12 true v.n u.n).1:=by
    rw [zm0 (by decide) t A];show _=yc5 true u.n;unfold yc5;rw [if_pos rfl,w5,zc1 (by omega)]
   rw [if_neg (c:=u.kind=0) (by omega),if_neg (fun q=>q rfl),if_neg (fun q=>q.2 e)];exact ⟨rfl,_,Q4.2 rfl,d _ _ (by simp [e]) (by rw [if_pos rfl,l];simp [e])⟩
 rw [if_neg o];by_cases m:i.Op=13
 ·rw [if_pos m];unfold zj3 zj5 zj7 za5 at g d;simp only [m] at g d;have f:v.kind=1:=by
   by_cases q:v.kind=1
   ·exact q
   ·simp [q] at g
  have D:(za4 13 i.Narrow v.n u.n).2=0:=by simpa [f] using g
  have l:Z.aluP i.Op i.Narrow v.n 0=za4 13 i.Narrow v.n u.n:=by
   rw [m,qk0 (by decide) _ t (by decide),ql4 t (by decide),ql4 t A]
  rw [if_neg (c:=v.kind=0) (by omega),if_neg (fun q=>q rfl),if_neg (fun q=>q f),l];exact ⟨D,_,Q4.2 rfl,d _ _ (by simp [f]) (by simp [f])⟩
 rw [if_neg m,if_neg (by omega),if_neg (by omega),if_neg (by omega),if_neg (by omega),if_pos (by omega)];unfold zj3 zj5 zj7 za5 at g d;simp only [yh2 o,yh2 m,R3,W8,if_false] at g d;have e:u.kind=1:=by
  by_cases q:u.kind=1
  ·exact q
  ·simp [q] at g
 by_cases f:v.kind=1
 ·have D:(za4 i.Op i.Narrow v.n u.n).2=0:=by simpa [e,f] using g
  rw [if_neg (c:=v.kind=0) (by omega),if_neg (c:= ¬(0:Int)=0) (fun q=>q rfl),if_neg (c:=u.kind=0) (by omega),if_neg (c:= ¬(0:Int)=0) (fun q=>q rfl),if_neg (by omega),qk0 (by omega) _ t A,if_pos D];exact ⟨rfl,_,Q4.2 rfl,d _ _ (by simp [e,f]) (by simp [e,f])⟩
 ·have Q:v.kind≠0/\i.Narrow=false/\(i.Op=1\/i.Op=2):=by
   refine ⟨fun q=>?_,?_,?_⟩
   ·simp [e,q] at g
   ·cases q:i.Narrow with
    |false=>rfl
    |true=>simp [e,yh2 f,q] at g
   ·by_cases q:i.Op=1\/i.Op=2
    ·exact q
    ·have q1:i.Op≠1:=fun z=>q (.inl z);have q2:i.Op≠2:=fun z=>q (.inr z);simp [e,yh2 f,q1,q2] at g
  obtain ⟨V,E,X⟩:=Q;have Y:(((v.kind==0)||i.Narrow)||((i.Op != 1)&&(i.Op != 2)))=false:=by
   rw [yh2 V,E];rcases X with q|q<;>rw [q]<;>rfl
  have D:(za4 i.Op false v.n u.n).2=0:=by simpa [e,yh2 f,Y] using g
  rw [if_neg (c:=v.kind=0) V,if_neg (c:= ¬(0:Int)=0) (fun q=>q rfl),if_neg (c:=u.kind=0) (by omega),if_neg (c:= ¬(0:Int)=0) (fun q=>q rfl),if_neg (fun q=>q.elim (fun z=>z e) (fun z=>z.2 ⟨X,E⟩)),qk0 (by omega) _ t A,E,if_pos D];rw [E] at d;rw [E] at Y;have F: ¬(v.kind=0\/ ¬i.Op=1/\ ¬i.Op=2):=by omega
  exact ⟨rfl,_,Q4.2 rfl,d _ _ (by simp [e,yh2 f,F]) (by simp [e,yh2 f,F])⟩
end Go.Y
namespace Go.Y
open Go.RowKit Go.V Go.X Go.Proofs
def ql7 {p} (j:p.Regs.length=11) {s len} (e:len<=65535) (h:HoldsP p s len) {r} (l:0<=r/\r<=10) {x} (g:(s.R.getD r.toNat Z.dVal).kind=1) (f:Hs x (s.R.getD r.toNat Z.dVal).n) (m:0<=x.Lo) (c:x.Lo<=x.Hi)
  (a:(p.Regs.getD r.toNat j7).Kind=1\/(p.Regs.getD r.toNat j7).Kind=4/\(s.R.getD r.toNat Z.dVal).n=len):HoldsP (zl0 p r x) s len:=by
 unfold zl0;by_cases b:(p.Regs.getD r.toNat j7).Kind=1
 ·rw [if_pos b];refine ⟨h.live,h.least,fun k d=>?_,h.bytes⟩;show KH ((p.Regs.set r.toNat ⟨(p.Regs.getD r.toNat j7).Kind,x.Lo,x.Hi⟩).getD k j7) _ _;rw [yo8];split
  ·rename_i i;obtain ⟨rfl,_⟩:=i;rw [b];unfold KH;rw [g];exact zx4 f c
  ·exact h.regs k d
 ·rw [if_neg b];have o:=a.resolve_left b;obtain ⟨q,t⟩:=f;have u:=h.least;refine ⟨h.live,?_,h.regs,h.bytes⟩;show 0<=zh7 p.Least (IntKind.i64.wrap x.Lo)/\zh7 p.Least (IntKind.i64.wrap x.Lo)<=len;rw [u0 (by omega)];unfold zh7;split<;>omega
def qt1 {p:Pl} {r q:Int} {x} (h:r.toNat≠q.toNat):(zl0 p r x).Regs.getD q.toNat j7=p.Regs.getD q.toNat j7:=by
 unfold zl0;split
 ·show (p.Regs.set r.toNat _).getD q.toNat j7=_;rw [yo8,if_neg (fun z=>h z.1)]
 ·rfl
def qi4 {w} (j:PlOk w) {s} (E:Z.MOk s) {len} (b:0<=len/\len<=65535) (h:HoldsP w s len) {i} (k:17<=i.Op/\i.Op<=27) (F:0<=i.Dst/\i.Dst<=10) (d:i.UseImm=true\/0<=i.Src/\i.Src<=10) {a G} (f:zq8 w i a=.inl G):
  Z.brE i s.R=0/\ ∃p,(a+1+(if Z.brJ i s.R=true then i.Off else 0),p)∈G/\HoldsP p s len:=by
 have kh:=h.regs i.Dst.toNat (by omega);have O:=jf5 h.regs d;have P:q8 (s.R.getD i.Dst.toNat Z.dVal).n:=E.rg i.Dst;have Q:q8 (Z.secV i s.R).n:=E.secV i;have S:=j.u i.Dst.toNat;have T:=qa5 j.u i;unfold zq8 at f;dsimp only at f;split at f
 ·cases f
 split at f
 ·cases f
 rename_i m H;split at f
 ·cases f
 rename_i n I;cases f;obtain ⟨J,U,V,K⟩:=yr0 h.least b.2 kh H;obtain ⟨L,X,Y,x⟩:=yr0 h.least b.2 O I;have y:=jk8 S H;have z:=jk8 T I;have e0:Z.brE i s.R=0:=by
  unfold Z.brE Z.bothE;rw [vw1];unfold Z.ask1;rw [show Z.rg s.R i.Dst=s.R.getD i.Dst.toNat Z.dVal from rfl];rw [if_neg (c:=(s.R.getD i.Dst.toNat Z.dVal).kind=0) (by omega),if_neg (c:= ¬(0:Int)=0) (fun q=>q rfl),if_neg (c:=(Z.secV i s.R).kind=0) (by omega),if_neg (c:= ¬(0:Int)=0) (fun q=>q rfl),if_neg (by omega)]
 refine ⟨e0,?_⟩;have ej:Z.brJ i s.R=isE i.Narrow i.Op (yc5 i.Narrow (s.R.getD i.Dst.toNat Z.dVal).n) (yc5 i.Narrow (Z.secV i s.R).n):=by
  unfold Z.brJ;rw [e0,W3 rfl,T4];exact ug8 k _ P Q
 obtain ⟨g,o,A,t,v,B,C⟩:=uk3 k (nw:=i.Narrow) y z V Y U X ej.symm;rw [ke9 _ _ _ _ _ y z] at g o A t v B C;have e:HoldsP (vg4 w i (ifE i.Op i.Narrow (Z.brJ i s.R) m n).1 (ifE i.Op i.Narrow (Z.brJ i s.R) m n).2.1) s len:=by
  generalize ifE i.Op i.Narrow (Z.brJ i s.R) m n=r at g o A t v B C;have M:0<=r.1.Lo:=by have:=B.1;have:=y.1;omega
  have y0:0<=r.2.1.Lo:=by have:=C.1;have:=z.1;omega
  unfold vg4;by_cases l:i.UseImm=true
  ·rw [if_pos l];exact ql7 j.regs b.2 h F J t M o K
  ·rw [if_neg l];have d:=d.resolve_left l;by_cases N:i.Src=i.Dst
   ·rw [if_pos N];exact h
   ·rw [if_neg N];have D:i.Dst.toNat≠i.Src.toNat:=by omega
    have e1:Z.secV i s.R=s.R.getD i.Src.toNat Z.dVal:=by unfold Z.secV;rw [if_neg l]
    have e2:yl8 w.Regs i=w.Regs.getD i.Src.toNat j7:=by unfold yl8;rw [if_neg l]
    rw [e1] at L x v;rw [e2] at x;have hA:=ql7 j.regs b.2 h F J t M o K;refine ql7 ((ze3 ..).1.trans j.regs) b.2 hA d L v y0 A ?_;rw [qt1 D];exact x
 cases hj:Z.brJ i s.R with
 |true=>
  rw [hj] at g e;rw [if_pos rfl];refine ⟨_,X4.2 (.inr ?_),e⟩;unfold jl6;rw [if_pos g];exact Q4.2 rfl
 |false=>
  rw [hj] at g e;rw [if_neg (by decide),Int.add_zero];refine ⟨_,X4.2 (.inl ?_),e⟩;unfold jl6;rw [if_pos g];exact Q4.2 rfl
def ze0 {l k i} (f:InsOk l k i) (t:zf5 i=true) {w} (v:PlOk w) {s} (x:Z.MOk s) {P} (E:Z.ByteL P) (u:P.length<=65535) (h:HoldsP w s P.length) {a D} (d:yv3 w i a=.inl D):
  (Z.stP1 i P s).1=0/\(i.Op≠28-> ∃p,(a+1+Z.jmpP i s.R,p)∈D/\HoldsP p (Z.stP1 i P s).2 P.length):=by
 have y:(0:Int)<=P.length/\(P.length:Int)<=65535:=by omega
 have j:=zx9 i t;have F:=f.op;unfold yv3 at d;split at d
 ·rename_i e;have b:Z.stP1 i P s=Z.ldP i P s:=by unfold Z.stP1;rw [if_neg (by omega),if_neg (by omega),if_pos e]
  have g:Z.jmpP i s.R=0:=by unfold Z.jmpP;rw [if_neg (by omega),if_neg (by omega)]
  rw [b,g,Int.add_zero];obtain ⟨n,o⟩:=vg3 v x E u h (f.src e).1 (f.src e).2 ⟨j.1,j.2.1⟩ d;exact ⟨n,fun _=>o⟩
 ·rename_i r;split at d
  ·rename_i e;have b:Z.stP1 i P s=Z.ptP i s:=by unfold Z.stP1;rw [if_neg (by omega),if_neg (by omega),if_neg (by omega),if_pos e]
   have g:Z.jmpP i s.R=0:=by unfold Z.jmpP;rw [if_neg (by omega),if_neg (by omega)]
   rw [b,g,Int.add_zero];have G:zh1 i.Size=true:=by
    unfold zf5 at t;rw [if_neg (by omega),if_neg (by omega),if_neg (by omega),if_pos e] at t;simp only [X3] at t;exact t.2.2.1
   obtain ⟨n,o⟩:=kf3 v x y h f.dst (f.sec r) G d;exact ⟨n,fun _=>o⟩
  ·split at d
   ·rename_i e;cases d;have b:Z.stP1 i P s=(0,s):=by unfold Z.stP1;rw [if_neg (by omega),if_neg (by omega),if_neg (by omega),if_neg (by omega),if_pos e]
    have g:Z.jmpP i s.R=i.Off:=by unfold Z.jmpP;rw [if_pos e]
    rw [b,g];exact ⟨rfl,fun _=>⟨w,Q4.2 rfl,h⟩⟩
   ·split at d
    ·rename_i e;have b:Z.stP1 i P s=(Z.exE s.R,s):=by unfold Z.stP1;rw [if_neg (by omega),if_neg (by omega),if_neg (by omega),if_neg (by omega),if_neg (by omega),if_pos e]
     rw [b];refine ⟨?_,fun q=>absurd e q⟩;unfold jh6 at d;split at d
     ·rename_i J H;obtain ⟨q,_⟩:=yr0 h.least y.2 (h.regs 0 (by decide)) H;show Z.exE s.R=0;unfold Z.exE Z.ask1;rw [show Z.rg s.R 0=s.R.getD 0 Z.dVal from rfl,if_neg (c:=(s.R.getD 0 Z.dVal).kind=0) (by omega),if_neg (c:= ¬(0:Int)=0) (fun q=>q rfl),if_neg (fun z=>z q)]
     ·cases d
    ·split at d
     ·rename_i A B C e;obtain ⟨n,o⟩:=qi3 (P:=P) v x y h ⟨by omega,e⟩ f.dst (f.sec r) d;have g:Z.jmpP i s.R=0:=by unfold Z.jmpP;rw [if_neg (by omega),if_neg (by omega)]
      rw [g,Int.add_zero];exact ⟨n,fun _=>o⟩
     ·rename_i A B C I;have m:17<=i.Op/\i.Op<=27:=by omega
      obtain ⟨n,o⟩:=qi4 v x y h m f.dst (f.sec r) d;have b:Z.stP1 i P s=(Z.brE i s.R,s):=by unfold Z.stP1;rw [if_neg (by omega),if_neg (by omega),if_neg (by omega),if_neg (by omega),if_neg (by omega),if_neg (by omega),if_neg (by omega)]
      have g:Z.jmpP i s.R=if Z.brJ i s.R=true then i.Off else 0:=by unfold Z.jmpP;rw [if_neg (by omega),if_pos m]
      rw [b,g];exact ⟨n,fun _=>o⟩
end Go.Y
namespace Go.Y
open Go.RowKit Go.V Go.X Go.Proofs
def TsN (a:List (Int×Pl)):Prop:= ∀x∈a,0<=x.2.Least
def kl3 {t p} (h:0<=p.Least):TsN [(t,p)]:=fun x a=>by rw [Q4] at a;subst a;exact h
def ql1 {p} (h:0<=p.Least) (r x):0<=(zl0 p r x).Least:=by
 unfold zl0;split
 ·exact h
 ·show 0<=zh7 _ _;unfold zh7;split<;>omega
def gk6 {w} (h:0<=w.Least) (i x y):0<=(vg4 w i x y).Least:=by
 unfold vg4;split
 ·exact ql1 h _ _
 ·split
  ·exact h
  ·exact ql1 (ql1 h _ _) _ _
def zai5 {w} (h:0<=w.Least) {i a c} (e:yv3 w i a=.inl c):TsN c:=by
 unfold yv3 at e;split at e
 ·unfold yu1 at e;split at e
  ·cases e;exact kl3 h
  ·cases e
 ·split at e
  ·unfold ql0 at e;dsimp only at e;split at e
   ·cases e
   ·split at e
    ·cases e
    ·split at e
     ·cases e
     ·split at e
      ·cases e
      ·split at e
       ·cases e;exact kl3 h
       ·cases e
  ·split at e
   ·cases e;exact kl3 h
   ·split at e
    ·unfold jh6 at e;split at e
     ·cases e;intro x b;cases b
     ·cases e
    ·split at e
     ·unfold zq7 at e;dsimp only at e;generalize doK i.Op i.Narrow (w.Regs.getD i.Dst.toNat j7) (if i.Op=13 then ⟨0,0,0⟩ else yl8 w.Regs i)=r at e;by_cases d:r.2=0
      ·rw [if_pos d] at e;cases e;exact kl3 h
      ·rw [if_neg d] at e;cases e
     ·unfold zq8 at e;dsimp only at e;split at e
      ·cases e
      ·split at e
       ·cases e
       ·split at e
        ·cases e
        ·cases e;intro x b;rw [X4] at b;unfold jl6 at b;rcases b with b|b
         ·split at b
          ·rw [Q4] at b;subst b;exact gk6 h _ _ _
          ·cases b
         ·split at b
          ·rw [Q4] at b;subst b;exact gk6 h _ _ _
          ·cases b
def vw0 {l k i} (b:InsOk l k i) {w d} (e:yv3 w i (k:Int)=.inl d): ∀x∈d,(k:Int)+1<=x.1/\x.1<(l.length:Int):=by
 have g:=b.op;have one: ∀p:Pl,i.Op≠28->i.Op≠16-> ∀x∈ [((k:Int)+1,p)],(k:Int)+1<=x.1/\x.1<(l.length:Int):=fun p h j x a=>by
  rw [Q4] at a;subst a;have:=b.next h j;exact ⟨W7 _,by show (k:Int)+1<l.length;omega⟩
 unfold yv3 at e;split at e
 ·unfold yu1 at e;split at e
  ·cases e;exact one _ (by omega) (by omega)
  ·cases e
 ·split at e
  ·unfold ql0 at e;dsimp only at e;split at e
   ·cases e
   ·split at e
    ·cases e
    ·split at e
     ·cases e
     ·split at e
      ·cases e
      ·split at e
       ·cases e;exact one _ (by omega) (by omega)
       ·cases e
  ·split at e
   ·rename_i c;cases e;intro x a;rw [Q4] at a;subst a;have:=b.far (.inl c);exact ⟨by show (k:Int)+1<=k+1+i.Off;omega,this.2⟩
   ·split at e
    ·unfold jh6 at e;split at e
     ·cases e;intro x a;cases a
     ·cases e
    ·split at e
     ·unfold zq7 at e;dsimp only at e;generalize doK i.Op i.Narrow (w.Regs.getD i.Dst.toNat j7) (if i.Op=13 then ⟨0,0,0⟩ else yl8 w.Regs i)=r at e;by_cases f:r.2=0
      ·rw [if_pos f] at e;cases e;exact one _ (by omega) (by omega)
      ·rw [if_neg f] at e;cases e
     ·unfold zq8 at e;dsimp only at e;split at e
      ·cases e
      ·split at e
       ·cases e
       ·split at e
        ·cases e
        ·cases e;intro x a;rw [X4] at a;unfold jl6 at a;have m:=b.far (.inr (by omega));have n:=b.next (by omega) (by omega);rcases a with a|a
         ·split at a
          ·rw [Q4] at a;subst a;exact ⟨W7 _,by show (k:Int)+1<l.length;omega⟩
          ·cases a
         ·split at a
          ·rw [Q4] at a;subst a;exact ⟨by show (k:Int)+1<=k+1+i.Off;omega,m.2⟩
          ·cases a
def qi0: ∀(ts) {a},NOk a->TsN ts->NOk (zd1 a ts)
 | [],_,h,_=>h
 |x::r,_,h,b=>qi0 r (gv0 h _ (b x (by simp))) fun y c=>b y (by simp [c])
def ym2 {s len} (d:0<=len/\len<=65535) (j): ∀(ts) {a},AllOk a->jn4 ts->TsN ts->HoldsP (a.getD j j8) s len->HoldsP ((zd1 a ts).getD j j8) s len
 | [],_,_,_,_,h=>h
 |x::r,_,e,b,f,h=>ym2 d j r (js9 e _ (b x (by simp))) (fun y c=>b y (by simp [c])) (fun y c=>f y (by simp [c])) (gg0 e (b x (by simp)) (f x (by simp)) d h)
def jg4 {s len} (e:0<=len/\len<=65535) {t p} (k:HoldsP p s len): ∀(ts) {a},AllOk a->NOk a->jn4 ts->TsN ts->(t,p)∈ts->t.toNat<a.length->HoldsP ((zd1 a ts).getD t.toNat j8) s len
 | [],_,_,_,_,_,f,_=>by cases f
 |x::r,a,m,n,g,o,f,q=>by
  have b:=js9 m x.1.toNat (g x (by simp));have i:=gv0 n x.1.toNat (o x (by simp));have c:jn4 r:=fun y j=>g y (by simp [j]);have d:TsN r:=fun y j=>o y (by simp [j]);rcases Z0.1 f with h|h
  ·subst h;exact ym2 e _ r b c d (gb0 m n q (g _ (by simp)) e k)
  ·exact jg4 e k r b i c d h (by rw [je3];exact q)
def jn7 (j): ∀(ts a),(∀x∈ts,x.1.toNat≠j)->(zd1 a ts).getD j j8=a.getD j j8
 | [],_,_=>rfl
 |x::r,a,h=>by
  rw [zd1,jn7 j r _ fun y b=>h y (by simp [b])];have c:=h x (by simp);unfold zm3;split<;>rw [ze1,if_neg (fun q=>c q.1)]
section
variable {l:List Ins} (hok:Okay l)
include hok
theorem ju0: ∀(m k a),k+m=l.length->a.length=l.length->AllOk a->NOk a->(zn2 l m k a).2.Err=0->
  (∀j,j<k->(zn2 l m k a).1.getD j j8=a.getD j j8)/\(∀(j:Nat) (s:Z.MS) (len:Int),0<=len/\len<=65535->HoldsP (a.getD j j8) s len->HoldsP ((zn2 l m k a).1.getD j j8) s len)/\
  (∀j,k<=j->j<l.length->((zn2 l m k a).1.getD j j8).Live=true->PlOk ((zn2 l m k a).1.getD j j8)/\ ∃c,yv3 ((zn2 l m k a).1.getD j j8) (l.getD j za1) (j:Int)=.inl c/\ ∀t p (s:Z.MS) (len:Int),0<=len/\len<=65535->(t,p)∈c->HoldsP p s len->HoldsP ((zn2 l m k a).1.getD t.toNat j8) s len)/\(zn2 l m k a).1.length=l.length
 |0,k,a,G,v,_,_,_=>⟨fun _ _=>rfl,fun _ _ _ _ h=>h,fun j D w=>by omega,v⟩
 |m+1,k,a,G,v,n,y,d=>by
  obtain ⟨H,I⟩:=kl4 hok (k:=k) (by omega);rw [zn2] at d⊢;by_cases o:(a.getD k j8).Live=true
  ·rw [if_pos o] at d⊢;have E:=n k o;have A:=y k o;cases ho:yv3 (a.getD k j8) (l.getD k za1) (k:Int) with
   |inr e=>rw [ho] at d;exact absurd d (zaa7 ho)
   |inl c=>
    rw [ho] at d;dsimp only at d⊢;have f:=vl7 E I (k:Int) ho;have g:=zai5 A ho;have q:=vw0 H ho;obtain ⟨r,z,B,C⟩:=ju0 m (k+1) (zd1 a c) (by omega) ((yc1 ..).trans v) (yi7 c n f) (qi0 c y g) d;have same: ∀j,j<=k->(zd1 a c).getD j j8=a.getD j j8:=fun j i=>jn7 j c a fun x J=>by have:=q x J;omega
    refine ⟨fun j i=>(r j (by omega)).trans (same j (by omega)),fun j s len b h=>z j s len b (ym2 b j c n f g h),fun j D w u=>?_,C⟩;by_cases i:j=k
    ·subst i;have K:=(r j (by omega)).trans (same j (W6 _));rw [K];refine ⟨E,c,ho,fun t p s len b F L=>z _ s len b (jg4 b L c n y f g F ?_)⟩;have:=q _ F;dsimp only at this;omega
    ·exact B j (by omega) w u
  ·rw [if_neg o] at d⊢;obtain ⟨r,z,B,C⟩:=ju0 m (k+1) a (by omega) v n y d;refine ⟨fun j i=>r j (by omega),z,fun j D w u=>?_,C⟩;by_cases i:j=k
   ·subst i;rw [r j (by omega)] at u;exact absurd u o
   ·exact B j (by omega) w u
end
def js7 (l): ∀(m k a),(zn2 l m k a).2.Err≠0->(zn2 l m k a).1= []
 |0,k,a,h=>absurd rfl h
 |m+1,k,a,h=>by
  rw [zn2] at h⊢;split at h
  ·rename_i b;rw [if_pos b];cases ho:yv3 (a.getD k j8) (l.getD k za1) (k:Int) with
   |inl c=>rw [ho] at h;exact js7 l m (k+1) _ h
   |inr e=>rfl
  ·rename_i b;rw [if_neg b];exact js7 l m (k+1) _ h
end Go.Y
namespace Go.Y
open Go.RowKit Go.V Go.X Go.Proofs
def vi8 (k:Known):qba v3 k=some (w8 (tk k)):=by
 obtain ⟨n,e⟩: ∃n:Nat,(v3:Nat)=n+1+1:=⟨999999998,rfl⟩;have h:qba (n+1+1) k=some (w8 (tk k)):=by
  rw [un2];simp only [kf7,kh5,uj6,z6,za9];refine congrArg some ?_;simp only [w8,za5,tk,q9,zn0];by_cases h0:k.Kind=0
  ·simp [h0]
  by_cases h4:k.Kind=4
  ·simp [h4]
  by_cases h1:k.Kind=1
  ·simp [h1];rfl
  by_cases h2:k.Kind=2
  ·simp [h2];rfl
  by_cases h3:k.Kind=3
  ·simp [h3];by_cases q:k.In_Lo=k.In_Hi
   ·rw [q]
   ·rw [yh2 q,yh2 (fun z=>q z.symm)]
  simp [h0,h1,h2,h3,h4]
 rw [e];exact h
def kx8 (k:Known) (kd n len:Int):qcb v3 k kd n len=some (za0 (tk k) kd n len):=by
 obtain ⟨m,e⟩: ∃m:Nat,(v3:Nat)=m+1:=⟨999999999,rfl⟩;have h:qcb (m+1) k kd n len=some (za0 (tk k) kd n len):=by
  rw [zab8,vi8,z6];simp only [kj4,za9];refine congrArg some ?_;unfold za0 ya5;simp only [za5];generalize w8 (tk k)=r;cases r with
  |false=>rfl
  |true=>
   show (if k.Kind==0 then true else _)=(if k.Kind==0 then true else _);by_cases h0:k.Kind=0
   ·simp [h0]
   by_cases h4:k.Kind=4
   ·simp [h4,tk];by_cases h1:kd=1<;>by_cases h2:0<=len<;>simp [h1,h2]
   ·simp [h0,h4,tk];by_cases h1:kd=k.Kind<;>by_cases h2:k.In_Lo<=n<;>simp [h1,h2]<;>rfl
 rw [e];exact h
def zae8 (R:List Z.Val) (k:Nat):(R.map Z.rv).getD k qa0=Z.rv (R.getD k Z.dVal):=Z.getR R k
def wg6 {p:Pl} (hp:PlOk p) {s:Z.MS} (hs:Z.MOk s) {P:List Int} (h:HoldsP p s P.length):qo v3 p (s.R.map Z.rv) s.B s.S P=some ((((),(),(),P,()),s.R.map Z.rv,s.B,s.S,()),(true,())):=by
 obtain ⟨n,e⟩: ∃n:Nat,(v3:Nat)=n+1:=⟨999999999,rfl⟩;have hn:999999999=n:=by unfold v3 at e;omega
 have hlR:(s.R.map Z.rv).length=11:=by rw [V3,hs.rl]
 rw [zag2,h.live,W5,z5,hp.regs,show (((11:Nat):Int) != 11)=false from rfl,z5,hp.bytes,show (((512:Nat):Int) != 512)=false from rfl,z5,W4 (by have:=h.least;omega),e,gb9,z5];have l2: ∀(m k q:Nat),k+m=512->2*m+1<=q->ko8 q (k:Int) P (s.R.map Z.rv) s.B s.S true p.Regs p.Bytes p.Least=some ((((),(),(),P,()),s.R.map Z.rv,s.B,s.S,()),(true,())):=by
  intro m;induction m with
  |zero=>
   intro k q hk hq;obtain ⟨q,rfl⟩: ∃j,q=j+1:=⟨q-1,by omega⟩;rw [vc0,W4 (by omega),z5]
  |succ m ih=>
   intro k q hk hq;obtain ⟨q,rfl⟩: ∃j,q=j+1+1:=⟨q-2,by omega⟩;rw [vc0,W3 (by omega),z9,hp.bytes,if_pos (by omega),Z1];cases hb:p.Bytes.getD k false with
   |true=>
    rw [z9,hs.sl,if_pos (by omega),h.bytes k (by omega) hb,W5,qw7,z5,nx (k:=k) (len:=512) (by omega) (by omega)];exact ih (k+1) q (by omega) (by omega)
   |false=>
    rw [z5,qw7,z5,nx (k:=k) (len:=512) (by omega) (by omega)];exact ih (k+1) q (by omega) (by omega)
 have l1: ∀(m k q:Nat),k+m=11->2000+m<=q->km9 q (k:Int) P (s.R.map Z.rv) s.B s.S true p.Regs p.Bytes p.Least=some ((((),(),(),P,()),s.R.map Z.rv,s.B,s.S,()),(true,())):=by
  intro m;induction m with
  |zero=>
   intro k q hk hq;obtain ⟨q,rfl⟩: ∃j,q=j+1:=⟨q-1,by omega⟩;rw [qz4,W4 (by omega),z5];exact l2 512 0 q (by omega) (by omega)
  |succ m ih=>
   intro k q hk hq;obtain ⟨q,rfl⟩: ∃j,q=j+1:=⟨q-1,by omega⟩;have hh:za0 (tk (p.Regs.getD k j7)) (s.R.getD k Z.dVal).kind (s.R.getD k Z.dVal).n P.length=true:=h.regs k (by omega);rw [qz4,W3 (by omega),z9,hp.regs,if_pos (by omega),hlR,if_pos (by omega),if_pos (by omega),Z1,zae8,kx8,z6,Z.rvK,Z.rvN,hh,W5,z5,nx (k:=k) (len:=11) (by omega) (by omega)];exact ih (k+1) q (by omega) (by omega)
 obtain ⟨lv,rs,bs,le⟩:=p;have hlv:lv=true:=h.live;subst hlv;exact l1 11 0 n (by omega) (by omega)
def wm8 (P) (c:P.length<=65535):HoldsP startP (Z.ms0 P) P.length:=by
 refine ⟨rfl,⟨by decide,by show (0:Int)<=P.length;omega⟩,fun k b=>?_,fun k b a=>?_⟩
 ·have:k=0\/k=1\/k=2\/k=3\/k=4\/k=5\/k=6\/k=7\/k=8\/k=9\/k=10:=by omega
  rcases this with rfl|rfl|rfl|rfl|rfl|rfl|rfl|rfl|rfl|rfl|rfl
  ·rfl
  ·rfl
  ·show za0 ⟨4,⟨0,0⟩⟩ 1 (P.length:Int) (P.length:Int)=true;rw [zd6];refine ⟨rfl,.inr (.inl ⟨rfl,rfl,by omega,?_⟩)⟩;rw [zc1 (by omega)]
  ·rfl
  ·rfl
  ·rfl
  ·rfl
  ·rfl
  ·rfl
  ·rfl
  ·rfl
 ·have a:(List.replicate 512 false).getD k false=true:=a;rw [Y2,List.getElem?_replicate] at a;split at a<;>simp at a
def ua3 {l} (d:Okay l) {P} (q:Z.ByteL P) (h:P.length<=3000) {e} (i:e.length=l.length)
  (m: ∀j,j<l.length->(e.getD j j8).Live=true->PlOk (e.getD j j8)/\ ∃v,yv3 (e.getD j j8) (l.getD j za1) (j:Int)=.inl v/\ ∀t p (s:Z.MS) (len:Int),0<=len/\len<=65535->(t,p)∈v->HoldsP p s len->HoldsP (e.getD t.toNat j8) s len):
  ∀(f k n st s),k<l.length->l.length<=k+f->st<=k->2*f<=n->Z.MOk s->Z.KOk s.R->HoldsP (e.getD k j8) s P.length->qn9 n l (k:Int) (st:Int) e P (s.R.map Z.rv) s.B s.S=some true
 |0,k,_,_,_,w,J,_,_,_,_,_=>by omega
 |f+1,k,n,st,s,w,J,T,U,r,o,y=>by
  have V:=d.len;obtain ⟨n,rfl⟩: ∃j,n=j+1+1:=⟨n-2,by omega⟩;obtain ⟨F,u⟩:=kl4 d w;obtain ⟨G,v,H,K⟩:=m k w y.live;obtain ⟨I,L⟩:=ze0 F u G r q (by omega) y H;obtain ⟨M,N,O⟩:=Z.rstep_p (Z.rok u) r o q (by omega);have z:=Z.st_ok (Z.rok u) q r;have A:=Z.st_kok (l.getD k za1) P (s:=s) o;rw [vz1,W3 (by omega),z9,i,if_pos (by omega),Z1,wg6 G r y,z6];dsimp only;rw [W5,z5,if_pos (by omega),N,Z.obind_rout];dsimp only;rw [I,show ((0:Int) != 0)=false from rfl,z5,ka4];by_cases g:(l.getD k za1).Op=28
  ·rw [W3 g,z9];rfl
  ·rw [W4 g,z5];obtain ⟨p,a,C⟩:=L g;have b:=vw0 F H _ a;dsimp only at b;rw [O I];have X:=zx9 _ u;have Q: -32768<=Z.jmpP (l.getD k za1) s.R/\Z.jmpP (l.getD k za1) s.R<=32767:=by
    unfold Z.jmpP;split
    ·omega
    ·split
     ·split<;>omega
     ·omega
   have D:=K _ p _ _ (by omega) a C;obtain ⟨E,c⟩: ∃E:Nat,(k:Int)+1+Z.jmpP (l.getD k za1) s.R=(E:Int):=⟨((k:Int)+1+Z.jmpP (l.getD k za1) s.R).toNat,by omega⟩;rw [u0 (x:=(k:Int)+1) (by omega),u0 (x:=(k:Int)+1+_) (by omega),c,u0 (x:=(st:Int)+1) (by omega),show (st:Int)+1=((st+1:Nat):Int) by omega];rw [c] at D b;rw [Z1] at D;exact ua3 d q h i m f E n (st+1) _ (by omega) (by omega) (by omega) (by omega) z A D
def holds_true (l:List Ins) (P:List Int) (hP:Z.ByteL P):qah v3 l P=some true:=by
 obtain ⟨n,e⟩: ∃n:Nat,(v3:Nat)=n+1:=⟨999999999,rfl⟩;have hn:999999999=n:=by unfold v3 at e;omega
 rw [uw0,we7,z6,W5,z5];by_cases c1:((l.length:Nat):Int)>200
 ·rw [W3 c1,z9,e,jc6,z9]
 rw [W4 c1,z5];by_cases c2:((P.length:Nat):Int)>3000
 ·rw [W3 c2,e,jc6,z9]
 rw [W4 c2,e,jc6,z5,ju8,va1,z6];dsimp only;by_cases he:(zd8 l).2.Err=0
 ·rw [he,show ((0:Int) != 0)=false from rfl,z5,Z.rnew_p P (by omega),z6];dsimp only;unfold zd8 at he⊢;by_cases hc:(yc9 l).Err=0
  ·rw [if_pos hc] at he⊢;have hok:=vy4 hc;have hf:(zm7 l).length=l.length:=by unfold zm7;rw [Q1,Z9]
   have hN:NOk (zm7 l):=by
    intro k hk;unfold zm7 at hk⊢;rw [ze1] at hk⊢;split
    ·decide
    ·rename_i hn;rw [if_neg hn] at hk;rw [Y2,List.getElem?_replicate] at hk;split at hk<;>exact absurd hk (by decide)
   obtain ⟨_,w2,w3,w4⟩:=ju0 hok l.length 0 (zm7 l) (by omega) hf (qx1 l) hN he;have h0:HoldsP ((zm7 l).getD 0 j8) (Z.ms0 P) P.length:=by
    unfold zm7;rw [ze1,if_pos ⟨rfl,by rw [Z9];exact hok.pos⟩];exact wm8 P (by omega)
   have:=ua3 hok hP (by omega) w4 (fun j hj hlv=>w3 j (by omega) hj hlv) l.length 0 n 0 (Z.ms0 P) hok.pos (by omega) (by omega) (by omega) (Z.ms0_ok P (by omega)) (Z.ms0_k P) (w2 0 _ _ (by omega) h0);exact this
  ·rw [if_neg hc] at he;exact absurd he hc
 ·rw [show ((zd8 l).2.Err != 0)=true from bne_iff_ne.2 he,z9];have hnil:(zd8 l).1= []:=by
   unfold zd8 at he⊢;by_cases hc:(yc9 l).Err=0
   ·rw [if_pos hc] at he⊢;exact js7 l _ _ _ he
   ·rw [if_neg hc]
  rw [hnil];rfl
end Go.Y
