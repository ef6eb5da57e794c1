import Derived.Test.YthhhfnfgmijggaaGreatJc
import Derived.Test.YthhhfnfgmijggaaGreatM2
import Derived.Test.YthhhfnfgmijggaaGreatM1
set_option linter.defProp false
namespace Go.Y.Z
open Go.RowKit Go.V Go.X Go.Proofs
def U64 (x:Int):Prop:=0<=x/\x<=18446744073709551615
def jz6 (x):U64 (IntKind.u64.wrap x):=by
 unfold IntKind.wrap U64;simp [IntKind.bits,IntKind.signed];omega
def wu32 (x):0<=IntKind.u32.wrap x/\IntKind.u32.wrap x<=4294967295:=by
 unfold IntKind.wrap;simp [IntKind.bits,IntKind.signed];omega
def zf4 {x} (h:U64 x):IntKind.u64.wrap x=x:=by
 unfold U64 at h;unfold IntKind.wrap;simp [IntKind.bits,IntKind.signed];omega
def doV (k d:IntKind) (c op a b:Int):Int×Int:=
 if op=1 then (k.wrap (a+b),0) else if op=2 then (k.wrap (a-b),0) else if op=3 then (k.wrap (a*b),0) else if op=4 then (k.wrap (a.tdiv b),0) else if op=5 then (a.tmod b,0)
 else if op=6 then (w9 k a b,0) else if op=7 then (bOr k a b,0) else if op=8 then (jb3 k a b,0) else if op=9 then (yd6 k a (b.tmod c),0) else if op=10 then (zb1 k a (b.tmod c),0)
 else if op=11 then (k.wrap (zb1 d (d.wrap a) (b.tmod c)),0) else if op=12 then (b,0) else if op=13 then (k.wrap (0-a),0) else (0,2)
def doW (k d:IntKind) (c op a b:Int):Int×Int:=if (op=4\/op=5)/\b=0 then (0,113) else doV k d c op a b
def zl1 {x m:Int} (a:0<=x): ¬x.tmod m<0:=by
 have:=Int.tmod_nonneg m a;omega
def uh2 (op a b:Int) (hb:0<=b):qb v3 op 32 a b=some (doW .u32 .i32 32 op a b):=by
 obtain ⟨n,e⟩: ∃n:Nat,(v3:Nat)=n+1:=⟨999999999,rfl⟩;have hj: ∀c:Bool,(c=false->(op=4\/op=5)->b≠0)->qp5 (n+1) op c 32 a b=some (if c=true then (0,113) else doV .u32 .i32 32 op a b):=by
  intro c hc;rw [qz7];cases c with
  |true=>rfl
  |false=>
   rw [z8];simp only [gr6,gs5,gs6,gs7,gs8,gs9,gt0,gt1,gt2,gq7,gq8,gq9,gr0,z5,zl1 hb,if_false,U1,show ¬((32:Int)=0) by decide];unfold doV;by_cases h4:op=4
   ·subst h4;have:=hc rfl (.inl rfl);simp only [if_neg this];rfl
   by_cases h5:op=5
   ·subst h5;have:=hc rfl (.inr rfl);simp only [if_neg this];rfl
   simp only [if_neg h4,if_neg h5,if_false,U1,apply_ite some]
 rw [wt3,e];unfold doW;by_cases h4:op=4
 ·subst h4;rw [j6,if_pos (by decide),hj _ (by intro h _ hb;subst hb;cases h)];by_cases h:b=0
  ·subst h;rfl
  ·rw [if_neg (by simpa using h),if_neg (by simp [h])]
 by_cases h5:op=5
 ·subst h5;rw [j6,if_neg (by decide),j6,if_pos (by decide),hj _ (by intro h _ hb;subst hb;cases h)];by_cases h:b=0
  ·subst h;rfl
  ·rw [if_neg (by simpa using h),if_neg (by simp [h])]
 rw [j6,if_neg (by simpa using h4),j6,if_neg (by simpa using h5),hj _ (by intro _ h;exact absurd h (by simp [h4,h5])),if_neg (by simp),if_neg (by simp [h4,h5])]
def uh3 (op a b:Int) (hb:0<=b):qbc v3 op 64 a b=some (doW .u64 .i64 64 op a b):=by
 obtain ⟨n,e⟩: ∃n:Nat,(v3:Nat)=n+1:=⟨999999999,rfl⟩;have hj: ∀c:Bool,(c=false->(op=4\/op=5)->b≠0)->jl3 (n+1) op c 64 a b=some (if c=true then (0,113) else doV .u64 .i64 64 op a b):=by
  intro c hc;rw [qf7];cases c with
  |true=>rfl
  |false=>
   rw [z8];simp only [gr1,gr2,gr3,gr4,gr5,gr7,gr8,gr9,gs0,gs1,gs2,gs3,gs4,z5,zl1 hb,if_false,U1,show ¬((64:Int)=0) by decide];unfold doV;by_cases h4:op=4
   ·subst h4;have:=hc rfl (.inl rfl);simp only [if_neg this];rfl
   by_cases h5:op=5
   ·subst h5;have:=hc rfl (.inr rfl);simp only [if_neg this];rfl
   simp only [if_neg h4,if_neg h5,if_false,U1,apply_ite some]
 rw [gm3,e];unfold doW;by_cases h4:op=4
 ·subst h4;rw [j6,if_pos (by decide),hj _ (by intro h _ hb;subst hb;cases h)];by_cases h:b=0
  ·subst h;rfl
  ·rw [if_neg (by simpa using h),if_neg (by simp [h])]
 by_cases h5:op=5
 ·subst h5;rw [j6,if_neg (by decide),j6,if_pos (by decide),hj _ (by intro h _ hb;subst hb;cases h)];by_cases h:b=0
  ·subst h;rfl
  ·rw [if_neg (by simpa using h),if_neg (by simp [h])]
 rw [j6,if_neg (by simpa using h4),j6,if_neg (by simpa using h5),hj _ (by intro _ h;exact absurd h (by simp [h4,h5])),if_neg (by simp),if_neg (by simp [h4,h5])]
def aluP (op:Int) (nw:Bool) (a b:Int):Int×Int:=
 if nw=true then (IntKind.u64.wrap (doW .u32 .i32 32 op (IntKind.u32.wrap a) (IntKind.u32.wrap b)).1,(doW .u32 .i32 32 op (IntKind.u32.wrap a) (IntKind.u32.wrap b)).2) else doW .u64 .i64 64 op a b
def alu_p (op nw a b) (c:U64 b):qcb v3 op nw a b=some (aluP op nw a b):=by
 rw [vq5];unfold aluP;cases nw with
 |true=>rw [j4,uh2 _ _ _ (wu32 b).1,z5];rfl
 |false=>rw [z8,uh3 _ _ _ c.1,z5];rfl
def kw0 {x m:Int} (a:0<=x/\x<=m) (n:Nat):0<=x.fdiv (2^n)/\x.fdiv (2^n)<=m:=by
 have b:(0:Int)<2^n:=V7 (by decide);rw [T9 _ (J4 b)];have c:=M9 a.1 (J4 b);have d:=T1 (2^n) a.1;omega
def zl7 {c:Prop} [Decidable c] {x y:Int×Int} (a:c->U64 x.1) (b: ¬c->U64 y.1):U64 (if c then x else y).1:=by
 by_cases h:c
 ·rw [if_pos h];exact a h
 ·rw [if_neg h];exact b h
def wf8 {op a b} (d:U64 a) (c:U64 b):U64 (doW .u64 .i64 64 op a b).1:=by
 unfold doW doV;have e:U64 0:=⟨by decide,by decide⟩;have f:b≠0->U64 (a.tmod b):=fun g=>by
  have i:=Int.tmod_nonneg b d.1;have m:=Int.tmod_lt_of_pos a (b:=b) (by have:=c.1;omega);have:=c.2;exact ⟨i,by omega⟩
 refine zl7 (fun _=>e) fun j=>?_;refine zl7 (fun _=>jz6 _) fun _=>?_;refine zl7 (fun _=>jz6 _) fun _=>?_;refine zl7 (fun _=>jz6 _) fun _=>?_;refine zl7 (fun _=>jz6 _) fun _=>?_;refine zl7 (fun k=>f fun h=>j ⟨.inr k,h⟩) fun _=>?_;refine zl7 (fun _=>jz6 _) fun _=>?_;refine zl7 (fun _=>jz6 _) fun _=>?_;refine zl7 (fun _=>jz6 _) fun _=>?_;refine zl7 (fun _=>jz6 _) fun _=>?_;refine zl7 (fun _=>kw0 d _) fun _=>?_;refine zl7 (fun _=>jz6 _) fun _=>?_;refine zl7 (fun _=>c) fun _=>?_;refine zl7 (fun _=>jz6 _) fun _=>?_;exact e
def qv2 {op nw a b} (c:U64 a) (d:U64 b):U64 (aluP op nw a b).1:=by
 unfold aluP;split
 ·exact jz6 _
 ·exact wf8 c d
def qd5 {a b} (c:Prop) [Decidable c] (x y:Option a) (f:a->Option b):z6 (if c then x else y) f=if c then z6 x f else z6 y f:=by split<;>rfl
def isW (c:IntKind) (k:IntKind) (op a b:Int):Bool×Int:=
 if op=17 then (a==b,0) else if op=18 then (a != b,0) else if op=19 then (decide (a>b),0) else if op=20 then (decide (a>=b),0) else if op=21 then (decide (a<b),0) else if op=22 then (decide (a<=b),0)
 else if op=23 then (decide (c.wrap a>c.wrap b),0) else if op=24 then (decide (c.wrap a>=c.wrap b),0) else if op=25 then (decide (c.wrap a<c.wrap b),0) else if op=26 then (decide (c.wrap a<=c.wrap b),0)
 else if op=27 then (w9 k a b != 0,0) else (false,2)
def isP (op:Int) (nw:Bool) (a b:Int):Bool×Int:=if nw=true then isW .i32 .u32 op (IntKind.u32.wrap a) (IntKind.u32.wrap b) else isW .i64 .u64 op a b
def is_p (op nw a b):qel v3 op nw a b=some (isP op nw a b):=by
 rw [zaa5];unfold isP;cases nw with
 |true=>
  rw [j4,zag5,if_pos rfl];unfold isW;simp only [j6,beq_iff_eq,apply_ite some,qd5,z5]
 |false=>
  rw [z8,zag7,if_neg (by decide)];unfold isW;simp only [j6,beq_iff_eq,apply_ite some,qd5,z5]
def ByteL (b:List Int):Prop:= ∀x∈b,0<=x/\x<=255
def ByteL.getD {b} (h:ByteL b) (k):0<=b.getD k 0/\b.getD k 0<=255:=by
 rw [Y2];cases hk:b[k]? with
 |none=>exact ⟨by decide,by decide⟩
 |some x=>exact h x (X6 hk)
def beF (b:List Int):Nat->Nat->Int
 |_,0=>0
 |p,m+1=>b.getD p 0*256^m+beF b (p+1) m
def beF_rng {b} (h:ByteL b): ∀(m p),0<=beF b p m/\beF b p m<256^m
 |0,p=>by simp [beF]
 |m+1,p=>by
  obtain ⟨e,f⟩:=beF_rng h m (p+1);obtain ⟨c,d⟩:=h.getD p;have a:(0:Int)<256^m:=V7 (by decide);rw [beF,Int.pow_succ];have g:=K5 c (J4 a);have i:=R9 d (J4 a);omega
def zam5 (k m x y) (i:m<=k.bits) (j:x%2^m=0) (a:0<=y/\y<2^m):bOr k x y=k.wrap (x%2^k.bits+y):=by
 unfold bOr;congr 1;rw [BitVec.toNat_or,BitVec.toNat_ofInt,BitVec.toNat_ofInt];have s:(2:Int)^m<=2^k.bits:=by exact_mod_cast N4 (by decide) i
 have n:(0:Int)<2^k.bits:=V7 (by decide);have o:y%((2^k.bits:Nat):Int)=y:=by push_cast;exact V8 a.1 (by omega)
 have b:(x%((2^k.bits:Nat):Int))%2^m=0:=by
  push_cast
  rw [Int.emod_emod_of_dvd _ ⟨2^(k.bits-m),by rw [<-Int.pow_add];congr 1;omega⟩];exact j
 have f:0<=x%((2^k.bits:Nat):Int):=R1 _ (by push_cast;omega);rw [o]
 push_cast at b f⊢
 generalize x%2^k.bits=X at b f⊢;obtain ⟨q,g⟩:=Int.dvd_of_emod_eq_zero b;have e:0<=q:=by
  have:(0:Int)<2^m:=V7 (by decide);rcases Int.lt_or_le q 0 with h|h
  ·have:=Int.mul_neg_of_pos_of_neg this h;omega
  ·exact h
 obtain ⟨c,rfl⟩:=R7 e;obtain ⟨d,rfl⟩:=R7 a.1;have p:d<2^m:=by have:=a.2;exact_mod_cast this
 have r:X.toNat=2^m*c:=by rw [g];exact_mod_cast Z1 (2^m*c)
 rw [r,Z1,<-Nat.two_pow_add_eq_or_of_lt p c,g]
 push_cast;rfl
def qo6 (m):(256:Int)^m=2^(8*m):=by rw [Int.pow_mul];rfl
def uj0 {A x m k} (g:k+(m+1)<=8) (i:0<=A/\A<256^k) (j:0<=x/\x<=255):bOr .u64 (A*256^(m+1)) (yd6 .u64 x ((8*m:Nat):Int))=(A*256+x)*256^m:=by
 have f:(0:Int)<256^m:=V7 (by decide);have t:(256:Int)^(k+(m+1))<=256^8:=by
  have h:=N4 (n:=256) (by decide) g;have o:((256^(k+(m+1)):Nat):Int)=(256:Int)^(k+(m+1)):=by rw [Int.natCast_pow];rfl
  have p:((256^8:Nat):Int)=(256:Int)^8:=by rw [Int.natCast_pow];rfl
  rw [<-o,<-p];exact Int.ofNat_le.2 h
 have q:A*256^(m+1)+256^(m+1)<=256^(k+(m+1)):=by
  have e:A*256^(m+1)+256^(m+1)=(A+1)*256^(m+1):=by rw [Int.add_mul,Int.one_mul]
  rw [e,Int.pow_add 256 k (m+1)];exact R9 (by omega) (J4 (V7 (show (0:Int)<256 by decide)))
 have c:0<=A*256^(m+1):=K5 i.1 (J4 (V7 (show (0:Int)<256 by decide)));have a:0<=x*256^m:=K5 j.1 (J4 f);have d:x*256^m<256^(m+1):=by
  rw [Int.pow_succ,Int.mul_comm (256^m) 256];exact Int.mul_lt_mul_of_pos_right (by omega) f
 have u:(256:Int)^8=18446744073709551616:=by decide
 have r:yd6 .u64 x ((8*m:Nat):Int)=x*256^m:=by
  unfold yd6;have b:min (((8*m:Nat):Int)).toNat (IntKind.u64.bits)=8*m:=by
   show min (((8*m:Nat):Int)).toNat 64=8*m;omega
  rw [b,<-qo6];exact zf4 ⟨a,by omega⟩
 rw [r,zam5 .u64 (8*(m+1)) _ _ (by show 8*(m+1)<=64;omega) (by rw [<-qo6];exact Int.mul_emod_left _ _) ⟨a,by rw [<-qo6];exact d⟩];have s:(2:Int)^IntKind.u64.bits=18446744073709551616:=by decide
 rw [s,V8 c (by omega),zf4 ⟨by omega,by omega⟩,Int.pow_succ]
 grind
def gi1 {b} (g:ByteL b) {at_ sz} (c:at_+sz<=b.length) (a:b.length<=1000000000) (d:sz<=8) (e f): ∀(m k A),k+m=sz->0<=A/\A<256^k->
  jx8 m k b e f (A*256^m) (sz:Int) (at_:Int)=some (((b,()),(e,()),(f,()),(A*256^m+beF b (at_+k) m,()),()),.inl ())
 |0,k,A,j,h=>by rw [qt9];simp [beF]
 |m+1,k,A,j,h=>by
  have n:IntKind.i64.wrap ((at_:Int)+(k:Int))=((at_+k:Nat):Int):=by rw [za1 (by omega)];omega
  have o:IntKind.i64.wrap (8*IntKind.i64.wrap (IntKind.i64.wrap ((sz:Int)-1)-(k:Int)))=((8*m:Nat):Int):=by
   rw [za1 (x:=(sz:Int)-1) (by omega),za1 (x:=(sz:Int)-1-(k:Int)) (by omega),za1 (by omega)];omega
  rw [qt8,n,o,if_pos (by omega),if_neg (by omega)];have i:=g.getD (at_+k);have p:IntKind.u64.wrap (b.getD (((at_+k:Nat):Int)).toNat 0)=b.getD (at_+k) 0:=by rw [Z1];exact zf4 ⟨i.1,by omega⟩
  rw [p,uj0 (by omega) h i,gi1 g c a d e f m (k+1) (A*256+b.getD (at_+k) 0) (by omega) ⟨by omega,by rw [Int.pow_succ];omega⟩];rw [beF,Int.pow_succ,show at_+k+1=at_+(k+1) by omega];congr 6
  grind
def vy8:qds v3=some ((),(([false,true,true,false,true,false,false,false,true]:List Bool),())):=ux0 v3
def vd4 (x) (a:0<=x) (b:x<9):([false,true,true,false,true,false,false,false,true]:List Bool).getD x.toNat false=zd0 x:=by
 have:x=0\/x=1\/x=2\/x=3\/x=4\/x=5\/x=6\/x=7\/x=8:=by omega
 rcases this with h|h|h|h|h|h|h|h|h<;>subst h<;>rfl
def ze8 {x} (h:zd0 x=true):x=1\/x=2\/x=4\/x=8:=by
 unfold zd0 at h;simp at h;omega
def yr1 {x} (h:x<0\/9<=x):zd0 x=false:=by
 unfold zd0;simp;omega
def placeP (len at_ a:Int):Int:=if zd0 a=true then (if at_<0\/at_>len-a then 112 else 0) else 2
def ku9 (b:List Int) (at_ size:Int) (hlen:b.length<=1000000000):qaf v3 b at_ size=some ((),if placeP b.length at_ size=0 then .inl () else .inr (placeP b.length at_ size,())):=by
 obtain ⟨n,e⟩: ∃n:Nat,(v3:Nat)=n+1+1:=⟨999999998,rfl⟩;rw [uk7,vy8,z5,e];have hj: ∀s,s= !zd0 size->jx7 (n+1+1) b at_ size s=some ((),if placeP b.length at_ size=0 then .inl () else .inr (placeP b.length at_ size,())):=by
  intro s hs;rw [kf8,hs,j6];cases hz:zd0 size with
  |false=>rw [show placeP b.length at_ size=2 by unfold placeP;rw [hz];rfl];rfl
  |true=>
   have:=ze8 hz;rw [if_neg (by decide),kf7,za1 (by omega),j6,j6];by_cases h1:at_<0
   ·rw [if_pos (by simpa using h1),show placeP b.length at_ size=112 by unfold placeP;rw [if_pos hz,if_pos (.inl h1)]];rfl
   ·rw [if_neg (by simpa using h1)];by_cases h2:at_>(b.length:Int)-size
    ·rw [if_pos (by simpa using h2),show placeP b.length at_ size=112 by unfold placeP;rw [if_pos hz,if_pos (.inr h2)]];rfl
    ·rw [if_neg (by simpa using h2),show placeP b.length at_ size=0 by unfold placeP;rw [if_pos hz,if_neg (by omega)]];rfl
 rw [j6,j6];by_cases h1:size<0
 ·rw [if_pos (by simpa using h1),hj _ (by rw [yr1 (.inl h1)];rfl)]
 ·rw [if_neg (by simpa using h1)];by_cases h2:size>=9
  ·rw [if_pos (by simpa using h2),hj _ (by rw [yr1 (.inr h2)];rfl)]
  ·rw [if_neg (by simpa using h2),if_pos (by omega),hj _ (by rw [vd4 _ (by omega) (by omega)])]
def getP (b:List Int) (at_ a:Int):Int×Int:=if placeP b.length at_ a=0 then (beF b at_.toNat a.toNat,0) else (0,placeP b.length at_ a)
def wq3 (b) (f:ByteL b) (at_ a) (c:b.length<=1000000000):qei v3 b at_ a=some (getP b at_ a):=by
 rw [uz9,uo9,ul6,ku9 b at_ a c];unfold getP;by_cases h:placeP b.length at_ a=0
 ·simp only [if_pos h,z5];have d:zd0 a=true:=by unfold placeP at h;split at h;assumption;cases h
  have i: ¬(at_<0\/at_>(b.length:Int)-a):=by unfold placeP at h;rw [if_pos d] at h;intro g;rw [if_pos g] at h;cases h
  have j:=ze8 d;rw [go9];simp only [z5];rw [j6,if_pos (by simp;omega)];have e:=gi1 f (at_:=at_.toNat) (sz:=a.toNat) (by omega) c (by omega) at_ a a.toNat 0 0 (by omega) ⟨by decide,by decide⟩;rw [show ((a.toNat:Nat):Int)=a by omega,show ((at_.toNat:Nat):Int)=at_ by omega,Int.zero_mul] at e;simp only [e,z5,go0,J5,Int.zero_add]
 ·simp only [if_neg h,z5,go1]
def wo0 {b:List Int} (h:b.length=512):List.take 512 (List.drop 0 b)=b:=by rw [N3,Q5 (by omega)]
def vc6 (v:Int):List Int->Nat->Nat->List Int
 |b,_,0=>b
 |b,p,m+1=>vc6 v (b.set p (v/256^m%256)) (p+1) m
def vc7 (v): ∀(m b p),(vc6 v b p m).length=b.length
 |0,b,p=>rfl
 |m+1,b,p=>by rw [vc6,vc7 v m];simp
def jr6 {v}: ∀(m) {b} (p),ByteL b->ByteL (vc6 v b p m)
 |0,b,p,h=>h
 |m+1,b,p,h=>by
  rw [vc6];refine jr6 m (p+1) fun x a=>?_;rcases M0 a with a|a
  ·exact h x a
  ·subst a;omega
def wu8 (x):IntKind.u8.wrap x=x%256:=by
 unfold IntKind.wrap;simp [IntKind.bits,IntKind.signed]
def gu9 {at_ sz:Nat} (c:at_+sz<=512) (d:sz<=8) (r:List Val) (e:List Bool) (f:List Int) (pc g h v:Int): ∀(m k:Nat) (b:List Int),k+m=sz->
  jx9 m k 0 512 r b e f pc g h v (sz:Int) (at_:Int)=some ((((0,512),()),(r,vc6 v b (at_+k) m,e,f,pc,(),()),(g,()),(h,()),(v,()),()),.inl ())
 |0,k,b,i=>by rw [qu1];rfl
 |m+1,k,b,i=>by
  have j:IntKind.i64.wrap ((at_:Int)+(k:Int))=((at_+k:Nat):Int):=by rw [za1 (by omega)];omega
  have n:IntKind.i64.wrap (8*IntKind.i64.wrap (IntKind.i64.wrap ((sz:Int)-1)-(k:Int)))=((8*m:Nat):Int):=by
   rw [za1 (x:=(sz:Int)-1) (by omega),za1 (x:=(sz:Int)-1-(k:Int)) (by omega),za1 (by omega)];omega
  have o:IntKind.u8.wrap (zb1 .u64 v ((8*m:Nat):Int))=v/256^m%256:=by
   rw [wu8];unfold zb1;have a:min (((8*m:Nat):Int)).toNat (IntKind.u64.bits)=8*m:=by
    show min (((8*m:Nat):Int)).toNat 64=8*m;omega
   rw [a,<-qo6,T9 _ (J4 (V7 (by decide)))]
  rw [qu0,j,n,o,if_neg (by omega),if_pos (by omega),Z1,U2,gu9 c d r e f pc g h v m (k+1) _ (by omega)];rfl
def kv0 (r:List Val) (b:List Int) (se:List Bool) (pk:List Int) (pc at_ size:Int):qap v3 r b se pk pc 0 512 at_ size=some (((r,b,se,pk,pc,(),()),()),if placeP 512 at_ size=0 then .inl () else .inr (placeP 512 at_ size,())):=by
 obtain ⟨n,e⟩: ∃n:Nat,(v3:Nat)=n+1+1:=⟨999999998,rfl⟩;rw [um2,vy8,z5,e];have hj: ∀s,s= !zd0 size->jy0 (n+1+1) 0 512 at_ size s r b se pk pc=some (((r,b,se,pk,pc,(),()),()),if placeP 512 at_ size=0 then .inl () else .inr (placeP 512 at_ size,())):=by
  intro s hs;rw [kg5,hs,j6];cases hz:zd0 size with
  |false=>rw [show placeP 512 at_ size=2 by unfold placeP;rw [hz];rfl];rfl
  |true=>
   have:=ze8 hz;rw [if_neg (by decide),kg4,za1 (by omega),j6,j6];by_cases h1:at_<0
   ·rw [if_pos (by simpa using h1),show placeP 512 at_ size=112 by unfold placeP;rw [if_pos hz,if_pos (.inl h1)]];rfl
   ·rw [if_neg (by simpa using h1)];by_cases h2:at_>512-size
    ·rw [if_pos (by simpa using h2),show placeP 512 at_ size=112 by unfold placeP;rw [if_pos hz,if_pos (.inr h2)]];rfl
    ·rw [if_neg (by simpa using h2),show placeP 512 at_ size=0 by unfold placeP;rw [if_pos hz,if_neg (by omega)]];rfl
 rw [j6,j6];by_cases h1:size<0
 ·rw [if_pos (by simpa using h1),hj _ (by rw [yr1 (.inl h1)];rfl)]
 ·rw [if_neg (by simpa using h1)];by_cases h2:size>=9
  ·rw [if_pos (by simpa using h2),hj _ (by rw [yr1 (.inr h2)];rfl)]
  ·rw [if_neg (by simpa using h2),if_pos (by omega),hj _ (by rw [vd4 _ (by omega) (by omega)])]
def yv6 (b:List Int) (at_ a v:Int):List Int×Int:=if placeP 512 at_ a=0 then (vc6 v b at_.toNat a.toNat,0) else (b,placeP 512 at_ a)
def zar8 (r b c d pc at_ a v):qfs v3 r b c d pc 0 512 at_ a v=some (((r,(yv6 b at_ a v).1,c,d,pc,(),()),()),((yv6 b at_ a v).2,())):=by
 rw [zae5,up5,ul8,kv0 r b c d pc at_ a];unfold yv6;by_cases h:placeP 512 at_ a=0
 ·simp only [if_pos h,z5];have e:zd0 a=true:=by unfold placeP at h;split at h;assumption;cases h
  have i: ¬(at_<0\/at_>512-a):=by unfold placeP at h;rw [if_pos e] at h;intro g;rw [if_pos g] at h;cases h
  have j:=ze8 e;rw [go9];simp only [z5];rw [j6,if_pos (by simp;omega)];have f:=gu9 (at_:=at_.toNat) (sz:=a.toNat) (by omega) (by omega) r c d pc at_ a v a.toNat 0 b (by omega);rw [show ((a.toNat:Nat):Int)=a by omega,show ((at_.toNat:Nat):Int)=at_ by omega] at f;simp only [f,z5,go0,J5]
 ·simp only [if_neg h,z5,go1]
structure MS where
 R:List Val
 B:List Int
 S:List Bool
abbrev rg (R:List Val) (r:Int):Val:=R.getD r.toNat zf1
def ask1 (R:List Val) (r:Int):Int:=if (rg R r).kind=0 then 110 else 0
def secV (i:Ins) (R:List Val):Val:=if i.UseImm=true then ⟨1,IntKind.u64.wrap i.Imm⟩ else rg R i.Src
def secE (i:Ins) (R:List Val):Int:=if i.UseImm=true then 0 else ask1 R i.Src
def bothE (i:Ins) (R:List Val):Int:=if ask1 R i.Dst≠0 then ask1 R i.Dst else secE i R
abbrev OutT:=Option (((List Val×List Int×List Bool×List Int×Int×Unit×Unit)×Unit)×(Int×Unit))
def out (s:MS) (P:List Int) (pc e:Int):OutT:=some (((s.R,s.B,s.S,P,pc,(),()),()),(e,()))
section
variable (R:List Val) (B:List Int) (S:List Bool) (P:List Int) (pc:Int)
theorem we8 (r):qh v3 R B S P pc [r]=if 0<=r/\r<((11:Nat):Int) then z9 ((rg R r).kind==0) (some (((R,B,S,P,pc,(),()),[r],()),((110:Int),()))) (some (((R,B,S,P,pc,(),()),[r],()),((0:Int),()))) else none:=by kernel_rfl
theorem we9 (r q):qh v3 R B S P pc [r,q]=if 0<=r/\r<((11:Nat):Int) then z9 ((rg R r).kind==0) (some (((R,B,S,P,pc,(),()),[r,q],()),((110:Int),()))) (if 0<=q/\q<((11:Nat):Int) then z9 ((rg R q).kind==0) (some (((R,B,S,P,pc,(),()),[r,q],()),((110:Int),()))) (some (((R,B,S,P,pc,(),()),[r,q],()),((0:Int),()))) else none) else none:=by kernel_rfl
theorem we7:qj v3 R B S P pc=some (((R,B,S,P,pc,(),()),()),((0:Int),())):=by kernel_rfl
theorem zz2 {r} (h:0<=r/\r<=10):qh v3 R B S P pc [r]=some (((R,B,S,P,pc,(),()),[r],()),(ask1 R r,())):=by
 rw [we8,if_pos (by omega),j6];unfold ask1;by_cases a:(rg R r).kind=0
 ·rw [if_pos (by simpa using a),if_pos a]
 ·rw [if_neg (by simpa using a),if_neg a]
theorem wf0 {r q} (h:0<=r/\r<=10) (c:0<=q/\q<=10):qh v3 R B S P pc [r,q]=some (((R,B,S,P,pc,(),()),[r,q],()),(if ask1 R r≠0 then ask1 R r else ask1 R q,())):=by
 rw [we9,if_pos (by omega),if_pos (by omega),j6,j6];unfold ask1;by_cases a:(rg R r).kind=0
 ·rw [if_pos (by simpa using a),if_pos a,if_pos (by decide)]
 ·rw [if_neg (by simpa using a),if_neg a,if_neg (show ¬((0:Int)≠0) by decide)];by_cases b:(rg R q).kind=0
  ·rw [if_pos (by simpa using b),if_pos b]
  ·rw [if_neg (by simpa using b),if_neg b]
theorem kj9 {i} (h:i.UseImm=false->0<=i.Src/\i.Src<=10):qdb v3 R B S P pc i=some (((R,B,S,P,pc,(),()),()),(secV i R,secE i R,())):=by
 rw [uu9];unfold secV secE;cases hu:i.UseImm with
 |true=>rw [j6,if_neg (by decide),if_pos rfl,if_pos rfl,qq2,z5,we7,z5]
 |false=>
  have:=h hu;rw [j6,if_pos (by decide),if_pos (by omega),zz2 R B S P pc this,z5,if_neg (by decide),if_neg (by decide)]
theorem jf1 {i} (a:0<=i.Dst/\i.Dst<=10) (h:i.UseImm=false->0<=i.Src/\i.Src<=10):qcz v3 R B S P pc i [i.Dst]=some (((R,B,S,P,pc,(),()),(),()),(secV i R,bothE i R,())):=by
 rw [uu6];unfold secV bothE secE;cases hu:i.UseImm with
 |true=>
  rw [j6,if_neg (by decide),if_pos rfl,if_pos rfl,qq2,z5,zz2 R B S P pc a,z5];by_cases b:ask1 R i.Dst=0
  ·rw [b];rfl
  ·rw [if_pos b]
 |false=>
  have:=h hu;rw [j6,if_pos (by decide),if_pos (by omega),if_pos (by simp),show ([i.Dst]++ [i.Src]:List Int)= [i.Dst,i.Src] from rfl,wf0 R B S P pc a this,z5,if_neg (show ¬(false=true) by decide),if_neg (show ¬(false=true) by decide)]
def mvP (i:Ins) (s:MS):Int×MS:=
 if secE i s.R≠0 then (secE i s.R,s) else if i.Narrow=true/\(secV i s.R).kind≠1 then (114,s)
 else (0,{s with R:=s.R.set i.Dst.toNat ⟨(secV i s.R).kind,if i.Narrow=true then IntKind.u64.wrap (IntKind.u32.wrap (secV i s.R).n) else (secV i s.R).n⟩})
theorem ui6 {i:Ins} (hd:0<=i.Dst/\i.Dst<=10) (h:i.UseImm=false->0<=i.Src/\i.Src<=10):qao v3 R B S P pc i=out (mvP i ⟨R,B,S⟩).2 P pc (mvP i ⟨R,B,S⟩).1:=by
 obtain ⟨n,e⟩: ∃n:Nat,(v3:Nat)=n+1+1:=⟨999999998,rfl⟩;rw [um0,kj9 R B S P pc h,z5,j6];unfold mvP;simp only;by_cases h0:secE i R=0
 ·rw [if_neg (by simpa using h0),if_neg (by simpa using h0),e,j6];cases hn:i.Narrow with
  |true=>
   rw [if_pos rfl,qf1,j6];by_cases hk:(secV i R).kind=1
   ·rw [if_neg (by simpa using hk),j6,if_pos rfl,qf0,if_pos (by omega),if_neg (by simp [hk])];rfl
   ·rw [if_pos (by simpa using hk),if_pos ⟨rfl,hk⟩];rfl
  |false=>
   rw [if_neg (by decide),qf1,j6,if_neg (by decide),j6,if_neg (by decide),qf0,if_pos (by omega),if_neg (by simp)];rfl
 ·rw [if_pos (by simpa using h0),if_pos (by simpa using h0)];rfl
def ngP (i:Ins) (s:MS):Int×MS:=
 if ask1 s.R i.Dst≠0 then (ask1 s.R i.Dst,s) else if (rg s.R i.Dst).kind≠1 then (114,s)
 else ((aluP i.Op i.Narrow (rg s.R i.Dst).n 0).2,{s with R:=s.R.set i.Dst.toNat ⟨(rg s.R i.Dst).kind,(aluP i.Op i.Narrow (rg s.R i.Dst).n 0).1⟩})
theorem zai8 {i} (c:0<=i.Dst/\i.Dst<=10):qfq v3 R B S P pc i=out (ngP i ⟨R,B,S⟩).2 P pc (ngP i ⟨R,B,S⟩).1:=by
 rw [zae1,zz2 R B S P pc c,z5,j6];unfold ngP;simp only;by_cases a:ask1 R i.Dst=0
 ·rw [if_neg (by simpa using a),if_pos (by omega),j6,if_neg (show ¬(ask1 R i.Dst≠0) from fun h=>h a)];by_cases b:(rg R i.Dst).kind=1
  ·rw [if_neg (by simpa using b),if_neg (show ¬((rg R i.Dst).kind≠1) from fun h=>h b),alu_p _ _ _ _ ⟨by decide,by decide⟩,z5];rfl
  ·rw [if_pos (by simpa using b),if_pos b];rfl
 ·rw [if_pos (by simpa using a),if_pos (by simpa using a)];rfl
def frP (n:Int) (i:Ins):Int×Int:=
 let k:=IntKind.i64.wrap (IntKind.i64.wrap (IntKind.u64.wrap (n+IntKind.u64.wrap i.Off))+512)
 if k<0\/k>512-i.Size then (0,112) else (k,0)
theorem vt5 (n i) (c:0<=i.Size/\i.Size<=8):qdp v3 n i=some (frP n i):=by
 rw [uw6,qq2,z5,za1 (x:=512-i.Size) (by omega)];unfold frP;simp only [j6,decide_eq_true_eq];by_cases a:IntKind.i64.wrap (IntKind.i64.wrap (IntKind.u64.wrap (n+IntKind.u64.wrap i.Off))+512)<0
 ·rw [if_pos a,if_pos (.inl a)]
 ·rw [if_neg a];by_cases b:IntKind.i64.wrap (IntKind.i64.wrap (IntKind.u64.wrap (n+IntKind.u64.wrap i.Off))+512)>512-i.Size
  ·rw [if_pos b,if_pos (.inr b)]
  ·rw [if_neg b,if_neg (by omega)]
theorem wq1 {n i} (h:(frP n i).2=0):0<=(frP n i).1/\(frP n i).1<=512-i.Size:=by
 unfold frP at h⊢;simp only at h⊢;split at h
 ·cases h
 ·rename_i a;rw [if_neg a];simp only;omega
def allS (S:List Bool):Nat->Nat->Bool
 |_,0=>true
 |p,m+1=>S.getD p false&&allS S (p+1) m
def ldP (i:Ins) (P:List Int) (s:MS):Int×MS:=
 if ask1 s.R i.Src≠0 then (ask1 s.R i.Src,s) else if (rg s.R i.Src).kind=1 then (111,s)
 else if (rg s.R i.Src).kind=2 then
  (if (getP P (IntKind.i64.wrap (IntKind.u64.wrap ((rg s.R i.Src).n+IntKind.u64.wrap i.Off))) i.Size).2≠0 then ((getP P (IntKind.i64.wrap (IntKind.u64.wrap ((rg s.R i.Src).n+IntKind.u64.wrap i.Off))) i.Size).2,s)
   else (0,{s with R:=s.R.set i.Dst.toNat ⟨1,(getP P (IntKind.i64.wrap (IntKind.u64.wrap ((rg s.R i.Src).n+IntKind.u64.wrap i.Off))) i.Size).1⟩}))
 else if (frP (rg s.R i.Src).n i).2≠0 then ((frP (rg s.R i.Src).n i).2,s)
 else if allS s.S (frP (rg s.R i.Src).n i).1.toNat i.Size.toNat=false then (110,s)
 else (0,{s with R:=s.R.set i.Dst.toNat ⟨1,beF s.B (frP (rg s.R i.Src).n i).1.toNat i.Size.toNat⟩})
theorem vu3 (i:Ins) (e:0<=i.Dst/\i.Dst<=10) (a:zd0 i.Size=true) (c:ByteL B) (d:B.length=512) (p:Nat) (f:(p:Int)<=512-i.Size): ∀(m k n:Nat),(k:Int)+m=i.Size->m+2<=n->
  qp1 n (p:Int) i.Size (k:Int) R B S P pc i.Op i.Narrow i.Dst i.Src i.UseImm i.Off i.Imm i.Size=
   if allS S (p+k) m=false then out ⟨R,B,S⟩ P pc 110 else out ⟨R.set i.Dst.toNat ⟨1,beF B p i.Size.toNat⟩,B,S⟩ P pc 0
 |0,k,n,g,h=>by
  obtain ⟨n,rfl⟩: ∃b,n=b+1+1:=⟨n-2,by omega⟩;have j:=ze8 a;rw [qe8,j6,if_neg (by simp;omega),wo0 d,wq3 B c _ _ (by omega),z5,qe7,if_pos (by omega)];have:placeP B.length (p:Int) i.Size=0:=by unfold placeP;rw [if_pos a,if_neg (by omega)]
  unfold getP;rw [if_pos this,if_neg (by simp [allS])];rfl
 |m+1,k,n,g,h=>by
  obtain ⟨n,rfl⟩: ∃b,n=b+1:=⟨n-1,by omega⟩;have j:=ze8 a;have o:IntKind.i64.wrap ((p:Int)+(k:Int))=((p+k:Nat):Int):=by rw [za1 (by omega)];omega
  have q:IntKind.i64.wrap ((k:Int)+1)=((k+1:Nat):Int):=by rw [za1 (by omega)];omega
  rw [qe8,j6,if_pos (by simp;omega),o,q,if_pos (by omega),Z1,j6,allS];cases hb:S.getD (p+k) false with
  |false=>rw [if_pos (by decide),if_pos (by simp)];rfl
  |true=>
   rw [if_neg (by decide),vu3 i e a c d p f m (k+1) n (by omega) (by omega),N8,show p+k+1=p+(k+1) by omega]
theorem ui4 {i:Ins} (hd:0<=i.Dst/\i.Dst<=10) (hs:0<=i.Src/\i.Src<=10) (hz:zd0 i.Size=true) (hB:ByteL B) (hl:B.length=512) (hP:ByteL P) (hPl:P.length<=65535):
  qai v3 R B S P pc i=out (ldP i P ⟨R,B,S⟩).2 P pc (ldP i P ⟨R,B,S⟩).1:=by
 obtain ⟨n,e⟩: ∃n:Nat,(v3:Nat)=n+20:=⟨999999980,rfl⟩;have hc:=ze8 hz;rw [ul0,zz2 R B S P pc hs,z5,j6];unfold ldP;simp only;by_cases h0:ask1 R i.Src=0
 ·rw [if_neg (by simpa using h0),if_pos (by omega),j6,if_neg (show ¬(ask1 R i.Src≠0) from fun h=>h h0)];by_cases hk:(rg R i.Src).kind=1
  ·rw [if_pos (by simpa using hk),if_pos hk];rfl
  ·rw [if_neg (by simpa using hk),if_neg hk,j6];by_cases hk2:(rg R i.Src).kind=2
   ·rw [if_pos (by simpa using hk2),if_pos hk2,qq2,z5,wq3 P hP _ _ (by omega),z5,j6];by_cases h2:(getP P (IntKind.i64.wrap (IntKind.u64.wrap ((rg R i.Src).n+IntKind.u64.wrap i.Off))) i.Size).2=0
    ·rw [if_neg (by simpa using h2),if_neg (by simpa using h2),e,qe7,if_pos (by omega)];rfl
    ·rw [if_pos (by simpa using h2),if_pos h2];rfl
   ·rw [if_neg (by simpa using hk2),if_neg hk2,vt5 _ _ (by omega),z5,j6];by_cases h2:(frP (rg R i.Src).n i).2=0
    ·rw [if_neg (by simpa using h2),if_neg (by simpa using h2)];have hf:=wq1 h2;have:=vu3 R B S P pc i hd hz hB hl (frP (rg R i.Src).n i).1.toNat (by omega) i.Size.toNat 0 (n+20) (by omega) (by omega);rw [show (((frP (rg R i.Src).n i).1.toNat:Nat):Int)=(frP (rg R i.Src).n i).1 by omega] at this;rw [e];refine this.trans ?_;rw [J5];split<;>rfl
    ·rw [if_pos (by simpa using h2),if_pos h2];rfl
 ·rw [if_pos (by simpa using h0),if_pos (by simpa using h0)];rfl
def setS:List Bool->Nat->Nat->List Bool
 |S,_,0=>S
 |S,p,m+1=>setS (S.set p true) (p+1) m
def ptP (i:Ins) (s:MS):Int×MS:=
 if bothE i s.R≠0 then (bothE i s.R,s) else if (rg s.R i.Dst).kind=2 then (114,s)
 else if (rg s.R i.Dst).kind=1\/(secV i s.R).kind≠1 then (111,s)
 else if (frP (rg s.R i.Dst).n i).2≠0 then ((frP (rg s.R i.Dst).n i).2,s)
 else (0,{s with B:=vc6 (secV i s.R).n s.B (frP (rg s.R i.Dst).n i).1.toNat i.Size.toNat,S:=setS s.S (frP (rg s.R i.Dst).n i).1.toNat i.Size.toNat})
theorem gk3 (i:Ins) (b:zd0 i.Size=true) (a v:Int) (p:Nat) (d:(p:Int)<=512-i.Size): ∀(m k n:Nat) (S:List Bool),(k:Int)+m=i.Size->m+2<=n->
  qp3 n (p:Int) i.Size (k:Int) R B S P pc i.Op i.Narrow i.Dst i.Src i.UseImm i.Off i.Imm i.Size a v=out ⟨R,vc6 v B p i.Size.toNat,setS S (p+k) m⟩ P pc 0
 |0,k,n,S,e,f=>by
  obtain ⟨n,rfl⟩: ∃c,n=c+1+1:=⟨n-2,by omega⟩;have g:=ze8 b;have:placeP 512 (p:Int) i.Size=0:=by unfold placeP;rw [if_pos b,if_neg (by omega)]
  rw [qe9,j6,if_neg (by simp;omega),zar8,z5];unfold yv6;rw [if_pos this];rfl
 |m+1,k,n,S,e,f=>by
  obtain ⟨n,rfl⟩: ∃c,n=c+1:=⟨n-1,by omega⟩;have g:=ze8 b;have h:IntKind.i64.wrap ((p:Int)+(k:Int))=((p+k:Nat):Int):=by rw [za1 (by omega)];omega
  have j:IntKind.i64.wrap ((k:Int)+1)=((k+1:Nat):Int):=by rw [za1 (by omega)];omega
  rw [qe9,j6,if_pos (by simp;omega),h,j,if_pos (by omega),Z1,gk3 i b a v p d m (k+1) n _ (by omega) (by omega)];rfl
theorem zan1 {i:Ins} (hd:0<=i.Dst/\i.Dst<=10) (h:i.UseImm=false->0<=i.Src/\i.Src<=10) (hz:zd0 i.Size=true):qaj v3 R B S P pc i=out (ptP i ⟨R,B,S⟩).2 P pc (ptP i ⟨R,B,S⟩).1:=by
 obtain ⟨n,e⟩: ∃n:Nat,(v3:Nat)=n+20+1:=⟨999999979,rfl⟩;have hc:=ze8 hz;rw [ul2,jf1 R B S P pc hd h,z5,if_pos (by omega),j6];unfold ptP;simp only;by_cases h0:bothE i R=0
 ·rw [if_neg (by simpa using h0),if_neg (by simpa using h0),j6];by_cases hk2:(rg R i.Dst).kind=2
  ·rw [if_pos (by simpa using hk2),if_pos hk2];rfl
  ·rw [if_neg (by simpa using hk2),if_neg hk2,j6];have hj: ∀s,qp2 (n+20+1) s R B S P pc i.Op i.Narrow i.Dst i.Src i.UseImm i.Off i.Imm i.Size (secV i R).kind (secV i R).n (rg R i.Dst).kind (rg R i.Dst).n=
     if s=true then out ⟨R,B,S⟩ P pc 111 else if (frP (rg R i.Dst).n i).2≠0 then out ⟨R,B,S⟩ P pc (frP (rg R i.Dst).n i).2 else out ⟨R,vc6 (secV i R).n B (frP (rg R i.Dst).n i).1.toNat i.Size.toNat,setS S (frP (rg R i.Dst).n i).1.toNat i.Size.toNat⟩ P pc 0:=by
    intro s;rw [kg1,j6];cases s with
    |true=>rw [if_pos rfl,if_pos rfl];rfl
    |false=>
     rw [if_neg (by decide),if_neg (by decide),vt5 _ _ (by simp only;omega),z5,j6];have ef:frP (rg R i.Dst).n ⟨i.Op,i.Narrow,i.Dst,i.Src,i.UseImm,i.Off,i.Imm,i.Size⟩=frP (rg R i.Dst).n i:=rfl;rw [ef];by_cases h2:(frP (rg R i.Dst).n i).2=0
     ·rw [if_neg (by simpa using h2),if_neg (by simpa using h2)];have hf:=wq1 h2;have:=gk3 R B P pc i hz (secV i R).kind (secV i R).n (frP (rg R i.Dst).n i).1.toNat (by omega) i.Size.toNat 0 (n+20) S (by omega) (by omega);rw [show (((frP (rg R i.Dst).n i).1.toNat:Nat):Int)=(frP (rg R i.Dst).n i).1 by omega] at this;exact this
     ·rw [if_pos (by simpa using h2),if_pos h2];rfl
   rw [e];by_cases hk:(rg R i.Dst).kind=1
   ·rw [if_pos (by simpa using hk),hj,if_pos rfl,if_pos (.inl hk)]
   ·rw [if_neg (by simpa using hk),hj];by_cases hv:(secV i R).kind=1
    ·rw [if_neg (by simpa using hv),if_neg (show ¬((rg R i.Dst).kind=1\/(secV i R).kind≠1) from fun h=>h.elim hk fun h=>h hv)];split<;>rfl
    ·rw [if_pos (by simpa using hv),if_pos (.inr hv)]
 ·rw [if_pos (by simpa using h0),if_pos (by simpa using h0)];rfl
def rkP (i:Ins) (s:MS):Int×MS:=
 if bothE i s.R≠0 then (bothE i s.R,s)
 else if (secV i s.R).kind≠1\/(rg s.R i.Dst).kind≠1/\ ¬((i.Op=1\/i.Op=2)/\i.Narrow=false) then (114,s)
 else if (aluP i.Op i.Narrow (rg s.R i.Dst).n (secV i s.R).n).2=0 then (0,{s with R:=s.R.set i.Dst.toNat ⟨(rg s.R i.Dst).kind,(aluP i.Op i.Narrow (rg s.R i.Dst).n (secV i s.R).n).1⟩})
 else ((aluP i.Op i.Narrow (rg s.R i.Dst).n (secV i s.R).n).2,s)
theorem ge1 {i:Ins} (hd:0<=i.Dst/\i.Dst<=10) (h:i.UseImm=false->0<=i.Src/\i.Src<=10) (hv:U64 (secV i R).n):qae v3 R B S P pc i=out (rkP i ⟨R,B,S⟩).2 P pc (rkP i ⟨R,B,S⟩).1:=by
 obtain ⟨n,e⟩: ∃n:Nat,(v3:Nat)=n+1+1:=⟨999999998,rfl⟩;rw [uk5,jf1 R B S P pc hd h,z5,j6];unfold rkP;simp only;by_cases h0:bothE i R=0
 ·rw [if_neg (by simpa using h0),if_pos (by omega),if_neg (show ¬(bothE i R≠0) from fun h=>h h0)];have j1: ∀s,jx6 (n+1) i.Dst.toNat s R B S P pc i.Op i.Narrow i.Dst i.Src i.UseImm i.Off i.Imm i.Size (secV i R).kind (secV i R).n=
    if s=true then out ⟨R,B,S⟩ P pc 114 else if (aluP i.Op i.Narrow (rg R i.Dst).n (secV i R).n).2=0 then out ⟨R.set i.Dst.toNat ⟨(rg R i.Dst).kind,(aluP i.Op i.Narrow (rg R i.Dst).n (secV i R).n).1⟩,B,S⟩ P pc 0 else out ⟨R,B,S⟩ P pc (aluP i.Op i.Narrow (rg R i.Dst).n (secV i R).n).2:=by
   intro s;rw [kf6,j6];cases s with
   |true=>rfl
   |false=>
    rw [if_neg (by decide),if_neg (by decide),alu_p _ _ _ _ hv,z5,j6];by_cases h2:(aluP i.Op i.Narrow (rg R i.Dst).n (secV i R).n).2=0
    ·rw [if_pos (by simpa using h2),if_pos h2,h2];rfl
    ·rw [if_neg (by simpa using h2),if_neg h2];rfl
  have j0: ∀mv:Bool,(mv=true↔(i.Op=1\/i.Op=2)/\i.Narrow=false)->jx5 (n+1+1) i.Dst.toNat mv R B S P pc i.Op i.Narrow i.Dst i.Src i.UseImm i.Off i.Imm i.Size (secV i R).kind (secV i R).n=
    if (secV i R).kind≠1\/(rg R i.Dst).kind≠1/\ ¬((i.Op=1\/i.Op=2)/\i.Narrow=false) then out ⟨R,B,S⟩ P pc 114 else if (aluP i.Op i.Narrow (rg R i.Dst).n (secV i R).n).2=0 then out ⟨R.set i.Dst.toNat ⟨(rg R i.Dst).kind,(aluP i.Op i.Narrow (rg R i.Dst).n (secV i R).n).1⟩,B,S⟩ P pc 0 else out ⟨R,B,S⟩ P pc (aluP i.Op i.Narrow (rg R i.Dst).n (secV i R).n).2:=by
   intro mv hmv;rw [kf5,j6,j6,j1,j1,j1];by_cases hk:(secV i R).kind=1
   ·rw [if_neg (by simpa using hk)];by_cases hr:(rg R i.Dst).kind=1
    ·rw [if_neg (by simpa using hr),if_neg (show ¬(false=true) by decide),if_neg (show ¬((secV i R).kind≠1\/(rg R i.Dst).kind≠1/\ ¬((i.Op=1\/i.Op=2)/\i.Narrow=false)) from fun h=>h.elim (fun h=>h hk) fun h=>h.1 hr)]
    ·rw [if_pos (by simpa using hr)];cases mv with
     |true=>rw [if_neg (show ¬((!true)=true) by decide),if_neg (show ¬((secV i R).kind≠1\/(rg R i.Dst).kind≠1/\ ¬((i.Op=1\/i.Op=2)/\i.Narrow=false)) from fun h=>h.elim (fun h=>h hk) fun h=>h.2 (hmv.1 rfl))]
     |false=>rw [if_pos (show (!false)=true by decide),if_pos (show ((secV i R).kind≠1\/(rg R i.Dst).kind≠1/\ ¬((i.Op=1\/i.Op=2)/\i.Narrow=false)) from .inr ⟨hr,fun h=>absurd (hmv.2 h) (by decide)⟩)]
   ·rw [if_pos (by simpa using hk),if_pos (show true=true from rfl),if_pos (show ((secV i R).kind≠1\/(rg R i.Dst).kind≠1/\ ¬((i.Op=1\/i.Op=2)/\i.Narrow=false)) from .inl hk)]
  have fin:(if (secV i R).kind≠1\/(rg R i.Dst).kind≠1/\ ¬((i.Op=1\/i.Op=2)/\i.Narrow=false) then out ⟨R,B,S⟩ P pc 114 else if (aluP i.Op i.Narrow (rg R i.Dst).n (secV i R).n).2=0 then out ⟨R.set i.Dst.toNat ⟨(rg R i.Dst).kind,(aluP i.Op i.Narrow (rg R i.Dst).n (secV i R).n).1⟩,B,S⟩ P pc 0 else out ⟨R,B,S⟩ P pc (aluP i.Op i.Narrow (rg R i.Dst).n (secV i R).n).2)=
    out (if (secV i R).kind≠1\/(rg R i.Dst).kind≠1/\ ¬((i.Op=1\/i.Op=2)/\i.Narrow=false) then ((114:Int),(⟨R,B,S⟩:MS)) else if (aluP i.Op i.Narrow (rg R i.Dst).n (secV i R).n).2=0 then (0,⟨R.set i.Dst.toNat ⟨(rg R i.Dst).kind,(aluP i.Op i.Narrow (rg R i.Dst).n (secV i R).n).1⟩,B,S⟩) else ((aluP i.Op i.Narrow (rg R i.Dst).n (secV i R).n).2,⟨R,B,S⟩)).2 P pc
     (if (secV i R).kind≠1\/(rg R i.Dst).kind≠1/\ ¬((i.Op=1\/i.Op=2)/\i.Narrow=false) then ((114:Int),(⟨R,B,S⟩:MS)) else if (aluP i.Op i.Narrow (rg R i.Dst).n (secV i R).n).2=0 then (0,⟨R.set i.Dst.toNat ⟨(rg R i.Dst).kind,(aluP i.Op i.Narrow (rg R i.Dst).n (secV i R).n).1⟩,B,S⟩) else ((aluP i.Op i.Narrow (rg R i.Dst).n (secV i R).n).2,⟨R,B,S⟩)).1:=by
   split
   ·rfl
   ·split<;>rfl
  rw [e,j6,j6];refine Eq.trans ?_ fin;by_cases h1:i.Op=1
  ·rw [if_pos (by simpa using h1)];exact j0 _ (by cases i.Narrow<;>simp [h1])
  ·rw [if_neg (by simpa using h1)];by_cases h2:i.Op=2
   ·rw [if_pos (by simpa using h2)];exact j0 _ (by cases i.Narrow<;>simp [h2])
   ·rw [if_neg (by simpa using h2)];exact j0 _ (by simp [h1,h2])
 ·rw [if_pos (by simpa using h0),if_pos (by simpa using h0)];rfl
def brE (i:Ins) (R:List Val):Int:=if bothE i R≠0 then bothE i R else if (rg R i.Dst).kind≠1\/(secV i R).kind≠1 then 111 else 0
def brJ (i:Ins) (R:List Val):Bool:=decide (brE i R=0)&&(isP i.Op i.Narrow (rg R i.Dst).n (secV i R).n).1
theorem ku5 {i:Ins} (hd:0<=i.Dst/\i.Dst<=10) (h:i.UseImm=false->0<=i.Src/\i.Src<=10):qbm v3 R B S P pc i=out ⟨R,B,S⟩ P (if brJ i R=true then IntKind.i64.wrap (pc+i.Off) else pc) (brE i R):=by
 obtain ⟨n,e⟩: ∃n:Nat,(v3:Nat)=n+1:=⟨999999999,rfl⟩;rw [up3,jf1 R B S P pc hd h,z5,if_pos (by omega),j6];by_cases h0:bothE i R=0
 ·have j: ∀s,qp7 (n+1) s R B S P pc i.Op i.Narrow i.Dst i.Src i.UseImm i.Off i.Imm i.Size (secV i R).kind (secV i R).n (rg R i.Dst).kind (rg R i.Dst).n=
    if s=true then out ⟨R,B,S⟩ P pc 111 else out ⟨R,B,S⟩ P (if (isP i.Op i.Narrow (rg R i.Dst).n (secV i R).n).1=true then IntKind.i64.wrap (pc+i.Off) else pc) 0:=by
   intro s;rw [ki0,j6];cases s with
   |true=>rw [if_pos rfl,if_pos rfl];rfl
   |false=>
    rw [if_neg (by decide),if_neg (by decide),is_p,z5,j6];split<;>rfl
  have bad:(rg R i.Dst).kind≠1\/(secV i R).kind≠1->brE i R=111/\brJ i R=false:=fun hb=>by
   have e1:brE i R=111:=by unfold brE;rw [if_neg (fun h=>h h0),if_pos hb]
   exact ⟨e1,by unfold brJ;rw [e1];rfl⟩
  rw [if_neg (show ¬((bothE i R != 0)=true) by simpa using h0),e,j6];by_cases hk:(rg R i.Dst).kind=1
  ·rw [if_neg (show ¬(((rg R i.Dst).kind != 1)=true) by rw [bne_iff_ne];exact fun h=>h hk),j];by_cases hv:(secV i R).kind=1
   ·have e1:brE i R=0:=by unfold brE;rw [if_neg (fun h=>h h0),if_neg (fun h=>h.elim (fun h=>h hk) fun h=>h hv)]
    have e2:brJ i R=(isP i.Op i.Narrow (rg R i.Dst).n (secV i R).n).1:=by unfold brJ;rw [e1];rfl
    rw [if_neg (show ¬(((secV i R).kind != 1)=true) by rw [bne_iff_ne];exact fun h=>h hv),e1,e2]
   ·obtain ⟨e1,e2⟩:=bad (.inr hv);rw [if_pos (show ((secV i R).kind != 1)=true by simp only [bne_iff_ne,ne_eq];exact hv),e1,e2];rfl
  ·obtain ⟨e1,e2⟩:=bad (.inl hk);rw [if_pos (show ((rg R i.Dst).kind != 1)=true by simp only [bne_iff_ne,ne_eq];exact hk),j,if_pos (show true=true from rfl),e1,e2];rfl
 ·have e1:brE i R=bothE i R:=by unfold brE;rw [if_pos h0]
  have e2:brJ i R=false:=by unfold brJ;rw [e1];simp [h0]
  rw [if_pos (show (bothE i R != 0)=true by simp only [bne_iff_ne,ne_eq];exact h0),e1,e2];rfl
def exE (R:List Val):Int:=if ask1 R 0≠0 then ask1 R 0 else if (rg R 0).kind≠1 then 111 else 0
theorem wg1 (i) (h:exE R≠0):qeg v3 R B S P pc i=out ⟨R,B,S⟩ P pc (exE R):=by
 rw [uz5,zz2 R B S P pc (by decide),z5,j6];unfold exE at h⊢;by_cases a:ask1 R 0=0
 ·rw [if_neg (by simpa using a)] at h⊢;rw [if_neg (by simpa using a),j6];by_cases b:(rg R 0).kind=1
  ·rw [if_neg (by simpa using b)] at h;exact absurd rfl h
  ·have c:((R.getD 0 zf1).kind != 1)=true:=by simpa using b
   rw [if_pos c,if_pos b];rfl
 ·rw [if_pos (by simpa using a),if_pos (by simpa using a)];rfl
theorem wg2 (i) (h:exE R=0):qeh v3 R B S P pc i=some (((R,B,S,P,pc,0,()),()),((0:Int),())):=by
 rw [uz7,zz2 R B S P pc (by decide),z5,j6];unfold exE at h;by_cases a:ask1 R 0=0
 ·rw [if_neg (by simpa using a)] at h;rw [if_neg (by simpa using a),j6];by_cases c:(rg R 0).kind=1
  ·have b: ¬((R.getD 0 zf1).kind != 1)=true:=by simpa using c
   rw [if_neg b]
  ·rw [if_pos c] at h;cases h
 ·rw [if_pos (by simpa using a)] at h;exact absurd h a
theorem wg3:(match qh v3 R B S P pc [0] with|some c=>((c.2.1 != (0:Int))||(((R.getD 0 zf1).kind) != (1:Int)))|none=>false)=decide (exE R≠0):=by
 rw [zz2 R B S P pc (by decide)];unfold exE;by_cases b:ask1 R 0=0
 ·have e:(ask1 R 0 != 0)=false:=by simpa using b
  simp only [e,Bool.false_or,b];rw [if_neg (show ¬((0:Int)≠0) by decide)];by_cases a:(rg R 0).kind=1
  ·rw [if_neg (show ¬((rg R 0).kind≠1) from fun h=>h a),show ((R.getD 0 zf1).kind != 1)=false by rw [bne_eq_false_iff_eq];exact a];rfl
  ·rw [if_pos (show (rg R 0).kind≠1 from a),show ((R.getD 0 zf1).kind != 1)=true by rw [bne_iff_ne];exact a];rfl
 ·simp [b]
end
structure MOk (s:MS):Prop where
 rl:s.R.length=11
 ru: ∀v∈s.R,U64 v.n
 bl:s.B.length=512
 bb:ByteL s.B
 sl:s.S.length=512
def MOk.rg {s} (h:MOk s) (r):U64 (rg s.R r).n:=by
 show U64 (s.R.getD r.toNat zf1).n;rw [Y2];cases hk:s.R[r.toNat]? with
 |none=>exact ⟨by decide,by decide⟩
 |some x=>exact h.ru x (X6 hk)
def MOk.secV {s} (h:MOk s) (i):U64 (secV i s.R).n:=by
 unfold Go.Y.Z.secV;split
 ·exact jz6 _
 ·exact h.rg _
def MOk.setR {s} (h:MOk s) (d:Int) {v} (b:U64 v.n):MOk {s with R:=s.R.set d.toNat v}:=by
 refine ⟨by simp [h.rl],fun x a=>?_,h.bl,h.bb,h.sl⟩;rcases M0 a with a|a
 ·exact h.ru x a
 ·subst a;exact b
def vc9: ∀(m S p),(setS S p m).length=S.length
 |0,S,p=>rfl
 |m+1,S,p=>by rw [setS,vc9 m];simp
def gg8 {b} (h:ByteL b) {m} (a:m<=8) (p):U64 (beF b p m):=by
 obtain ⟨c,f⟩:=beF_rng h m p;have g:(256:Int)^m<=256^8:=by
  have h:=N4 (n:=256) (by decide) a;have d:((256^m:Nat):Int)=(256:Int)^m:=by rw [Int.natCast_pow];rfl
  have e:((256^8:Nat):Int)=(256:Int)^8:=by rw [Int.natCast_pow];rfl
  rw [<-d,<-e];exact Int.ofNat_le.2 h
 have i:(256:Int)^8=18446744073709551616:=by decide
 exact ⟨c,by omega⟩
def stP1 (i:Ins) (P:List Int) (s:MS):Int×MS:=
 if i.Op=12 then mvP i s else if i.Op=13 then ngP i s else if i.Op=14 then ldP i P s else if i.Op=15 then ptP i s else if i.Op=16 then (0,s) else if i.Op=28 then (exE s.R,s) else if i.Op<12 then rkP i s else (brE i s.R,s)
def jmpP (i:Ins) (R:List Val):Int:=if i.Op=16 then i.Off else if 17<=i.Op/\i.Op<=27 then (if brJ i R=true then i.Off else 0) else 0
structure ROk (i:Ins):Prop where
 op:1<=i.Op/\i.Op<=28
 off: -32768<=i.Off/\i.Off<=32767
 dst:i.Op≠16->i.Op≠28->0<=i.Dst/\i.Dst<=10
 src:i.Op≠13->i.Op≠16->i.Op≠28->i.UseImm=false->0<=i.Src/\i.Src<=10
 sz:i.Op=14\/i.Op=15->zd0 i.Size=true
 ni:i.Op=14->i.UseImm=false
def rok {i} (h:zg2 i=true):ROk i:=by
 have a:=zy7 i h;unfold zg2 zk6 jo3 yd5 at h;refine ⟨⟨a.2.2.1,a.2.2.2⟩,⟨a.1,a.2.1⟩,?_,?_,?_,?_⟩<;>grind
def st_ok {i:Ins} (c:ROk i) {P:List Int} (d:ByteL P) {s:MS} (h:MOk s):MOk (stP1 i P s).2:=by
 have b:U64 0:=⟨by decide,by decide⟩;unfold stP1;split
 ·unfold mvP;split
  ·exact h
  ·split
   ·exact h
   ·exact h.setR _ (by simp only;split;exact jz6 _;exact h.secV i)
 split
 ·unfold ngP;split
  ·exact h
  ·split
   ·exact h
   ·exact h.setR _ (qv2 (h.rg _) b)
 split
 ·rename_i a;have e:=ze8 (c.sz (.inl a));unfold ldP;split
  ·exact h
  split
  ·exact h
  split
  ·split
   ·exact h
   ·refine h.setR _ ?_;unfold getP;split
    ·exact gg8 d (by omega) _
    ·exact b
  split
  ·exact h
  split
  ·exact h
  ·exact h.setR _ (gg8 h.bb (by omega) _)
 split
 ·unfold ptP;split
  ·exact h
  split
  ·exact h
  split
  ·exact h
  split
  ·exact h
  ·exact ⟨h.rl,h.ru,by simp only;rw [vc7];exact h.bl,jr6 _ _ h.bb,by simp only;rw [vc9];exact h.sl⟩
 split
 ·exact h
 split
 ·exact h
 split
 ·unfold rkP;split
  ·exact h
  split
  ·exact h
  split
  ·exact h.setR _ (qv2 (h.rg _) (h.secV i))
  ·exact h
 ·exact h
def vv0 {l} (c:Okay l) {k} (g:k<l.length) (d:(l.getD k v8).Op≠28) (R):(k:Int)<(k:Int)+1+jmpP (l.getD k v8) R/\(k:Int)+1+jmpP (l.getD k v8) R<l.length:=by
 have a:=c.fwd k g;have h:=yg6 (c.z1 k g);have n:=zy7 _ h;have j:=c.len;unfold zw7 at a;rw [if_pos (by omega)] at a;simp only [Z1] at a;generalize l.getD k v8=i at *;rw [if_pos ⟨h,d⟩,za1 (x:=(k:Int)+1) (by omega),za1 (by omega)] at a;unfold yr5 at a;unfold jmpP;by_cases b:i.Op=16
 ·rw [if_pos b] at a⊢;exact a _ (by simp)
 ·rw [if_neg b] at a⊢;by_cases m:17<=i.Op/\i.Op<=27
  ·rw [if_pos m] at a⊢;have e:(k:Int)<(k:Int)+1+i.Off/\(k:Int)+1+i.Off<l.length:=by
    split at a
    ·exact a _ (by simp)
    ·split at a
     ·exact a _ (by simp)
     ·have:=a ((k:Int)+1) (by simp);omega
   have f:(k:Int)<(k:Int)+1/\(k:Int)+1<l.length:=by
    split at a
    ·exact a _ (by simp)
    ·split at a
     ·exact a _ (by simp)
     ·exact a _ (by simp)
   split
   ·exact e
   ·rw [Int.add_zero];exact f
  ·rw [if_neg m] at a⊢;rw [Int.add_zero];exact a _ (by simp)
section
variable (l:List Ins) (P:List Int)
theorem zak1 {x} (h:x=12):qdy v3 x=some ((),(((),()),())):=by rw [ux9,if_pos h]
theorem zak2 {x} (h:x=13):qdz v3 x=some ((),(((),()),())):=by subst h;rw [uy1];rfl
theorem zak3 {x} (h:x=14):qea v3 x=some ((),(((),()),())):=by subst h;rw [uy3];rfl
theorem zak4 {x} (h:x=15):qeb v3 x=some ((),(((),()),())):=by subst h;rw [uy5];rfl
theorem zak5 {x} (h:x=16):qec v3 x=some ((),(((),()),())):=by subst h;rw [uy7];rfl
theorem zak6 {x} (h:x=28):qed v3 x=some ((),(((),()),())):=by subst h;rw [uy9];rfl
theorem zak7 {x} (h:x<12):qee v3 x=some ((),(((),()),())):=by
 rw [uz1,if_neg (by omega),if_neg (by omega),if_neg (by omega),if_neg (by omega),if_neg (by omega),if_neg (by omega),j6,if_pos (by simpa using h)]
theorem zak8 {x} (h:17<=x/\x<=27):qef v3 x=some ((),(((),()),())):=by
 rw [uz3,if_neg (by omega),if_neg (by omega),if_neg (by omega),if_neg (by omega),if_neg (by omega),if_neg (by omega),j6,if_neg (by simp;omega)]
theorem wm7 (y:Okay l) (I:ByteL P) (z:P.length<=65535) {k} (G:k<l.length) {s} (A:MOk s) (j) (J:0<=j/\j<=1000000) (n):
  zw9 (n+1+1) l 0 0 0 j s.R s.B s.S P (k:Int)=
   if (stP1 (l.getD k v8) P s).1≠0 then some ⟨(stP1 (l.getD k v8) P s).1,(k:Int),0,j+1⟩
   else if (l.getD k v8).Op=28 then some ⟨0,0,(rg s.R 0).n,j+1⟩
   else zw9 (n+1) l 0 0 0 (j+1) (stP1 (l.getD k v8) P s).2.R (stP1 (l.getD k v8) P s).2.B (stP1 (l.getD k v8) P s).2.S P ((k:Int)+1+jmpP (l.getD k v8) s.R):=by
 have H:=y.len;have m:=rok (yg6 (y.z1 k G));have v:(l.getD k v8).Op≠28->_:=fun a=>vv0 y G a s.R;rw [gd1,if_pos (by omega)];simp only [Z1];rw [za1 (x:=(k:Int)+1) (by omega),za1 (x:=j+1) (by omega)];obtain ⟨i,C⟩: ∃i,l.getD k v8=i:=⟨_,rfl⟩;simp only [C] at m v⊢;obtain ⟨R,B,S⟩:=s;dsimp only at v⊢;have t: ∀(e:Int) (p:MS) (pc:Int),z9 (e != 0) (some (⟨e,(k:Int),0,j+1⟩:X.Outcome)) (zw9 (n+1) l 0 0 0 (j+1) p.R p.B p.S P pc)=if e≠0 then some ⟨e,(k:Int),0,j+1⟩ else zw9 (n+1) l 0 0 0 (j+1) p.R p.B p.S P pc:=by
  intro e p pc;rw [j6];by_cases h:e=0
  ·rw [if_neg (by simpa using h),if_neg (by simpa using h)]
  ·rw [if_pos (by simpa using h),if_pos h]
 have o: ∀(e:Int) (p:MS) (pc:Int),i.Op≠28->stP1 i P ⟨R,B,S⟩=(e,p)->(e=0->pc=(k:Int)+1+jmpP i R)->
   z9 (e != 0) (some (⟨e,(k:Int),0,j+1⟩:X.Outcome)) (zw9 (n+1) l 0 0 0 (j+1) p.R p.B p.S P pc)=
   if (stP1 i P ⟨R,B,S⟩).1≠0 then some ⟨(stP1 i P ⟨R,B,S⟩).1,(k:Int),0,j+1⟩
   else if i.Op=28 then some ⟨0,0,(rg R 0).n,j+1⟩
   else zw9 (n+1) l 0 0 0 (j+1) (stP1 i P ⟨R,B,S⟩).2.R (stP1 i P ⟨R,B,S⟩).2.B (stP1 i P ⟨R,B,S⟩).2.S P ((k:Int)+1+jmpP i R):=by
  intro e p pc a q D;rw [t,q,if_neg a];by_cases h:e=0
  ·rw [if_neg (fun E=>E h),if_neg (fun E=>E h),D h]
  ·rw [if_pos h,if_pos h]
 by_cases b:i.Op=12
 ·rw [j6,if_pos (by simp [b]),zak1 b,z5,ui6 R B S P _ (m.dst (by omega) (by omega)) (m.src (by omega) (by omega) (by omega))];exact o _ _ ((k:Int)+1) (by omega) (by unfold stP1;rw [if_pos b]) fun _=>by unfold jmpP;rw [if_neg (by omega),if_neg (by omega)];omega
 rw [j6,if_neg (by simp [b])];by_cases d:i.Op=13
 ·rw [j6,if_pos (by simp [d]),zak2 d,z5,zai8 R B S P _ (m.dst (by omega) (by omega))];exact o _ _ ((k:Int)+1) (by omega) (by unfold stP1;rw [if_neg b,if_pos d]) fun _=>by unfold jmpP;rw [if_neg (by omega),if_neg (by omega)];omega
 rw [j6,if_neg (by simp [d])];by_cases c:i.Op=14
 ·rw [j6,if_pos (by simp [c]),zak3 c,z5,ui4 R B S P _ (m.dst (by omega) (by omega)) (m.src (by omega) (by omega) (by omega) (m.ni c)) (m.sz (.inl c)) A.bb A.bl I z];exact o _ _ ((k:Int)+1) (by omega) (by unfold stP1;rw [if_neg b,if_neg d,if_pos c]) fun _=>by unfold jmpP;rw [if_neg (by omega),if_neg (by omega)];omega
 rw [j6,if_neg (by simp [c])];by_cases f:i.Op=15
 ·rw [j6,if_pos (by simp [f]),zak4 f,z5,zan1 R B S P _ (m.dst (by omega) (by omega)) (m.src (by omega) (by omega) (by omega)) (m.sz (.inr f))];exact o _ _ ((k:Int)+1) (by omega) (by unfold stP1;rw [if_neg b,if_neg d,if_neg c,if_pos f]) fun _=>by unfold jmpP;rw [if_neg (by omega),if_neg (by omega)];omega
 rw [j6,if_neg (by simp [f])];have L:=m.off;by_cases g:i.Op=16
 ·rw [j6,if_pos (by simp [g]),zak5 g,z5,zag9,z5];exact o 0 ⟨R,B,S⟩ (IntKind.i64.wrap ((k:Int)+1+i.Off)) (by omega) (by unfold stP1;rw [if_neg b,if_neg d,if_neg c,if_neg f,if_pos g]) fun _=>by unfold jmpP;rw [if_pos g,za1 (by omega)]
 rw [j6,if_neg (by simp [g])];by_cases a:i.Op=28
 ·rw [j6,if_pos (by simp [a]),zak6 a,z5];have q:stP1 i P ⟨R,B,S⟩=(exE R,⟨R,B,S⟩):=by unfold stP1;rw [if_neg b,if_neg d,if_neg c,if_neg f,if_neg g,if_pos a]
  have w:0<=(0:Int)/\(0:Int)<=10:=by decide
  have F:((ask1 R 0 != 0)||((R.getD 0 zf1).kind != 1))=decide (exE R≠0):=by
   have:=wg3 R B S P ((k:Int)+1);rw [zz2 R B S P ((k:Int)+1) w] at this;exact this
  rw [zz2 R B S P ((k:Int)+1) w];dsimp only;rw [F,j6,q,if_pos a];by_cases u:exE R=0
  ·rw [if_neg (by simpa using u),wg2 R B S P _ i u,z5,j6,if_neg (show ¬((0:Int) != 0)=true by decide),kj0,if_neg (fun h=>h u)];rfl
  ·rw [if_pos (by simpa using u),wg1 R B S P _ i u];show z9 (exE R != 0) (some (⟨exE R,(k:Int),0,j+1⟩:X.Outcome)) (zw9 (n+1) l 0 0 0 (j+1) R B S P ((k:Int)+1))=_;rw [t (exE R) ⟨R,B,S⟩ ((k:Int)+1),if_pos u,if_pos u]
 rw [j6,if_neg (by simp [a])];by_cases r:i.Op<12
 ·rw [j6,if_pos (by simp [b,d,c,f,g,a,r]),zak7 r,z5,ge1 R B S P _ (m.dst (by omega) (by omega)) (m.src (by omega) (by omega) (by omega)) (A.secV i)];exact o _ _ ((k:Int)+1) (by omega) (by unfold stP1;rw [if_neg b,if_neg d,if_neg c,if_neg f,if_neg g,if_neg a,if_pos r]) fun _=>by unfold jmpP;rw [if_neg (by omega),if_neg (by omega)];omega
 ·have K:=m.op;rw [j6,if_neg (by simp [r]),zak8 (by omega),z5,ku5 R B S P _ (m.dst (by omega) (by omega)) (m.src (by omega) (by omega) (by omega))];exact o (brE i R) ⟨R,B,S⟩ (if brJ i R=true then IntKind.i64.wrap ((k:Int)+1+i.Off) else (k:Int)+1) (by omega) (by unfold stP1;rw [if_neg b,if_neg d,if_neg c,if_neg f,if_neg g,if_neg a,if_neg r]) fun _=>by
   unfold jmpP;rw [if_neg g,if_pos (show 17<=i.Op/\i.Op<=27 by omega)];split
   ·rw [za1 (by omega)]
   ·omega
def runP:Nat->Nat->MS->Int->X.Outcome
 |0,_,_,a=>⟨0,0,0,a⟩
 |f+1,k,s,a=>
  if (stP1 (l.getD k v8) P s).1≠0 then ⟨(stP1 (l.getD k v8) P s).1,(k:Int),0,a+1⟩
  else if (l.getD k v8).Op=28 then ⟨0,0,(rg s.R 0).n,a+1⟩
  else runP f ((k:Int)+1+jmpP (l.getD k v8) s.R).toNat (stP1 (l.getD k v8) P s).2 (a+1)
theorem gu5 (e:Okay l) (i:ByteL P) (c:P.length<=65535): ∀(f k n s b),k<l.length->l.length<=k+f->MOk s->0<=b->b+f<=1000000->f+1<=n->
  zw9 n l 0 0 0 b s.R s.B s.S P (k:Int)=some (runP l P f k s b)
 |0,k,n,s,b,g,o,_,_,_,_=>by omega
 |f+1,k,n,s,b,g,o,m,r,t,u=>by
  obtain ⟨n,rfl⟩: ∃p,n=p+1+1:=⟨n-2,by omega⟩;rw [wm7 l P e i c g m b (by omega) n,runP];by_cases j:(stP1 (l.getD k v8) P s).1=0
  ·have d: ¬(stP1 (l.getD k v8) P s).1≠0:=fun h=>h j;rw [if_neg d,if_neg d];by_cases a:(l.getD k v8).Op=28
   ·rw [if_pos a,if_pos a]
   ·rw [if_neg a,if_neg a];have q:=vv0 e g a s.R;have:=gu5 e i c f ((k:Int)+1+jmpP (l.getD k v8) s.R).toNat (n+1) (stP1 (l.getD k v8) P s).2 (b+1) (by omega) (by omega) (st_ok (rok (yg6 (e.z1 k g))) i m) (by omega) (by omega) (by omega);rw [show ((((k:Int)+1+jmpP (l.getD k v8) s.R).toNat:Nat):Int)=(k:Int)+1+jmpP (l.getD k v8) s.R by omega] at this;exact this
  ·rw [if_pos j,if_pos j]
def ms0:MS:=⟨[⟨0,0⟩,⟨2,0⟩,⟨1,(P.length:Int)⟩,⟨0,0⟩,⟨0,0⟩,⟨0,0⟩,⟨0,0⟩,⟨0,0⟩,⟨0,0⟩,⟨0,0⟩,⟨3,0⟩],List.replicate 512 0,List.replicate 512 false⟩
theorem ms0_ok (b:P.length<=65535):MOk (ms0 P):=by
 refine ⟨rfl,fun v a=>?_,Z9,fun x c=>?_,Z9⟩
 ·have a:v∈ [(⟨0,0⟩:Val),⟨2,0⟩,⟨1,(P.length:Int)⟩,⟨0,0⟩,⟨0,0⟩,⟨0,0⟩,⟨0,0⟩,⟨0,0⟩,⟨0,0⟩,⟨0,0⟩,⟨3,0⟩]:=a;simp only [Z0,J1,or_false] at a;unfold U64;rcases a with h|h|h|h|h|h|h|h|h|h|h<;>subst h<;>simp<;>omega
 ·obtain rfl:=(List.mem_replicate.1 c).2;exact ⟨by decide,by decide⟩
def runAll:X.Outcome:=if (zq3 l).Err≠0 then ⟨(zq3 l).Err,(zq3 l).At,0,0⟩ else if P.length>65535 then ⟨3,0,0,0⟩ else runP l P l.length 0 (ms0 P) 0
theorem run_p (g:ByteL P):qr v3 l P=some (runAll l P):=by
 rw [zaq0,vs9,z5,j6,j6];unfold runAll;by_cases a:(zq3 l).Err=0
 ·rw [if_neg (by simpa using a),if_neg (show ¬(zq3 l).Err≠0 from fun h=>h a)];by_cases c:P.length>65535
  ·rw [if_pos (by simp;omega),if_pos c]
  ·rw [if_neg (by simp;omega),if_neg c];have b:=qk4 a;have d:=b.len;have f:=b.pos;have e:IntKind.u64.wrap ((P.length:Nat):Int)=(P.length:Int):=zf4 ⟨by omega,by omega⟩;rw [e];exact gu5 l P b g (by omega) l.length 0 v3 (ms0 P) 0 (by omega) (by omega) (ms0_ok P (by omega)) (by omega) (by omega) (by show l.length+1<=1000000000;omega)
 ·rw [if_pos (by simpa using a),if_pos a]
end
end Go.Y.Z
