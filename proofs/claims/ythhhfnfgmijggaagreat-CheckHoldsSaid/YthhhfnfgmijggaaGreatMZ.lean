import Derived.Test.YthhhfnfgmijggaaGreatIf
import Derived.Test.YthhhfnfgmijggaaGreatM2
import Derived.Test.YthhhfnfgmijggaaGreatM1
set_option linter.defProp false
namespace Go.Y.Z
open Go.RowKit Go.V Go.X Go.Proofs
structure Val where
 kind:Int
 n:Int
def dVal:Val:=⟨0,0⟩
def U64 (x:Int):Prop:=0<=x/\x<=18446744073709551615
def jc0 (x):U64 (IntKind.u64.wrap x):=by
 unfold IntKind.wrap U64;simp [IntKind.bits,IntKind.signed];omega
def wu32 (x):0<=IntKind.u32.wrap x/\IntKind.u32.wrap x<=4294967295:=by
 unfold IntKind.wrap;simp [IntKind.bits,IntKind.signed];omega
def zc1 {x} (h:U64 x):IntKind.u64.wrap x=x:=by
 unfold U64 at h;unfold IntKind.wrap;simp [IntKind.bits,IntKind.signed];omega
def doV (k d:IntKind) (c op a b:Int):Int×Int:=
 if op=1 then (k.wrap (a+b),0) else if op=2 then (k.wrap (a-b),0) else if op=3 then (k.wrap (a*b),0) else if op=4 then (k.wrap (a.tdiv b),0) else if op=5 then (a.tmod b,0)
 else if op=6 then (g9 k a b,0) else if op=7 then (bOr k a b,0) else if op=8 then (yl9 k a b,0) else if op=9 then (zr4 k a (b.tmod c),0) else if op=10 then (za6 k a (b.tmod c),0)
 else if op=11 then (k.wrap (za6 d (d.wrap a) (b.tmod c)),0) else if op=12 then (b,0) else if op=13 then (k.wrap (0-a),0) else (0,2)
def doW (k d:IntKind) (c op a b:Int):Int×Int:=if (op=4\/op=5)/\b=0 then (0,113) else doV k d c op a b
def zk6 {x m:Int} (a:0<=x): ¬x.tmod m<0:=by
 have:=Int.tmod_nonneg m a;omega
def uj1 (op a b:Int) (hb:0<=b):qc v3 op 32 a b=some (doW .u32 .i32 32 op a b):=by
 obtain ⟨n,e⟩: ∃n:Nat,(v3:Nat)=n+1:=⟨999999999,rfl⟩;have hj: ∀c:Bool,(c=false->(op=4\/op=5)->b≠0)->qo7 (n+1) op c 32 a b=some (if c=true then (0,113) else doV .u32 .i32 32 op a b):=by
  intro c hc;rw [qt6];cases c with
  |true=>rfl
  |false=>
   rw [z5];simp only [gj3,gh0,gr4,gm8,gp3,gq1,gn5,gu3,gh6,gq7,gn8,gn6,gt6,z6,zk6 hb,if_false,W8,show ¬((32:Int)=0) by decide];unfold doV;by_cases h4:op=4
   ·subst h4;have:=hc rfl (.inl rfl);simp only [if_neg this];rfl
   by_cases h5:op=5
   ·subst h5;have:=hc rfl (.inr rfl);simp only [if_neg this];rfl
   simp only [if_neg h4,if_neg h5,if_false,W8,apply_ite some]
 rw [wx1,e];unfold doW;by_cases h4:op=4
 ·subst h4;rw [j5,if_pos (by decide),hj _ (by intro h _ hb;subst hb;cases h)];by_cases h:b=0
  ·subst h;rfl
  ·rw [if_neg (by simpa using h),if_neg (by simp [h])]
 by_cases h5:op=5
 ·subst h5;rw [j5,if_neg (by decide),j5,if_pos (by decide),hj _ (by intro h _ hb;subst hb;cases h)];by_cases h:b=0
  ·subst h;rfl
  ·rw [if_neg (by simpa using h),if_neg (by simp [h])]
 rw [j5,if_neg (by simpa using h4),j5,if_neg (by simpa using h5),hj _ (by intro _ h;exact absurd h (by simp [h4,h5])),if_neg (by simp),if_neg (by simp [h4,h5])]
def ur2 (op a b:Int) (hb:0<=b):qbe v3 op 64 a b=some (doW .u64 .i64 64 op a b):=by
 obtain ⟨n,e⟩: ∃n:Nat,(v3:Nat)=n+1:=⟨999999999,rfl⟩;have hj: ∀c:Bool,(c=false->(op=4\/op=5)->b≠0)->jl0 (n+1) op c 64 a b=some (if c=true then (0,113) else doV .u64 .i64 64 op a b):=by
  intro c hc;rw [qd6];cases c with
  |true=>rfl
  |false=>
   rw [z5];simp only [go0,gj0,gu0,gt1,go4,gg4,gj9,gn4,gn2,gm1,gs7,gl2,gl0,z6,zk6 hb,if_false,W8,show ¬((64:Int)=0) by decide];unfold doV;by_cases h4:op=4
   ·subst h4;have:=hc rfl (.inl rfl);simp only [if_neg this];rfl
   by_cases h5:op=5
   ·subst h5;have:=hc rfl (.inr rfl);simp only [if_neg this];rfl
   simp only [if_neg h4,if_neg h5,if_false,W8,apply_ite some]
 rw [gr3,e];unfold doW;by_cases h4:op=4
 ·subst h4;rw [j5,if_pos (by decide),hj _ (by intro h _ hb;subst hb;cases h)];by_cases h:b=0
  ·subst h;rfl
  ·rw [if_neg (by simpa using h),if_neg (by simp [h])]
 by_cases h5:op=5
 ·subst h5;rw [j5,if_neg (by decide),j5,if_pos (by decide),hj _ (by intro h _ hb;subst hb;cases h)];by_cases h:b=0
  ·subst h;rfl
  ·rw [if_neg (by simpa using h),if_neg (by simp [h])]
 rw [j5,if_neg (by simpa using h4),j5,if_neg (by simpa using h5),hj _ (by intro _ h;exact absurd h (by simp [h4,h5])),if_neg (by simp),if_neg (by simp [h4,h5])]
def aluP (op:Int) (nw:Bool) (a b:Int):Int×Int:=
 if nw=true then (IntKind.u64.wrap (doW .u32 .i32 32 op (IntKind.u32.wrap a) (IntKind.u32.wrap b)).1,(doW .u32 .i32 32 op (IntKind.u32.wrap a) (IntKind.u32.wrap b)).2) else doW .u64 .i64 64 op a b
def alu_p (op nw a b) (c:U64 b):qcv v3 op nw a b=some (aluP op nw a b):=by
 rw [vn9];unfold aluP;cases nw with
 |true=>rw [z9,uj1 _ _ _ (wu32 b).1,z6];rfl
 |false=>rw [z5,ur2 _ _ _ c.1,z6];rfl
def gf7 {x m:Int} (a:0<=x/\x<=m) (n:Nat):0<=x.fdiv (2^n)/\x.fdiv (2^n)<=m:=by
 have b:(0:Int)<2^n:=V1 (by decide);rw [M3 _ (V7 b)];have c:=N3 a.1 (V7 b);have d:=T6 (2^n) a.1;omega
def zl2 {c:Prop} [Decidable c] {x y:Int×Int} (a:c->U64 x.1) (b: ¬c->U64 y.1):U64 (if c then x else y).1:=by
 by_cases h:c
 ·rw [if_pos h];exact a h
 ·rw [if_neg h];exact b h
def wi2 {op a b} (d:U64 a) (c:U64 b):U64 (doW .u64 .i64 64 op a b).1:=by
 unfold doW doV;have e:U64 0:=⟨by decide,by decide⟩;have f:b≠0->U64 (a.tmod b):=fun g=>by
  have i:=Int.tmod_nonneg b d.1;have m:=Int.tmod_lt_of_pos a (b:=b) (by have:=c.1;omega);have:=c.2;exact ⟨i,by omega⟩
 refine zl2 (fun _=>e) fun j=>?_;refine zl2 (fun _=>jc0 _) fun _=>?_;refine zl2 (fun _=>jc0 _) fun _=>?_;refine zl2 (fun _=>jc0 _) fun _=>?_;refine zl2 (fun _=>jc0 _) fun _=>?_;refine zl2 (fun k=>f fun h=>j ⟨.inr k,h⟩) fun _=>?_;refine zl2 (fun _=>jc0 _) fun _=>?_;refine zl2 (fun _=>jc0 _) fun _=>?_;refine zl2 (fun _=>jc0 _) fun _=>?_;refine zl2 (fun _=>jc0 _) fun _=>?_;refine zl2 (fun _=>gf7 d _) fun _=>?_;refine zl2 (fun _=>jc0 _) fun _=>?_;refine zl2 (fun _=>c) fun _=>?_;refine zl2 (fun _=>jc0 _) fun _=>?_;exact e
def vc5 {op nw a b} (c:U64 a) (d:U64 b):U64 (aluP op nw a b).1:=by
 unfold aluP;split
 ·exact jc0 _
 ·exact wi2 c d
def isW (c:IntKind) (k:IntKind) (op a b:Int):Bool×Int:=
 if op=17 then (a==b,0) else if op=18 then (a != b,0) else if op=19 then (decide (a>b),0) else if op=20 then (decide (a>=b),0) else if op=21 then (decide (a<b),0) else if op=22 then (decide (a<=b),0)
 else if op=23 then (decide (c.wrap a>c.wrap b),0) else if op=24 then (decide (c.wrap a>=c.wrap b),0) else if op=25 then (decide (c.wrap a<c.wrap b),0) else if op=26 then (decide (c.wrap a<=c.wrap b),0)
 else if op=27 then (g9 k a b != 0,0) else (false,2)
def isP (op:Int) (nw:Bool) (a b:Int):Bool×Int:=if nw=true then isW .i32 .u32 op (IntKind.u32.wrap a) (IntKind.u32.wrap b) else isW .i64 .u64 op a b
def ByteL (b:List Int):Prop:= ∀x∈b,0<=x/\x<=255
def ByteL.getD {b} (h:ByteL b) (k):0<=b.getD k 0/\b.getD k 0<=255:=by
 rw [Y2];cases hk:b[k]? with
 |none=>exact ⟨by decide,by decide⟩
 |some x=>exact h x (X6 hk)
def beF (b:List Int):Nat->Nat->Int
 |_,0=>0
 |p,m+1=>b.getD p 0*256^m+beF b (p+1) m
def beF_rng {b} (h:ByteL b): ∀(m p),0<=beF b p m/\beF b p m<256^m
 |0,p=>by simp [beF]
 |m+1,p=>by
  obtain ⟨e,f⟩:=beF_rng h m (p+1);obtain ⟨c,d⟩:=h.getD p;have a:(0:Int)<256^m:=V1 (by decide);rw [beF,Int.pow_succ];have g:=M4 c (V7 a);have i:=S9 d (V7 a);omega
def zag4 (k m x y) (i:m<=k.bits) (j:x%2^m=0) (a:0<=y/\y<2^m):bOr k x y=k.wrap (x%2^k.bits+y):=by
 unfold bOr;congr 1;rw [BitVec.toNat_or,BitVec.toNat_ofInt,BitVec.toNat_ofInt];have s:(2:Int)^m<=2^k.bits:=by exact_mod_cast J4 (by decide) i
 have n:(0:Int)<2^k.bits:=V1 (by decide);have o:y%((2^k.bits:Nat):Int)=y:=by push_cast;exact V9 a.1 (by omega)
 have b:(x%((2^k.bits:Nat):Int))%2^m=0:=by
  push_cast
  rw [Int.emod_emod_of_dvd _ ⟨2^(k.bits-m),by rw [<-Int.pow_add];congr 1;omega⟩];exact j
 have f:0<=x%((2^k.bits:Nat):Int):=R5 _ (by push_cast;omega);rw [o]
 push_cast at b f⊢
 generalize x%2^k.bits=X at b f⊢;obtain ⟨q,g⟩:=Int.dvd_of_emod_eq_zero b;have e:0<=q:=by
  have:(0:Int)<2^m:=V1 (by decide);rcases Int.lt_or_le q 0 with h|h
  ·have:=Int.mul_neg_of_pos_of_neg this h;omega
  ·exact h
 obtain ⟨c,rfl⟩:=N1 e;obtain ⟨d,rfl⟩:=N1 a.1;have p:d<2^m:=by have:=a.2;exact_mod_cast this
 have r:X.toNat=2^m*c:=by rw [g];exact_mod_cast Z1 (2^m*c)
 rw [r,Z1,<-Nat.two_pow_add_eq_or_of_lt p c,g]
 push_cast;rfl
def ug1 (m):(256:Int)^m=2^(8*m):=by rw [Int.pow_mul];rfl
def ym3 {x} (h:zh1 x=true):x=1\/x=2\/x=4\/x=8:=by
 unfold zh1 at h;simp at h;omega
def placeP (len at_ a:Int):Int:=if zh1 a=true then (if at_<0\/at_>len-a then 112 else 0) else 2
def getP (b:List Int) (at_ a:Int):Int×Int:=if placeP b.length at_ a=0 then (beF b at_.toNat a.toNat,0) else (0,placeP b.length at_ a)
def vd6 (v:Int):List Int->Nat->Nat->List Int
 |b,_,0=>b
 |b,p,m+1=>vd6 v (b.set p (v/256^m%256)) (p+1) m
def qv3 (v): ∀(m b p),(vd6 v b p m).length=b.length
 |0,b,p=>rfl
 |m+1,b,p=>by rw [vd6,qv3 v m];simp
def jp7 {v}: ∀(m) {b} (p),ByteL b->ByteL (vd6 v b p m)
 |0,b,p,h=>h
 |m+1,b,p,h=>by
  rw [vd6];refine jp7 m (p+1) fun x a=>?_;rcases K7 a with a|a
  ·exact h x a
  ·subst a;omega
def wu8 (x):IntKind.u8.wrap x=x%256:=by
 unfold IntKind.wrap;simp [IntKind.bits,IntKind.signed]
structure MS where
 R:List Val
 B:List Int
 S:List Bool
abbrev rg (R:List Val) (r:Int):Val:=R.getD r.toNat dVal
def ask1 (R:List Val) (r:Int):Int:=if (rg R r).kind=0 then 110 else 0
def secV (i:Ins) (R:List Val):Val:=if i.UseImm=true then ⟨1,IntKind.u64.wrap i.Imm⟩ else rg R i.Src
def secE (i:Ins) (R:List Val):Int:=if i.UseImm=true then 0 else ask1 R i.Src
def bothE (i:Ins) (R:List Val):Int:=if ask1 R i.Dst≠0 then ask1 R i.Dst else secE i R
def mvP (i:Ins) (s:MS):Int×MS:=
 if secE i s.R≠0 then (secE i s.R,s) else if i.Narrow=true/\(secV i s.R).kind≠1 then (114,s)
 else (0,{s with R:=s.R.set i.Dst.toNat ⟨(secV i s.R).kind,if i.Narrow=true then IntKind.u64.wrap (IntKind.u32.wrap (secV i s.R).n) else (secV i s.R).n⟩})
def ngP (i:Ins) (s:MS):Int×MS:=
 if ask1 s.R i.Dst≠0 then (ask1 s.R i.Dst,s) else if (rg s.R i.Dst).kind≠1 then (114,s)
 else ((aluP i.Op i.Narrow (rg s.R i.Dst).n 0).2,{s with R:=s.R.set i.Dst.toNat ⟨(rg s.R i.Dst).kind,(aluP i.Op i.Narrow (rg s.R i.Dst).n 0).1⟩})
def frP (n:Int) (i:Ins):Int×Int:=
 let k:=IntKind.i64.wrap (IntKind.i64.wrap (IntKind.u64.wrap (n+IntKind.u64.wrap i.Off))+512)
 if k<0\/k>512-i.Size then (0,112) else (k,0)
def wy5 {n i} (h:(frP n i).2=0):0<=(frP n i).1/\(frP n i).1<=512-i.Size:=by
 unfold frP at h⊢;simp only at h⊢;split at h
 ·cases h
 ·rename_i a;rw [if_neg a];simp only;omega
def allS (S:List Bool):Nat->Nat->Bool
 |_,0=>true
 |p,m+1=>S.getD p false&&allS S (p+1) m
def ldP (i:Ins) (P:List Int) (s:MS):Int×MS:=
 if ask1 s.R i.Src≠0 then (ask1 s.R i.Src,s) else if (rg s.R i.Src).kind=1 then (111,s)
 else if (rg s.R i.Src).kind=2 then
  (if (getP P (IntKind.i64.wrap (IntKind.u64.wrap ((rg s.R i.Src).n+IntKind.u64.wrap i.Off))) i.Size).2≠0 then ((getP P (IntKind.i64.wrap (IntKind.u64.wrap ((rg s.R i.Src).n+IntKind.u64.wrap i.Off))) i.Size).2,s)
   else (0,{s with R:=s.R.set i.Dst.toNat ⟨1,(getP P (IntKind.i64.wrap (IntKind.u64.wrap ((rg s.R i.Src).n+IntKind.u64.wrap i.Off))) i.Size).1⟩}))
 else if (frP (rg s.R i.Src).n i).2≠0 then ((frP (rg s.R i.Src).n i).2,s)
 else if allS s.S (frP (rg s.R i.Src).n i).1.toNat i.Size.toNat=false then (110,s)
 else (0,{s with R:=s.R.set i.Dst.toNat ⟨1,beF s.B (frP (rg s.R i.Src).n i).1.toNat i.Size.toNat⟩})
def setS:List Bool->Nat->Nat->List Bool
 |S,_,0=>S
 |S,p,m+1=>setS (S.set p true) (p+1) m
def ptP (i:Ins) (s:MS):Int×MS:=
 if bothE i s.R≠0 then (bothE i s.R,s) else if (rg s.R i.Dst).kind=2 then (114,s)
 else if (rg s.R i.Dst).kind=1\/(secV i s.R).kind≠1 then (111,s)
 else if (frP (rg s.R i.Dst).n i).2≠0 then ((frP (rg s.R i.Dst).n i).2,s)
 else (0,{s with B:=vd6 (secV i s.R).n s.B (frP (rg s.R i.Dst).n i).1.toNat i.Size.toNat,S:=setS s.S (frP (rg s.R i.Dst).n i).1.toNat i.Size.toNat})
def rkP (i:Ins) (s:MS):Int×MS:=
 if bothE i s.R≠0 then (bothE i s.R,s)
 else if (secV i s.R).kind≠1\/(rg s.R i.Dst).kind≠1/\ ¬((i.Op=1\/i.Op=2)/\i.Narrow=false) then (114,s)
 else if (aluP i.Op i.Narrow (rg s.R i.Dst).n (secV i s.R).n).2=0 then (0,{s with R:=s.R.set i.Dst.toNat ⟨(rg s.R i.Dst).kind,(aluP i.Op i.Narrow (rg s.R i.Dst).n (secV i s.R).n).1⟩})
 else ((aluP i.Op i.Narrow (rg s.R i.Dst).n (secV i s.R).n).2,s)
def brE (i:Ins) (R:List Val):Int:=if bothE i R≠0 then bothE i R else if (rg R i.Dst).kind≠1\/(secV i R).kind≠1 then 111 else 0
def brJ (i:Ins) (R:List Val):Bool:=decide (brE i R=0)&&(isP i.Op i.Narrow (rg R i.Dst).n (secV i R).n).1
def exE (R:List Val):Int:=if ask1 R 0≠0 then ask1 R 0 else if (rg R 0).kind≠1 then 111 else 0
structure MOk (s:MS):Prop where
 rl:s.R.length=11
 ru: ∀v∈s.R,U64 v.n
 bl:s.B.length=512
 bb:ByteL s.B
 sl:s.S.length=512
def MOk.rg {s} (h:MOk s) (r):U64 (rg s.R r).n:=by
 show U64 (s.R.getD r.toNat dVal).n;rw [Y2];cases hk:s.R[r.toNat]? with
 |none=>exact ⟨by decide,by decide⟩
 |some x=>exact h.ru x (X6 hk)
def MOk.secV {s} (h:MOk s) (i):U64 (secV i s.R).n:=by
 unfold Go.Y.Z.secV;split
 ·exact jc0 _
 ·exact h.rg _
def MOk.setR {s} (h:MOk s) (d:Int) {v} (b:U64 v.n):MOk {s with R:=s.R.set d.toNat v}:=by
 refine ⟨by simp [h.rl],fun x a=>?_,h.bl,h.bb,h.sl⟩;rcases K7 a with a|a
 ·exact h.ru x a
 ·subst a;exact b
def qx0: ∀(m S p),(setS S p m).length=S.length
 |0,S,p=>rfl
 |m+1,S,p=>by rw [setS,qx0 m];simp
def gk5 {b} (h:ByteL b) {m} (a:m<=8) (p):U64 (beF b p m):=by
 obtain ⟨c,f⟩:=beF_rng h m p;have g:(256:Int)^m<=256^8:=by
  have h:=J4 (n:=256) (by decide) a;have d:((256^m:Nat):Int)=(256:Int)^m:=by rw [Int.natCast_pow];rfl
  have e:((256^8:Nat):Int)=(256:Int)^8:=by rw [Int.natCast_pow];rfl
  rw [<-d,<-e];exact Int.ofNat_le.2 h
 have i:(256:Int)^8=18446744073709551616:=by decide
 exact ⟨c,by omega⟩
def stP1 (i:Ins) (P:List Int) (s:MS):Int×MS:=
 if i.Op=12 then mvP i s else if i.Op=13 then ngP i s else if i.Op=14 then ldP i P s else if i.Op=15 then ptP i s else if i.Op=16 then (0,s) else if i.Op=28 then (exE s.R,s) else if i.Op<12 then rkP i s else (brE i s.R,s)
def jmpP (i:Ins) (R:List Val):Int:=if i.Op=16 then i.Off else if 17<=i.Op/\i.Op<=27 then (if brJ i R=true then i.Off else 0) else 0
structure ROk (i:Ins):Prop where
 op:1<=i.Op/\i.Op<=28
 off: -32768<=i.Off/\i.Off<=32767
 dst:i.Op≠16->i.Op≠28->0<=i.Dst/\i.Dst<=10
 src:i.Op≠13->i.Op≠16->i.Op≠28->i.UseImm=false->0<=i.Src/\i.Src<=10
 sz:i.Op=14\/i.Op=15->zh1 i.Size=true
 ni:i.Op=14->i.UseImm=false
def rok {i} (h:zf5 i=true):ROk i:=by
 have a:=zx9 i h;unfold zf5 zk0 jo3 yc4 at h;refine ⟨⟨a.2.2.1,a.2.2.2⟩,⟨a.1,a.2.1⟩,?_,?_,?_,?_⟩<;>grind
def st_ok {i:Ins} (c:ROk i) {P:List Int} (d:ByteL P) {s:MS} (h:MOk s):MOk (stP1 i P s).2:=by
 have b:U64 0:=⟨by decide,by decide⟩;unfold stP1;split
 ·unfold mvP;split
  ·exact h
  ·split
   ·exact h
   ·exact h.setR _ (by simp only;split;exact jc0 _;exact h.secV i)
 split
 ·unfold ngP;split
  ·exact h
  ·split
   ·exact h
   ·exact h.setR _ (vc5 (h.rg _) b)
 split
 ·rename_i a;have e:=ym3 (c.sz (.inl a));unfold ldP;split
  ·exact h
  split
  ·exact h
  split
  ·split
   ·exact h
   ·refine h.setR _ ?_;unfold getP;split
    ·exact gk5 d (by omega) _
    ·exact b
  split
  ·exact h
  split
  ·exact h
  ·exact h.setR _ (gk5 h.bb (by omega) _)
 split
 ·unfold ptP;split
  ·exact h
  split
  ·exact h
  split
  ·exact h
  split
  ·exact h
  ·exact ⟨h.rl,h.ru,by simp only;rw [qv3];exact h.bl,jp7 _ _ h.bb,by simp only;rw [qx0];exact h.sl⟩
 split
 ·exact h
 split
 ·exact h
 split
 ·unfold rkP;split
  ·exact h
  split
  ·exact h
  split
  ·exact h.setR _ (vc5 (h.rg _) (h.secV i))
  ·exact h
 ·exact h
section
variable (l:List Ins) (P:List Int)
def ms0:MS:=⟨[⟨0,0⟩,⟨2,0⟩,⟨1,(P.length:Int)⟩,⟨0,0⟩,⟨0,0⟩,⟨0,0⟩,⟨0,0⟩,⟨0,0⟩,⟨0,0⟩,⟨0,0⟩,⟨3,0⟩],List.replicate 512 0,List.replicate 512 false⟩
theorem ms0_ok (b:P.length<=65535):MOk (ms0 P):=by
 refine ⟨rfl,fun v a=>?_,Z9,fun x c=>?_,Z9⟩
 ·have a:v∈ [(⟨0,0⟩:Val),⟨2,0⟩,⟨1,(P.length:Int)⟩,⟨0,0⟩,⟨0,0⟩,⟨0,0⟩,⟨0,0⟩,⟨0,0⟩,⟨0,0⟩,⟨0,0⟩,⟨3,0⟩]:=a;simp only [Z0,J7,or_false] at a;unfold U64;rcases a with h|h|h|h|h|h|h|h|h|h|h<;>subst h<;>simp<;>omega
 ·obtain rfl:=(List.mem_replicate.1 c).2;exact ⟨by decide,by decide⟩
end
def jx6 {x} (h:q8 x):(BitVec.ofInt IntKind.u64.bits x).toNat=x.toNat:=by
 rw [BitVec.toNat_ofInt];simp only [IntKind.bits];omega
def zm5 {x y} (a:q8 x) (b:q8 y):g9 .u64 x y=((x.toNat&&&y.toNat:Nat):Int):=by
 unfold g9;rw [BitVec.toNat_and,jx6 a,jx6 b,q7];have:x.toNat&&&y.toNat<=x.toNat:=Nat.and_le_left;omega
def ve4 {x} (h:q8 x):x.toNat<2^64:=by omega
def qq4 {x y} (a:q8 x) (b:q8 y):bOr .u64 x y=((x.toNat|||y.toNat:Nat):Int):=by
 unfold bOr;rw [BitVec.toNat_or,jx6 a,jx6 b,q7];have:=K8 (ve4 a) (ve4 b);omega
def jk7 {x y} (a:q8 x) (b:q8 y):yl9 .u64 x y=((x.toNat^^^y.toNat:Nat):Int):=by
 unfold yl9;rw [BitVec.toNat_xor,jx6 a,jx6 b,q7];have:=M2 (ve4 a) (ve4 b);omega
def zl6 {x y} (a:0<=y/\y<=64):za6 .u64 x y=x/2^y.toNat:=by
 unfold za6;rw [M3 _ (by exact V7 (V1 (by omega)))];congr 2;simp only [IntKind.bits];omega
def jy1 {x y} (a:0<=y/\y<=64):zr4 .u64 x y=(x*2^y.toNat)%18446744073709551616:=by
 unfold zr4;rw [q7];congr 3;simp only [IntKind.bits];omega
def yk2 (z a s:Nat) (b:Bool):Nat:=(a >>> s)|||(if b then (2^s-1) <<< (z-s) else 0)
def ge6 {z a s b} (c:a<2^z) (f:s<z) {k} (g:k<z):(yk2 z a s b).testBit k=if k+s<z then a.testBit (k+s) else b:=by
 unfold yk2;rw [Nat.testBit_or,Nat.testBit_shiftRight];cases b with
 |false=>
  simp only [W8,if_false,Nat.zero_testBit,Bool.or_false];split
  ·rw [V5]
  ·exact Nat.testBit_lt_two_pow (U9 c (J4 (by decide) (by omega)))
 |true=>
  simp only [if_true,Nat.testBit_shiftLeft,Nat.testBit_two_pow_sub_one];split
  ·rw [V5];have: ¬(k>=z-s):=by omega
   simp [this]
  ·have d:k>=z-s:=by omega
   have e:k-(z-s)<s:=by omega
   simp [d,e]
def jn9 {z a s b} (c:a<2^z) (e:s<z):yk2 z a s b<2^z:=by
 unfold yk2;apply K8
 ·exact Nat.lt_of_le_of_lt (by rw [T5];exact K4 _ _) c
 ·split
  ·rw [R4];have d:2^z=2^s*2^(z-s):=by rw [<-Nat.pow_add];congr 1;omega
   rw [d];exact Nat.mul_lt_mul_of_pos_right (by have:=V8 s;omega) (V8 _)
  ·exact V8 _
def ya7 {z a s b} (c:a<2^z) (f:s<z):yk2 z a s b=a/2^s+(if b then (2^s-1)*2^(z-s) else 0):=by
 unfold yk2;rw [T5];cases b with
 |false=>simp
 |true=>
  simp only [if_true];have d:2^z=2^s*2^(z-s):=by rw [<-Nat.pow_add];congr 1;omega
  have e:a/2^s<2^(z-s):=N2 (by rw [<-d];exact c);rw [Nat.or_comm,<-Nat.shiftLeft_add_eq_or_of_lt e,R4,V5]
def zp7 (x k):x%2^(k+1)=x%2^k+(if x.testBit k then 2^k else 0):=by
 rw [Nat.mod_pow_succ,A0];have:x/2^k%2=0\/x/2^k%2=1:=by omega
 rcases this with h|h<;>simp [h]
def uh6 {x k} (h:x<2^k):x|||2^k=x+2^k:=by
 rw [Nat.or_comm,show (2:Nat)^k=1 <<< k from by rw [R4,Nat.one_mul],<-Nat.shiftLeft_add_eq_or_of_lt h,V5]
def yx5 {z a} (c:a<2^(z+1)):a.testBit z=decide (2^z<=a):=by
 rw [A0];have d:a/2^z<2:=N2 (by rw [Nat.pow_succ] at c;exact c);by_cases h:2^z<=a
 ·have:1<=a/2^z:=(Nat.one_le_div_iff (V8 _)).2 h;have b:a/2^z=1:=by omega
  simp [b,h]
 ·have b:a/2^z=0:=Nat.div_eq_of_lt (by omega);simp [b,h]
def jx0 {z a s:Nat} (b:a<2^z) (d:s<z):((a:Int)-(2:Int)^z)/2^s=((a/2^s:Nat):Int)-2^(z-s):=by
 have c:(2:Int)^z=2^(z-s)*2^s:=by rw [<-Int.pow_add];congr 1;omega
 rw [c,Int.sub_eq_add_neg,<-Int.neg_mul,Int.add_mul_ediv_right _ _ (by exact Int.ne_of_gt (V1 (by omega)))];simp [Int.sub_eq_add_neg]
def jz6 {z s} (a:s<z):((2^s-1)*2^(z-s):Nat)=2^z-2^(z-s):=by
 rw [Nat.sub_mul,Nat.one_mul,<-Nat.pow_add];congr 2;omega
def wc2 {a s:Nat} (b:a<2^32) (c:s<32):IntKind.u32.wrap (za6 .i32 (IntKind.i32.wrap (a:Int)) (s:Int))=((yk2 32 a s (a.testBit 31):Nat):Int):=by
 rw [ya7 b c,yx5 (z:=31) b];unfold za6;rw [M3 _ (by exact V7 (V1 (by omega))),show min (s:Int).toNat IntKind.i32.bits=s from by simp only [IntKind.bits];omega,yj7,w5];have f:a/2^s<=a:=K4 _ _;by_cases h:2^31<=a
 ·rw [if_pos (by omega),show (a:Int)%4294967296-4294967296=(a:Int)-(2:Int)^32 from by omega,jx0 b c];simp only [h,decide_true,if_true];rw [jz6 c];have g:2^(32-s)<=2^32:=J4 (by decide) (by omega);have e:(2:Int)^(32-s)=((2^(32-s):Nat):Int):=by simp
  have i:a/2^s<2^(32-s):=N2 (by rw [<-Nat.pow_add];rw [show s+(32-s)=32 by omega];exact b);rw [e];have j:=V8 (32-s);generalize 2^(32-s)=q at *;generalize a/2^s=d at *;omega
 ·rw [if_neg (by omega),show (a:Int)%4294967296=(a:Int) by omega];simp only [h,decide_false,W8,if_false];have:(a:Int)/2^s=((a/2^s:Nat):Int):=by simp
  rw [this];generalize a/2^s=d at *;omega
def wa7 {a s:Nat} (b:a<2^64) (c:s<64):IntKind.u64.wrap (za6 .i64 (IntKind.i64.wrap (a:Int)) (s:Int))=((yk2 64 a s (a.testBit 63):Nat):Int):=by
 rw [ya7 b c,yx5 (z:=63) b];unfold za6;rw [M3 _ (by exact V7 (V1 (by omega))),show min (s:Int).toNat IntKind.i64.bits=s from by simp only [IntKind.bits];omega,zo6,q7];have f:a/2^s<=a:=K4 _ _;by_cases h:2^63<=a
 ·rw [if_pos (by omega),show (a:Int)%18446744073709551616-18446744073709551616=(a:Int)-(2:Int)^64 from by omega,jx0 b c];simp only [h,decide_true,if_true];rw [jz6 c];have g:2^(64-s)<=2^64:=J4 (by decide) (by omega);have e:(2:Int)^(64-s)=((2^(64-s):Nat):Int):=by simp
  have i:a/2^s<2^(64-s):=N2 (by rw [<-Nat.pow_add];rw [show s+(64-s)=64 by omega];exact b);rw [e];have j:=V8 (64-s);generalize 2^(64-s)=q at *;generalize a/2^s=d at *;omega
 ·rw [if_neg (by omega),show (a:Int)%18446744073709551616=(a:Int) by omega];simp only [h,decide_false,W8,if_false];have:(a:Int)/2^s=((a/2^s:Nat):Int):=by simp
  rw [this];generalize a/2^s=d at *;omega
def jn1 {z k} {T:Nat} (c:z<=64) (d:k<z) (a:T.testBit k=true):bOr .u64 ((T%2^k:Nat):Int) (zr4 .u64 1 (IntKind.u64.wrap (k:Int)))=((T%2^(k+1):Nat):Int):=by
 have f:2^k<=2^63:=J4 (by decide) (by omega);have b:T%2^k<2^k:=V4 _ (V8 _);rw [show IntKind.u64.wrap (k:Int)=(k:Int) from by rw [q7];omega,jy1 (by omega),Z1];have e:(1:Int)*2^k%18446744073709551616=((2^k:Nat):Int):=by
  rw [Int.one_mul,show (2:Int)^k=((2^k:Nat):Int) from by simp];omega
 rw [e,qq4 (by omega) (by omega),Z1,Z1,uh6 b,zp7,a];rfl
def kq6 {a:Nat} {k:Nat} (d:a<2^64) (f:k<64):qcx v3 (a:Int) (k:Int)=some (a.testBit k):=by
 rw [uw1,show IntKind.u64.wrap (k:Int)=(k:Int) from by rw [q7];omega,zl6 (by omega),if_neg (by omega)];have e:(a:Int)/2^(k:Int).toNat=((a >>> k:Nat):Int):=by rw [T5];simp
 have b:a >>> k<=a:=by rw [T5];exact K4 _ _
 rw [e,Nat.testBit];generalize a >>> k=q at *;rw [zm5 (by omega) (by omega),Z1,show (1:Int).toNat=1 from rfl,Nat.and_comm];have c:1&&&q=0\/1&&&q=1:=by
  rw [Nat.and_comm,Nat.and_one_is_mod];omega
 rcases c with h|h<;>rw [h]<;>rfl
def cmb (op:Int) (x y:Bool):Bool:=if op=8 then x != y else if op=7 then x||y else x&&y
def qb6 {a b T:Nat} {op} (o:a<2^64) (p:b<2^64) (q: ∀k,k<64->T.testBit k=cmb op (a.testBit k) (b.testBit k)) (d:T<2^64): ∀(m k n:Nat),k+m=64->5*m+1<=n->vg1 n op (a:Int) (b:Int) ((T%2^k:Nat):Int) (k:Int)=some (T:Int)
 |0,k,n,A,B=>by
  obtain ⟨n,rfl⟩: ∃i,n=i+1:=⟨n-1,by omega⟩;obtain rfl:k=64:=by omega
  rw [qw8,j5,if_neg (by decide),N6 d]
 |m+1,k,n,A,B=>by
  obtain ⟨n,rfl⟩: ∃i,n=i+1+1+1+1+1:=⟨n-5,by omega⟩;have r:=qb6 o p q d m (k+1) n (by omega) (by omega);have s: ∀v,kq1 (n+1) op (a:Int) (b:Int) v (k:Int)=vg1 n op (a:Int) (b:Int) v ((k+1:Nat):Int):=fun v=>by
   rw [gf0,u0 (by omega),show ((k:Int)+1)=((k+1:Nat):Int) by omega]
  have t: ∀c,T.testBit k=c->kn2 (n+1+1) op (a:Int) (b:Int) ((T%2^k:Nat):Int) (k:Int) c=some (T:Int):=fun c u=>by
   rw [gd7,j5,if_neg (show ¬IntKind.u64.wrap (k:Int)<0 by rw [q7];omega),s,s];cases c with
   |false=>
    rw [if_neg (by decide)];have e:T%2^(k+1)=T%2^k:=by rw [zp7,u];simp
    rw [<-e];exact r
   |true=>rw [if_pos rfl,jn1 (z:=64) (by omega) (by omega) u];exact r
  have j: ∀c x y,T.testBit k=(if op=8 then x != y else c)->vg0 (n+1+1+1) op (a:Int) (b:Int) ((T%2^k:Nat):Int) (k:Int) x y c=some (T:Int):=fun c x y h=>by
   rw [ku1,j5];by_cases f:op=8
   ·rw [if_pos (by simp [f]),t];rw [h,if_pos f];rfl
   ·rw [if_neg (by simpa using f),t _ (by rw [h,if_neg f])]
  have w: ∀x y,T.testBit k=cmb op x y->kq9 (n+1+1+1+1) op (a:Int) (b:Int) ((T%2^k:Nat):Int) (k:Int) x y (x&&y)=some (T:Int):=fun x y h=>by
   unfold cmb at h;rw [kt6,j5];by_cases g:op=7
   ·rw [if_pos (by simp [g]),j5];rw [if_pos g] at h;cases x with
    |true=>rw [if_pos rfl];exact j true true y h
    |false=>rw [if_neg (by decide)];exact j y false y h
   ·rw [if_neg (by simpa using g),j _ _ _ (by rw [h,if_neg g])]
  have h:=q k (by omega);rw [qw8,j5,if_pos (by simp;omega),kq6 o (by omega),z6,kq6 p (by omega),z6,j5];cases hx:a.testBit k with
  |true=>
   rw [if_pos rfl];have:=w true (b.testBit k) (by rw [h,hx]);exact this
  |false=>
   rw [if_neg (by decide)];have:=w false (b.testBit k) (by rw [h,hx]);exact this
def qn2 {a b T:Nat} {op} (d:a<2^64) (e:b<2^64) (f: ∀k,k<64->T.testBit k=cmb op (a.testBit k) (b.testBit k)) (c:T<2^64):qm v3 op (a:Int) (b:Int)=some (T:Int):=by
 have:=qb6 d e f c 64 0 v3 (by omega) (by show 5*64+1<=1000000000;omega);rw [Nat.pow_zero,Nat.mod_one] at this;rw [zaf2];exact this
def jq1 {a T z:Nat} {s b} (o:a<2^64) (p:z<=64) (x: -64<=s/\s<=64) (q: ∀k:Nat,k<z->T.testBit k=if 0<=(k:Int)-s/\(k:Int)-s<z then a.testBit ((k:Int)-s).toNat else b) (d:T<2^z): ∀(m k n:Nat),k+m=z->4*m+1<=n->vk1 n (a:Int) s (z:Int) b ((T%2^k:Nat):Int) (k:Int)=some (T:Int)
 |0,k,n,y,A=>by
  obtain ⟨n,rfl⟩: ∃g,n=g+1:=⟨n-1,by omega⟩;obtain rfl:k=z:=by omega
  rw [vc2,j5,if_neg (by simp),N6 d]
 |m+1,k,n,y,A=>by
  obtain ⟨n,rfl⟩: ∃g,n=g+1+1+1+1:=⟨n-4,by omega⟩;have r:=jq1 o p x q d m (k+1) n (by omega) (by omega);have t: ∀v,kp3 (n+1) (a:Int) s (z:Int) b v (k:Int)=vk1 n (a:Int) s (z:Int) b v ((k+1:Nat):Int):=fun v=>by
   rw [gd3,u0 (by omega),show ((k:Int)+1)=((k+1:Nat):Int) by omega]
  have i: ∀c,T.testBit k=c->kq4 (n+1+1) (a:Int) s (z:Int) b ((T%2^k:Nat):Int) (k:Int) c=some (T:Int):=fun c u=>by
   rw [ga1,j5,if_neg (show ¬IntKind.u64.wrap (k:Int)<0 by rw [q7];omega),t,t];cases c with
   |false=>
    rw [if_neg (by decide)];have e:T%2^(k+1)=T%2^k:=by rw [zp7,u];simp
    rw [<-e];exact r
   |true=>rw [if_pos rfl,jn1 p (by omega) u];exact r
  have h:=q k (by omega);rw [vc2,j5,if_pos (by simp;omega),u0 (by omega),j5];by_cases f:0<=(k:Int)-s
  ·rw [if_pos (by simpa using f),qu8,j5];by_cases j:(k:Int)-s<z
   ·rw [if_pos (by simpa using j)];rw [if_pos ⟨f,j⟩] at h;have w:=kq6 o (show ((k:Int)-s).toNat<64 by omega);rw [Int.toNat_of_nonneg f] at w;rw [w,z6,i _ h]
   ·rw [if_neg (by simpa using j),i _ (by rw [h,if_neg (by omega)])]
  ·rw [if_neg (by simpa using f),qu8,j5,if_neg (by decide),i _ (by rw [h,if_neg (by omega)])]
def vx9 {a T z:Nat} {s b} (d:a<2^64) (e:z<=64) (f: -64<=s/\s<=64) (g: ∀k:Nat,k<z->T.testBit k=if 0<=(k:Int)-s/\(k:Int)-s<z then a.testBit ((k:Int)-s).toNat else b) (c:T<2^z):qs v3 (a:Int) s (z:Int) b=some (T:Int):=by
 have:=jq1 d e f g c z 0 v3 (by omega) (by show 4*z+1<=1000000000;omega);rw [Nat.pow_zero,Nat.mod_one] at this;rw [zam0];exact this
def gh9 {a s z:Nat} (b:Bool) (c:a<2^z) (d:z<=64) (e:s<z):qs v3 (a:Int) (0-(s:Int)) (z:Int) b=some ((yk2 z a s b:Nat):Int):=by
 refine vx9 (U9 c (J4 (by decide) d)) d (by omega) (fun k f=>?_) (jn9 c e);rw [ge6 c e f];by_cases h:k+s<z
 ·rw [if_pos h,if_pos (by omega),show ((k:Int)-(0-(s:Int))).toNat=k+s by omega]
 ·rw [if_neg h,if_neg (by omega)]
def up_p {a s z:Nat} (c:a<2^z) (b:z<=64) (e:s<z):qs v3 (a:Int) (s:Int) (z:Int) false=some (((a <<< s)%2^z:Nat):Int):=by
 refine vx9 (U9 c (J4 (by decide) b)) b (by omega) (fun k d=>?_) (V4 _ (V8 _));rw [Nat.testBit_mod_two_pow,Nat.testBit_shiftLeft];by_cases h:s<=k
 ·rw [if_pos (by omega),show ((k:Int)-(s:Int)).toNat=k-s by omega];simp [d,h]
 ·rw [if_neg (by omega)];simp [h]
def rV (z:Nat) (op:Int) (a b:Nat):Int×Int:=
 if op=1 then (IntKind.u64.wrap ((a:Int)+(b:Int)),0) else if op=2 then (IntKind.u64.wrap ((a:Int)-(b:Int)),0) else if op=3 then (IntKind.u64.wrap ((a:Int)*(b:Int)),0)
 else if op=4 then (if b=0 then (0,113) else (((a/b:Nat):Int),0)) else if op=5 then (if b=0 then (0,113) else (((a%b:Nat):Int),0))
 else if op=6 then (((a&&&b:Nat):Int),0) else if op=7 then (((a|||b:Nat):Int),0) else if op=8 then (((a^^^b:Nat):Int),0)
 else if op=9 then ((((a <<< (b%z))%2^z:Nat):Int),0) else if op=10 then (((yk2 z a (b%z) false:Nat):Int),0) else if op=11 then (((yk2 z a (b%z) (a.testBit (z-1)):Nat):Int),0)
 else if op=12 then ((b:Int),0) else if op=13 then (IntKind.u64.wrap (0-(a:Int)),0) else (0,2)
def vk5 (nw:Bool) (r:Int×Int):Int×Int:=if r.2=0 then (if nw=true then (g9 .u64 r.1 4294967295,0) else (r.1,0)) else (0,r.2)
def zw0 (n nw v):yk9 (n+1) nw v=some (vk5 nw (v,0)):=by
 rw [gc3];cases nw<;>rfl
def jm3 (a b:Nat):((a:Int)).tdiv (b:Int)=((a/b:Nat):Int):=by
 rw [S8 (by omega)];exact (Int.natCast_ediv a b).symm
def jc1 (a b:Nat):((a:Int)).tmod (b:Int)=((a%b:Nat):Int):=by
 rw [K9 (by omega)];exact (Int.natCast_emod a b).symm
def gk4 (n:Nat) (op:Int) (nw:Bool) {z a b:Nat} (N:z=32\/z=64) (p:a<2^z) (O:b<2^z):ko1 (n+1+1+1+1) op nw (a:Int) (b:Int) (z:Int)=some (vk5 nw (rV z op a b)):=by
 have g:z<=64:=by omega
 have H:2^z<=2^64:=J4 (by decide) g;have c:a<2^64:=by omega
 have d:b<2^64:=by omega
 have F:IntKind.u64.wrap (z:Int)=(z:Int):=by rw [q7];omega
 have s:b%z<z:=V4 _ (by omega);have es:IntKind.i64.wrap ((b:Int).tmod (IntKind.u64.wrap (z:Int)))=((b%z:Nat):Int):=by rw [F,jc1,u0 (by omega)]
 have G:IntKind.i64.wrap (0-((b%z:Nat):Int))=0-((b%z:Nat):Int):=u0 (by omega);have h: ¬IntKind.u64.wrap (z:Int)=0:=by rw [F];omega
 by_cases t:op=1
 ·subst t;rw [zh9,show ((1:Int)==1)=true from rfl,z9,zw0];rfl
 by_cases u:op=2
 ·subst u;rw [zh9,show ((2:Int)==1)=false from rfl,z5,show ((2:Int)==2)=true from rfl,z9,zw0];rfl
 by_cases v:op=3
 ·subst v;rw [zh9,show ((3:Int)==1)=false from rfl,z5,show ((3:Int)==2)=false from rfl,z5,show ((3:Int)==3)=true from rfl,z9,zw0];rfl
 by_cases w:op=4
 ·subst w;rw [zh9,show ((4:Int)==1)=false from rfl,z5,show ((4:Int)==2)=false from rfl,z5,show ((4:Int)==3)=false from rfl,z5,show ((4:Int)==4)=true from rfl,z9];have y:rV z 4 a b=if b=0 then (0,113) else (((a/b:Nat):Int),0):=rfl
  rw [y,zl7,z9,j5];by_cases f:b=0
  ·subst f;rw [if_pos (by decide),if_pos rfl];rfl
  ·rw [if_neg (show ¬(((b:Nat):Int)==0)=true by simpa using f),if_neg (show ¬((b:Nat):Int)=0 by omega),if_neg f,show ((4:Int)==5)=false from rfl,z5];have I:a/b<=a:=K4 _ _;rw [jm3];generalize a/b=q at *;rw [zc1 ⟨by omega,by omega⟩,zw0]
 by_cases A:op=5
 ·subst A;rw [zh9,show ((5:Int)==1)=false from rfl,z5,show ((5:Int)==2)=false from rfl,z5,show ((5:Int)==3)=false from rfl,z5,show ((5:Int)==4)=false from rfl,z5,show ((5:Int)==5)=true from rfl];have y:rV z 5 a b=if b=0 then (0,113) else (((a%b:Nat):Int),0):=rfl
  rw [y,zl7,z9,j5];by_cases f:b=0
  ·subst f;rw [if_pos (by decide),if_pos rfl];rfl
  ·rw [if_neg (show ¬(((b:Nat):Int)==0)=true by simpa using f),if_neg (show ¬((b:Nat):Int)=0 by omega),if_neg f,show ((5:Int)==5)=true from rfl,z9];have I:a/b<=a:=K4 _ _;have Q:=Nat.div_add_mod a b;have J:a%b<=a:=Nat.mod_le _ _;have e:((a/b:Nat):Int)*(b:Int)=((b*(a/b):Nat):Int):=by rw [T1];push_cast;rfl
   have K:IntKind.u64.wrap ((a/b:Nat):Int)=((a/b:Nat):Int):=by generalize a/b=q at *;exact zc1 ⟨by omega,by omega⟩
   rw [jm3,K,e];generalize b*(a/b)=q at *;generalize a%b=r at *;rw [zc1 (x:=((q:Nat):Int)) ⟨by omega,by omega⟩,show (a:Int)-(q:Int)=((r:Nat):Int) by omega,zc1 ⟨by omega,by omega⟩,zw0]
 by_cases B:op=6
 ·subst B;rw [zh9,show ((6:Int)==1)=false from rfl,z5,show ((6:Int)==2)=false from rfl,z5,show ((6:Int)==3)=false from rfl,z5,show ((6:Int)==4)=false from rfl,z5,show ((6:Int)==5)=false from rfl];rw [zl7,z5,show ((6:Int)==6)=true from rfl,z9];rw [zq2,z9,qn2 (T:=a&&&b) c d (fun k _=>by rw [Nat.testBit_and];rfl) (Nat.and_lt_two_pow _ d),z6,zw0];rfl
 by_cases C:op=7
 ·subst C;rw [zh9,show ((7:Int)==1)=false from rfl,z5,show ((7:Int)==2)=false from rfl,z5,show ((7:Int)==3)=false from rfl,z5,show ((7:Int)==4)=false from rfl,z5,show ((7:Int)==5)=false from rfl];rw [zl7,z5,show ((7:Int)==6)=false from rfl,z5,show ((7:Int)==7)=true from rfl,z9];rw [zq2,z9,qn2 (T:=a|||b) c d (fun k _=>by rw [Nat.testBit_or];rfl) (K8 c d),z6,zw0];rfl
 by_cases D:op=8
 ·subst D;rw [zh9,show ((8:Int)==1)=false from rfl,z5,show ((8:Int)==2)=false from rfl,z5,show ((8:Int)==3)=false from rfl,z5,show ((8:Int)==4)=false from rfl,z5,show ((8:Int)==5)=false from rfl];rw [zl7,z5,show ((8:Int)==6)=false from rfl,z5,show ((8:Int)==7)=false from rfl,z5,show ((8:Int)==8)=true from rfl];rw [zq2,z9,qn2 (T:=a^^^b) c d (fun k _=>by rw [Nat.testBit_xor];rfl) (M2 c d),z6,zw0];rfl
 by_cases E:op=9
 ·subst E;rw [zh9,show ((9:Int)==1)=false from rfl,z5,show ((9:Int)==2)=false from rfl,z5,show ((9:Int)==3)=false from rfl,z5,show ((9:Int)==4)=false from rfl,z5,show ((9:Int)==5)=false from rfl];rw [zl7,z5,show ((9:Int)==6)=false from rfl,z5,show ((9:Int)==7)=false from rfl,z5,show ((9:Int)==8)=false from rfl];rw [zq2,z5,show ((9:Int)==9)=true from rfl,z9,if_neg h,es,up_p p g s,z6,zw0];rfl
 by_cases i:op=10
 ·subst i;rw [zh9,show ((10:Int)==1)=false from rfl,z5,show ((10:Int)==2)=false from rfl,z5,show ((10:Int)==3)=false from rfl,z5,show ((10:Int)==4)=false from rfl,z5,show ((10:Int)==5)=false from rfl];rw [zl7,z5,show ((10:Int)==6)=false from rfl,z5,show ((10:Int)==7)=false from rfl,z5,show ((10:Int)==8)=false from rfl];rw [zq2,z5,show ((10:Int)==9)=false from rfl,z5,show ((10:Int)==10)=true from rfl,z9,if_neg h,es,G,gh9 false p g s,z6,zw0];rfl
 by_cases j:op=11
 ·subst j;rw [zh9,show ((11:Int)==1)=false from rfl,z5,show ((11:Int)==2)=false from rfl,z5,show ((11:Int)==3)=false from rfl,z5,show ((11:Int)==4)=false from rfl,z5,show ((11:Int)==5)=false from rfl];rw [zl7,z5,show ((11:Int)==6)=false from rfl,z5,show ((11:Int)==7)=false from rfl,z5,show ((11:Int)==8)=false from rfl];rw [zq2,z5,show ((11:Int)==9)=false from rfl,z5,show ((11:Int)==10)=false from rfl,z5,show ((11:Int)==11)=true from rfl,z9,if_neg h,u0 (x:=(z:Int)-1) (by omega),show (z:Int)-1=((z-1:Nat):Int) by omega,kq6 c (by omega),z6,es,G,gh9 _ p g s,z6,zw0];rfl
 by_cases m:op=12
 ·subst m;rw [zh9,show ((12:Int)==1)=false from rfl,z5,show ((12:Int)==2)=false from rfl,z5,show ((12:Int)==3)=false from rfl,z5,show ((12:Int)==4)=false from rfl,z5,show ((12:Int)==5)=false from rfl];rw [zl7,z5,show ((12:Int)==6)=false from rfl,z5,show ((12:Int)==7)=false from rfl,z5,show ((12:Int)==8)=false from rfl];rw [zq2,z5,show ((12:Int)==9)=false from rfl,z5,show ((12:Int)==10)=false from rfl,z5,show ((12:Int)==11)=false from rfl,z5,show ((12:Int)==12)=true from rfl,z9,zw0];rfl
 by_cases o:op=13
 ·subst o;rw [zh9,show ((13:Int)==1)=false from rfl,z5,show ((13:Int)==2)=false from rfl,z5,show ((13:Int)==3)=false from rfl,z5,show ((13:Int)==4)=false from rfl,z5,show ((13:Int)==5)=false from rfl];rw [zl7,z5,show ((13:Int)==6)=false from rfl,z5,show ((13:Int)==7)=false from rfl,z5,show ((13:Int)==8)=false from rfl];rw [zq2,z5,show ((13:Int)==9)=false from rfl,z5,show ((13:Int)==10)=false from rfl,z5,show ((13:Int)==11)=false from rfl,z5,show ((13:Int)==12)=false from rfl,z5,show ((13:Int)==13)=true from rfl,z9,zw0];rfl
 unfold rV;rw [if_neg t,if_neg u,if_neg v,if_neg w,if_neg A,if_neg B,if_neg C,if_neg D,if_neg E,if_neg i,if_neg j,if_neg m,if_neg o];have L:(op==5)=false:=by simpa using A
 have M:(op==8)=false:=by simpa using D
 rw [zh9,j5,if_neg (by simpa using t),j5,if_neg (by simpa using u),j5,if_neg (by simpa using v),j5,if_neg (by simpa using w),L,zl7,z5,j5,if_neg (by simpa using B),j5,if_neg (by simpa using C),M,zq2,z5,j5,if_neg (by simpa using E),j5,if_neg (by simpa using i),j5,if_neg (by simpa using j),j5,if_neg (by simpa using m),j5,if_neg (by simpa using o)];rfl
def jl3 {x:Nat} (h:x<2^32):(BitVec.ofInt IntKind.u32.bits (x:Int)).toNat=x:=by
 rw [BitVec.toNat_ofInt];simp only [IntKind.bits];omega
def ku2 {x:Nat} (h:x<2^64):IntKind.u64.wrap (x:Int)=(x:Int):=by rw [q7];omega
def gk1 (k:IntKind) (a s:Nat) (h:s<=k.bits):za6 k (a:Int) (s:Int)=((a/2^s:Nat):Int):=by
 unfold za6;rw [M3 _ (by exact V7 (V1 (by omega))),show min (s:Int).toNat k.bits=s by omega];simp
def gt7 (k:IntKind) (a s:Nat) (h:s<=k.bits):zr4 k (a:Int) (s:Int)=k.wrap ((a <<< s:Nat):Int):=by
 unfold zr4;rw [show min (s:Int).toNat k.bits=s by omega,R4]
 push_cast;rfl
def sarF (z a s):yk2 z a s false=a/2^s:=by unfold yk2;rw [T5];simp
def zal6 (op:Int) {a b:Nat} (t:a<2^64) (v:b<2^64):doW .u64 .i64 64 op (a:Int) (b:Int)=vk5 false (rV 64 op a b):=by
 have es:(b:Int).tmod 64=((b%64:Nat):Int):=jc1 b 64;have u:b%64<64:=V4 _ (by decide);unfold doW doV;rw [es];by_cases n:op=4
 ·subst n;show (if ((4:Int)=4\/(4:Int)=5)/\(b:Int)=0 then _ else (IntKind.u64.wrap ((a:Int).tdiv (b:Int)),0))=vk5 false (if b=0 then (0,113) else (((a/b:Nat):Int),0));by_cases c:b=0
  ·rw [if_pos ⟨.inl rfl,by omega⟩,if_pos c];rfl
  ·have:=K4 a b;rw [if_neg (fun h=>c (by have:=h.2;omega)),if_neg c,jm3];generalize a/b=q at *;rw [ku2 (by omega)];rfl
 by_cases o:op=5
 ·subst o;show (if ((5:Int)=4\/(5:Int)=5)/\(b:Int)=0 then _ else ((a:Int).tmod (b:Int),0))=vk5 false (if b=0 then (0,113) else (((a%b:Nat):Int),0));by_cases c:b=0
  ·rw [if_pos ⟨.inr rfl,by omega⟩,if_pos c];rfl
  ·rw [if_neg (fun h=>c (by have:=h.2;omega)),if_neg c,jc1];rfl
 rw [if_neg (fun h=>by rcases h.1 with h|h<;>omega),if_neg n,if_neg o];unfold rV;rw [if_neg n,if_neg o];by_cases p:op=1
 ·subst p;rfl
 by_cases r:op=2
 ·subst r;rfl
 by_cases s:op=3
 ·subst s;rfl
 rw [if_neg p,if_neg r,if_neg s,if_neg p,if_neg r,if_neg s];by_cases f:op=6
 ·rw [if_pos f,if_pos f,zm5 (by omega) (by omega)];rfl
 by_cases i:op=7
 ·rw [if_neg f,if_neg f,if_pos i,if_pos i,qq4 (by omega) (by omega)];rfl
 by_cases m:op=8
 ·rw [if_neg f,if_neg f,if_neg i,if_neg i,if_pos m,if_pos m,jk7 (by omega) (by omega)];rfl
 rw [if_neg f,if_neg f,if_neg i,if_neg i,if_neg m,if_neg m];by_cases g:op=9
 ·rw [if_pos g,if_pos g,gt7 .u64 a _ (by show b%64<=64;omega),q7,show (18446744073709551616:Int)=((2^64:Nat):Int) from by decide,<-Int.natCast_emod];rfl
 by_cases d:op=10
 ·rw [if_neg g,if_neg g,if_pos d,if_pos d,gk1 .u64 a _ (by show b%64<=64;omega),sarF];rfl
 by_cases e:op=11
 ·rw [if_neg g,if_neg g,if_neg d,if_neg d,if_pos e,if_pos e,wa7 t u];rfl
 rw [if_neg g,if_neg g,if_neg d,if_neg d,if_neg e,if_neg e];by_cases j:op=12
 ·subst j;rfl
 by_cases k:op=13
 ·subst k;rfl
 rw [if_neg j,if_neg k];rfl
def jw0 (x) (h:q8 x):g9 .u64 x 4294967295=x%4294967296:=by
 rw [zm5 h (by decide),show (4294967295:Int).toNat=2^32-1 from rfl,S7];omega
def cutT {v w} (a:q8 v) (h:v%4294967296=w):vk5 true (v,0)=(w,0):=by
 show (g9 .u64 v 4294967295,(0:Int))=_;rw [jw0 _ a,h]
def zad8 (op:Int) {a b:Nat} (j:a<2^32) (n:b<2^32):(IntKind.u64.wrap (doW .u32 .i32 32 op (a:Int) (b:Int)).1,(doW .u32 .i32 32 op (a:Int) (b:Int)).2)=vk5 true (rV 32 op a b):=by
 have es:(b:Int).tmod 32=((b%32:Nat):Int):=jc1 b 32;have C:b%32<32:=V4 _ (by decide);have D: ∀x:Int,0<=x->x<=4294967295->IntKind.u64.wrap x=x:=fun x p r=>zc1 ⟨p,by omega⟩;have c: ∀v w:Int,q8 v->v%4294967296=w->(IntKind.u64.wrap w,(0:Int))=vk5 true (v,0):=fun v w E h=>by
  rw [cutT E h,D _ (by omega) (by omega)]
 unfold doW doV;rw [es];by_cases t:op=4
 ·subst t;by_cases d:b=0
  ·subst d;rfl
  ·have:=K4 a b;have u: ¬(((4:Int)=4\/(4:Int)=5)/\(b:Int)=0):=fun h=>d (by have:=h.2;omega);have y:rV 32 4 a b=(((a/b:Nat):Int),0):=by show (if b=0 then _ else _)=_;rw [if_neg d]
   rw [if_neg u,y];show (IntKind.u64.wrap (IntKind.u32.wrap ((a:Int).tdiv (b:Int))),(0:Int))=_;rw [jm3];generalize a/b=q at *;exact c _ _ (by omega) (by rw [w5])
 by_cases z:op=5
 ·subst z;by_cases d:b=0
  ·subst d;rfl
  ·have:=Nat.mod_le a b;have u: ¬(((5:Int)=4\/(5:Int)=5)/\(b:Int)=0):=fun h=>d (by have:=h.2;omega);have y:rV 32 5 a b=(((a%b:Nat):Int),0):=by show (if b=0 then _ else _)=_;rw [if_neg d]
   rw [if_neg u,y];show (IntKind.u64.wrap ((a:Int).tmod (b:Int)),(0:Int))=_;rw [jc1];generalize a%b=q at *;exact c _ _ (by omega) (by omega)
 rw [if_neg (fun h=>by rcases h.1 with h|h<;>omega),if_neg t,if_neg z];unfold rV;rw [if_neg t,if_neg z];by_cases p:op=1
 ·subst p;exact c (IntKind.u64.wrap ((a:Int)+(b:Int))) (IntKind.u32.wrap ((a:Int)+(b:Int))) (jc0 _) (by rw [q7,w5];omega)
 by_cases r:op=2
 ·subst r;exact c (IntKind.u64.wrap ((a:Int)-(b:Int))) (IntKind.u32.wrap ((a:Int)-(b:Int))) (jc0 _) (by rw [q7,w5];omega)
 by_cases A:op=3
 ·subst A;exact c (IntKind.u64.wrap ((a:Int)*(b:Int))) (IntKind.u32.wrap ((a:Int)*(b:Int))) (jc0 _) (by rw [q7,w5];omega)
 rw [if_neg p,if_neg r,if_neg A,if_neg p,if_neg r,if_neg A];by_cases g:op=6
 ·rw [if_pos g,if_pos g];have B:=Nat.and_lt_two_pow a n;unfold g9;rw [BitVec.toNat_and,jl3 j,jl3 n];exact c _ _ (by omega) (by rw [w5])
 by_cases o:op=7
 ·rw [if_neg g,if_neg g,if_pos o,if_pos o];have B:=K8 j n;unfold bOr;rw [BitVec.toNat_or,jl3 j,jl3 n];exact c _ _ (by omega) (by rw [w5])
 by_cases s:op=8
 ·rw [if_neg g,if_neg g,if_neg o,if_neg o,if_pos s,if_pos s];have B:=M2 j n;unfold yl9;rw [BitVec.toNat_xor,jl3 j,jl3 n];exact c _ _ (by omega) (by rw [w5])
 rw [if_neg g,if_neg g,if_neg o,if_neg o,if_neg s,if_neg s];by_cases i:op=9
 ·rw [if_pos i,if_pos i,gt7 .u32 a _ (by show b%32<=32;omega)];generalize a <<< (b%32)=q;exact c _ _ (by omega) (by rw [w5];omega)
 by_cases e:op=10
 ·rw [if_neg i,if_neg i,if_pos e,if_pos e,gk1 .u32 a _ (by show b%32<=32;omega),sarF];have:=K4 a (2^(b%32));generalize a/2^(b%32)=q at *;exact c _ _ (by omega) (by omega)
 by_cases f:op=11
 ·rw [if_neg i,if_neg i,if_neg e,if_neg e,if_pos f,if_pos f,wc2 j C];have B:=jn9 (b:=a.testBit 31) j C;show _=vk5 true (((yk2 32 a (b%32) (a.testBit 31):Nat):Int),0);generalize yk2 32 a (b%32) (a.testBit 31)=q at *;exact c _ _ (by omega) (by omega)
 rw [if_neg i,if_neg i,if_neg e,if_neg e,if_neg f,if_neg f];by_cases k:op=12
 ·subst k;exact c (b:Int) (b:Int) (by omega) (by omega)
 by_cases m:op=13
 ·subst m;exact c (IntKind.u64.wrap (0-(a:Int))) (IntKind.u32.wrap (0-(a:Int))) (jc0 _) (by rw [q7,w5];omega)
 rw [if_neg k,if_neg k,if_neg m,if_neg m];rfl
def jp4 (a:Nat) (b:a<2^64):g9 .u64 (a:Int) 4294967295=((a%2^32:Nat):Int):=by rw [jw0 _ (by omega)];omega
def jr4 (a:Nat):IntKind.u32.wrap (a:Int)=((a%2^32:Nat):Int):=by rw [w5];omega
def wv1 (op:Int) (nw:Bool) (a b:Int) (ha:U64 a) (hb:U64 b):qe v3 op nw a b=some (aluP op nw a b):=by
 obtain ⟨n,e⟩: ∃n:Nat,(v3:Nat)=n+1+1+1+1:=⟨999999996,rfl⟩;obtain ⟨a,rfl⟩:=N1 ha.1;obtain ⟨b,rfl⟩:=N1 hb.1;have ha:a<2^64:=by have:=ha.2;omega
 have hb:b<2^64:=by have:=hb.2;omega
 rw [zal1,e];unfold aluP;cases nw with
 |false=>
  rw [z5,if_neg (by decide),zal6 op ha hb];exact gk4 n op false (z:=64) (.inr rfl) ha hb
 |true=>
  rw [z9,if_pos rfl,jp4 a ha,jp4 b hb,jr4,jr4,zad8 op (V4 _ (by decide)) (V4 _ (by decide))];exact gk4 n op true (z:=32) (.inl rfl) (V4 _ (by decide)) (V4 _ (by decide))
def isQ (op a b:Int) (c:Bool):Bool×Int:=
 if op=17 then (a==b,0) else if op=18 then (a != b,0) else if op=19\/op=23 then (decide (a>b),0) else if op=20\/op=24 then (decide (a>=b),0) else if op=21\/op=25 then (decide (a<b),0) else if op=22\/op=26 then (decide (a<=b),0)
 else if op=27 then (c,0) else (false,2)
def vp2 (n:Nat) (op:Int) {a b:Nat} (r:a<2^64) (q:b<2^64):km3 (n+1+1+1+1+1) op (a:Int) (b:Int)=some (isQ op (a:Int) (b:Int) (((a&&&b:Nat):Int) != 0)):=by
 by_cases c:op=17
 ·subst c;rw [zk5,show ((17:Int)==17)=true from rfl,z9];rfl
 by_cases d:op=18
 ·subst d;rw [zk5,show ((18:Int)==17)=false from rfl,z5,show ((18:Int)==18)=true from rfl,z9];rfl
 by_cases f:op=19
 ·subst f;rw [zk5,show ((19:Int)==17)=false from rfl,z5,show ((19:Int)==18)=false from rfl,z5,show ((19:Int)==19)=true from rfl,z9,zo1,z9];rfl
 by_cases g:op=20
 ·subst g;rw [zk5,show ((20:Int)==17)=false from rfl,z5,show ((20:Int)==18)=false from rfl,z5,show ((20:Int)==19)=false from rfl,z5,show ((20:Int)==23)=false from rfl,zo1,z5,show ((20:Int)==20)=true from rfl,z9,zv1,z9];rfl
 by_cases h:op=21
 ·subst h;rw [zk5,show ((21:Int)==17)=false from rfl,z5,show ((21:Int)==18)=false from rfl,z5,show ((21:Int)==19)=false from rfl,z5,show ((21:Int)==23)=false from rfl,zo1,z5,show ((21:Int)==20)=false from rfl,z5,show ((21:Int)==24)=false from rfl,zv1,z5,show ((21:Int)==21)=true from rfl,z9,yh1,z9];rfl
 by_cases i:op=22
 ·subst i;rw [zk5,show ((22:Int)==17)=false from rfl,z5,show ((22:Int)==18)=false from rfl,z5,show ((22:Int)==19)=false from rfl,z5,show ((22:Int)==23)=false from rfl,zo1,z5,show ((22:Int)==20)=false from rfl,z5,show ((22:Int)==24)=false from rfl,zv1,z5,show ((22:Int)==21)=false from rfl,z5,show ((22:Int)==25)=false from rfl,yh1,z5,show ((22:Int)==22)=true from rfl,z9,ja8,z9];rfl
 by_cases j:op=23
 ·subst j;rw [zk5,show ((23:Int)==17)=false from rfl,z5,show ((23:Int)==18)=false from rfl,z5,show ((23:Int)==19)=false from rfl,z5,show ((23:Int)==23)=true from rfl,zo1,z9];rfl
 by_cases m:op=24
 ·subst m;rw [zk5,show ((24:Int)==17)=false from rfl,z5,show ((24:Int)==18)=false from rfl,z5,show ((24:Int)==19)=false from rfl,z5,show ((24:Int)==23)=false from rfl,zo1,z5,show ((24:Int)==20)=false from rfl,z5,show ((24:Int)==24)=true from rfl,zv1,z9];rfl
 by_cases o:op=25
 ·subst o;rw [zk5,show ((25:Int)==17)=false from rfl,z5,show ((25:Int)==18)=false from rfl,z5,show ((25:Int)==19)=false from rfl,z5,show ((25:Int)==23)=false from rfl,zo1,z5,show ((25:Int)==20)=false from rfl,z5,show ((25:Int)==24)=false from rfl,zv1,z5,show ((25:Int)==21)=false from rfl,z5,show ((25:Int)==25)=true from rfl,yh1,z9];rfl
 by_cases p:op=26
 ·subst p;rw [zk5,show ((26:Int)==17)=false from rfl,z5,show ((26:Int)==18)=false from rfl,z5,show ((26:Int)==19)=false from rfl,z5,show ((26:Int)==23)=false from rfl,zo1,z5,show ((26:Int)==20)=false from rfl,z5,show ((26:Int)==24)=false from rfl,zv1,z5,show ((26:Int)==21)=false from rfl,z5,show ((26:Int)==25)=false from rfl,yh1,z5,show ((26:Int)==22)=false from rfl,z5,show ((26:Int)==26)=true from rfl,ja8,z9];rfl
 by_cases e:op=27
 ·subst e;rw [zk5,show ((27:Int)==17)=false from rfl,z5,show ((27:Int)==18)=false from rfl,z5,show ((27:Int)==19)=false from rfl,z5,show ((27:Int)==23)=false from rfl,zo1,z5,show ((27:Int)==20)=false from rfl,z5,show ((27:Int)==24)=false from rfl,zv1,z5,show ((27:Int)==21)=false from rfl,z5,show ((27:Int)==25)=false from rfl,yh1,z5,show ((27:Int)==22)=false from rfl,z5,show ((27:Int)==26)=false from rfl,ja8,z5,show ((27:Int)==27)=true from rfl,z9,qn2 (T:=a&&&b) r q (fun k _=>by rw [Nat.testBit_and];rfl) (Nat.and_lt_two_pow _ q),z6];rfl
 have s:(op==23)=false:=by simpa using j
 have t:(op==24)=false:=by simpa using m
 have u:(op==25)=false:=by simpa using o
 have v:(op==26)=false:=by simpa using p
 unfold isQ;rw [if_neg c,if_neg d,if_neg (by omega),if_neg (by omega),if_neg (by omega),if_neg (by omega),if_neg e];rw [zk5,j5,if_neg (by simpa using c),j5,if_neg (by simpa using d),j5,if_neg (by simpa using f),s,zo1,z5,j5,if_neg (by simpa using g),t,zv1,z5,j5,if_neg (by simpa using h),u,yh1,z5,j5,if_neg (by simpa using i),v,ja8,z5,j5,if_neg (by simpa using e)]
def gs2 (n:Nat) (op:Int) {a b t:Nat} (c:a<2^64) (d:b<2^64) (f:t<2^64):km5 (n+1+1+1+1+1+1+1) op (a:Int) (b:Int) (t:Int)=some (if 23<=op/\op<=26 then isQ op ((a^^^t:Nat):Int) ((b^^^t:Nat):Int) false else isQ op (a:Int) (b:Int) (((a&&&b:Nat):Int) != 0)):=by
 rw [gf5,j5];by_cases h:op>=23
 ·rw [if_pos (by simpa using h),qu9,j5];by_cases e:op<=26
  ·rw [if_pos (by simpa using e),if_pos ⟨h,e⟩,jk7 (by omega) (by omega),jk7 (by omega) (by omega)];simp only [Z1];rw [vp2 _ _ (M2 c f) (M2 d f)];unfold isQ;rw [if_neg (show ¬op=27 by omega),if_neg (show ¬op=27 by omega)]
  ·rw [if_neg (by simpa using e),if_neg (by omega),vp2 _ _ c d]
 ·rw [if_neg (by simpa using h),qu9,z5,if_neg (by omega),vp2 _ _ c d]
def gt8 {a z} (d:a<2^(z+1)):((a^^^2^z:Nat):Int)=if 2^z<=a then (a:Int)-(2^z:Nat) else (a:Int)+(2^z:Nat):=by
 have e:=V8 z;have g:(a^^^2^z)/2^z=(a/2^z)^^^1:=by rw [Nat.xor_div_two_pow,Nat.div_self e]
 have i:(a^^^2^z)%2^z=a%2^z:=by rw [Nat.xor_mod_two_pow,Nat.mod_self,Nat.xor_zero]
 have b:=Nat.div_add_mod (a^^^2^z) (2^z);have f:=Nat.div_add_mod a (2^z);have j:a/2^z<2:=N2 (by rw [Nat.pow_succ] at d;exact d);rw [g,i] at b;by_cases h:2^z<=a
 ·have k:1<=a/2^z:=(Nat.one_le_div_iff e).2 h;have c:a/2^z=1:=by omega
  rw [c] at b f;rw [if_pos h,<-b];rw [show (1^^^1:Nat)=0 from rfl];generalize a%2^z=r at *;generalize 2^z=q at *;omega
 ·have c:a/2^z=0:=Nat.div_eq_of_lt (by omega);rw [c] at b f;rw [if_neg h,<-b];rw [show (0^^^1:Nat)=1 from rfl];generalize a%2^z=r at *;generalize 2^z=q at *;omega
def wz9 {a} (b:a<2^64):((a^^^9223372036854775808:Nat):Int)=IntKind.i64.wrap (a:Int)+9223372036854775808:=by
 have:=gt8 (z:=63) b;rw [show (2:Nat)^63=9223372036854775808 from rfl] at this;rw [this,zo6];split<;>split<;>omega
def ww0 {a} (b:a<2^32):((a^^^2147483648:Nat):Int)=IntKind.i32.wrap (a:Int)+2147483648:=by
 have:=gt8 (z:=31) b;rw [show (2:Nat)^31=2147483648 from rfl] at this;rw [this,yj7];split<;>split<;>omega
def wu3 (d k:IntKind) (op:Int) {a b:Nat} {p q c:Int} (f:p=d.wrap (a:Int)+c) (g:q=d.wrap (b:Int)+c) (e:g9 k (a:Int) (b:Int)=((a&&&b:Nat):Int)):isW d k op (a:Int) (b:Int)=if 23<=op/\op<=26 then isQ op p q false else isQ op (a:Int) (b:Int) (((a&&&b:Nat):Int) != 0):=by
 unfold isW isQ;subst f g;generalize d.wrap (a:Int)=x;generalize d.wrap (b:Int)=y;rw [e];by_cases h:23<=op/\op<=26
 ·rw [if_pos h,if_neg (show ¬op=17 by omega),if_neg (show ¬op=18 by omega),if_neg (show ¬op=19 by omega),if_neg (show ¬op=20 by omega),if_neg (show ¬op=21 by omega),if_neg (show ¬op=22 by omega),if_neg (show ¬op=17 by omega),if_neg (show ¬op=18 by omega)];have i:op=23\/op=24\/op=25\/op=26:=by omega
  rcases i with h|h|h|h<;>subst h
  ·rw [if_pos rfl,if_pos (.inr rfl)];congr 1;rw [decide_eq_decide];omega
  ·rw [if_neg (by decide),if_pos rfl,if_neg (by decide),if_pos (.inr rfl)];congr 1;rw [decide_eq_decide];omega
  ·rw [if_neg (by decide),if_neg (by decide),if_pos rfl,if_neg (by decide),if_neg (by decide),if_pos (.inr rfl)];congr 1;rw [decide_eq_decide];omega
  ·rw [if_neg (by decide),if_neg (by decide),if_neg (by decide),if_pos rfl,if_neg (by decide),if_neg (by decide),if_neg (by decide),if_pos (.inr rfl)];congr 1;rw [decide_eq_decide];omega
 ·rw [if_neg h];simp only [show (op=19\/op=23)=(op=19) by simp;omega,show (op=20\/op=24)=(op=20) by simp;omega,show (op=21\/op=25)=(op=21) by simp;omega,show (op=22\/op=26)=(op=22) by simp;omega,if_neg (show ¬op=23 by omega),if_neg (show ¬op=24 by omega),if_neg (show ¬op=25 by omega),if_neg (show ¬op=26 by omega)]
def zak6 {a b:Nat} (d:a<2^32) (c:b<2^32):g9 .u32 (a:Int) (b:Int)=((a&&&b:Nat):Int):=by
 have e:=Nat.and_lt_two_pow a c;unfold g9;rw [BitVec.toNat_and,jl3 d,jl3 c,w5];omega
def zaf1 (op:Int) (nw:Bool) (a b:Int) (ha:U64 a) (hb:U64 b):qb v3 op nw a b=some (isP op nw a b):=by
 obtain ⟨n,e⟩: ∃n:Nat,(v3:Nat)=n+1+1+1+1+1+1+1:=⟨999999993,rfl⟩;obtain ⟨a,rfl⟩:=N1 ha.1;obtain ⟨b,rfl⟩:=N1 hb.1;have ha:a<2^64:=by have:=ha.2;omega
 have hb:b<2^64:=by have:=hb.2;omega
 rw [zad7,e];unfold isP;cases nw with
 |false=>
  rw [z5,if_neg (by decide),wu3 .i64 .u64 op (wz9 ha) (wz9 hb) (by rw [zm5 (by omega) (by omega)];rfl)];exact gs2 n op (t:=9223372036854775808) ha hb (by decide)
 |true=>
  have ha':=V4 a (show 2^32>0 by decide);have hb':=V4 b (show 2^32>0 by decide);rw [z9,if_pos rfl,jp4 a ha,jp4 b hb,jr4,jr4,wu3 .i32 .u32 op (ww0 ha') (ww0 hb') (zak6 ha' hb')];exact gs2 n op (t:=2147483648) (Nat.lt_trans ha' (by decide)) (Nat.lt_trans hb' (by decide)) (by decide)
end Go.Y.Z
namespace Go.Y.Z
open Go.RowKit Go.V Go.X Go.Proofs
def rv (v:Val):RVal:=⟨v.kind,v.n⟩
def rvK (v):(rv v).Kind=v.kind:=rfl
def rvN (v):(rv v).N=v.n:=rfl
def yi5 {α:Type} (R:List Val) (B:List Int) (S:List Bool) (P:List Int) (r:α):Option (((Unit×Unit×Unit×List Int×Unit)×List RVal×List Int×List Bool×Unit)×α):=some ((((),(),(),P,()),R.map rv,B,S,()),r)
def getR (R:List Val) (k:Nat):(R.map rv).getD k qa0=rv (R.getD k dVal):=by
 rw [Y2,Y2,W0];cases R[k]?<;>rfl
def setR (R:List Val) (k:Nat) (v:Val) (w:RVal) (h:w=rv v):(R.map rv).set k w=(R.set k v).map rv:=by subst h;rw [List.map_set]
def dR:RVal:=⟨0,0⟩
def obind_rout {α a} (R:List Val) (B:List Int) (S:List Bool) (P:List Int) (r:α) (f:_->Option a):z8 (yi5 R B S P r) f=f ((((),(),(),P,()),R.map rv,B,S,()),r):=rfl
def aR (R:List Val) (r:Int):RVal:=if ask1 R r=0 then rv (rg R r) else dR
def sR (i:Ins) (R:List Val):RVal:=if secE i R=0 then rv (secV i R) else dR
def kl9 {R r} (h:ask1 R r=0):aR R r=rv (rg R r):=if_pos h
def ww4 {i R} (h:secE i R=0):sR i R=rv (secV i R):=if_pos h
def wd1 (n off size first long:Int) (hf: -1000<=first/\first<=0) (hs:0<=size/\size<=8) (hl:0<=long/\long<=100000):qbt v3 n off size first long=
  some (if IntKind.i64.wrap (IntKind.u64.wrap (n+IntKind.u64.wrap off))<first\/IntKind.i64.wrap (IntKind.u64.wrap (n+IntKind.u64.wrap off))>first+long-size then (0,112) else (IntKind.i64.wrap (IntKind.u64.wrap (n+IntKind.u64.wrap off))-first,0)):=by
 obtain ⟨n',e⟩: ∃n:Nat,(v3:Nat)=n+1:=⟨999999999,rfl⟩;rw [ur4,j5,e,u0 (x:=first+long) (by omega),u0 (x:=first+long-size) (by omega)];generalize IntKind.i64.wrap (IntKind.u64.wrap (n+IntKind.u64.wrap off))=x;by_cases h1:x<first
 ·rw [if_pos (by simpa using h1),qc0,z9,if_pos (.inl h1)]
 ·rw [if_neg (by simpa using h1),qc0,j5];by_cases h2:x>first+long-size
  ·rw [if_pos (by simpa using h2),if_pos (.inr h2)]
  ·rw [if_neg (by simpa using h2),if_neg (by omega),u0 (by omega)]
section
variable (R:List Val) (B:List Int) (S:List Bool) (P:List Int) (hR:R.length=11)
include hR
theorem gg6:(R.map rv).length=11:=by rw [V3,hR]
theorem ji9 {r} (h:0<=r/\r<=10):qco v3 (R.map rv) B S P r=yi5 R B S P (aR R r,ask1 R r,()):=by
 have c:=gg6 R hR;have b:0<=r/\r<(((R.map rv).length:Nat):Int):=by rw [c];omega
 rw [ug2,if_pos b,if_pos b,getR,j5];show (if ((rg R r).kind==0)=true then _ else _)=_;unfold aR ask1;by_cases a:(rg R r).kind=0
 ·rw [if_pos (by simpa using a),if_pos a];rfl
 ·rw [if_neg (by simpa using a),if_neg a];rfl
theorem vm3 {i} (h:i.UseImm=false->0<=i.Src/\i.Src<=10):qdo v3 (R.map rv) B S P i=yi5 R B S P (sR i R,secE i R,()):=by
 rw [uf0];unfold sR secE secV;cases hu:i.UseImm with
 |true=>rw [z9,ue1,z6];rfl
 |false=>
  rw [z5,ji9 R B S P hR (h hu),obind_rout];rfl
theorem jw6 {i} (c:0<=i.Dst/\i.Dst<=10) (h:i.UseImm=false->0<=i.Src/\i.Src<=10) (b:bothE i R=0):qct v3 (R.map rv) B S P i=yi5 R B S P (rv (rg R i.Dst),rv (secV i R),0,()):=by
 unfold bothE at b;have a:ask1 R i.Dst=0:=by
  by_cases a:ask1 R i.Dst=0
  ·exact a
  ·rw [if_pos a] at b;exact absurd b a
 rw [if_neg (fun h=>h a)] at b;rw [gt2,ji9 R B S P hR c,obind_rout];dsimp only;rw [a,show ((0:Int) != 0)=false from rfl,z5,vm3 R B S P hR h,obind_rout];dsimp only;rw [b,kl9 a,ww4 b];rfl
theorem ju7 {i} (c:0<=i.Dst/\i.Dst<=10) (h:i.UseImm=false->0<=i.Src/\i.Src<=10) (d:bothE i R≠0): ∃x y,qct v3 (R.map rv) B S P i=yi5 R B S P (x,y,bothE i R,()):=by
 rw [gt2,ji9 R B S P hR c,obind_rout];dsimp only;by_cases a:ask1 R i.Dst=0
 ·have b:bothE i R=secE i R:=if_neg (fun h=>h a);refine ⟨aR R i.Dst,sR i R,?_⟩;rw [b,a,show ((0:Int) != 0)=false from rfl,z5,vm3 R B S P hR h,obind_rout];rfl
 ·have b:bothE i R=ask1 R i.Dst:=if_pos a;refine ⟨aR R i.Dst,aR R i.Dst,?_⟩;rw [b,j5,if_pos (show (ask1 R i.Dst != 0)=true by simpa using a)];rfl
theorem wf0 {i:Ins} (hd:0<=i.Dst/\i.Dst<=10) (h:i.UseImm=false->0<=i.Src/\i.Src<=10) (hv:U64 (secV i R).n):qap v3 (R.map rv) B S P i=yi5 (mvP i ⟨R,B,S⟩).2.R (mvP i ⟨R,B,S⟩).2.B (mvP i ⟨R,B,S⟩).2.S P ((mvP i ⟨R,B,S⟩).1,()):=by
 obtain ⟨n,e⟩: ∃n:Nat,(v3:Nat)=n+1+1:=⟨999999998,rfl⟩;have hl:=gg6 R hR;rw [un1,vm3 R B S P hR h,obind_rout];unfold mvP;dsimp only;rw [j5];by_cases h0:secE i R=0
 ·rw [if_neg (show ¬(secE i R != 0)=true by simpa using h0),if_neg (show ¬secE i R≠0 from fun h=>h h0),ww4 h0,e];have hc:0<=i.Dst/\i.Dst<(((R.map rv).length:Nat):Int):=by rw [hl];omega
  cases hn:i.Narrow with
  |true=>
   rw [z9,qf7,j5];show (if ((secV i R).kind != 1)=true then _ else _)=_;by_cases hk:(secV i R).kind=1
   ·rw [if_neg (by simpa using hk),if_neg (show ¬(true=true/\(secV i R).kind≠1) from fun h=>h.2 hk),z9,qd1,if_pos hc];have ev:(⟨(rv (secV i R)).Kind,g9 .u64 (rv (secV i R)).N 4294967295⟩:RVal)=rv ⟨(secV i R).kind,if true=true then IntKind.u64.wrap (IntKind.u32.wrap (secV i R).n) else (secV i R).n⟩:=by
     show (⟨(secV i R).kind,g9 .u64 (secV i R).n 4294967295⟩:RVal)=⟨(secV i R).kind,IntKind.u64.wrap (IntKind.u32.wrap (secV i R).n)⟩;rw [jw0 _ hv,w5,zc1 ⟨by omega,by omega⟩]
    rw [setR _ _ _ _ ev];rfl
   ·rw [if_pos (by simpa using hk),if_pos (show true=true/\(secV i R).kind≠1 from ⟨rfl,hk⟩)];rfl
  |false=>
   rw [z5,qf7,z5,z5,qd1,if_pos hc,if_neg (show ¬(false=true/\(secV i R).kind≠1) from fun h=>absurd h.1 (by decide)),setR _ _ (secV i R) _ rfl];rfl
 ·rw [if_pos (show (secE i R != 0)=true by simpa using h0),if_pos h0];rfl
theorem ke7 {i:Ins} (hd:0<=i.Dst/\i.Dst<=10) (h:i.UseImm=false->0<=i.Src/\i.Src<=10) (hv:U64 (secV i R).n) (hw:U64 (rg R i.Dst).n):qn v3 (R.map rv) B S P i=yi5 (rkP i ⟨R,B,S⟩).2.R (rkP i ⟨R,B,S⟩).2.B (rkP i ⟨R,B,S⟩).2.S P ((rkP i ⟨R,B,S⟩).1,()):=by
 obtain ⟨n,e⟩: ∃n:Nat,(v3:Nat)=n+1+1+1:=⟨999999997,rfl⟩;have hl:=gg6 R hR;have hc:0<=i.Dst/\i.Dst<(((R.map rv).length:Nat):Int):=by rw [hl];omega
 rw [zah3];unfold rkP;simp only;by_cases h0:bothE i R=0
 ·rw [jw6 R B S P hR hd h h0,obind_rout,if_neg (show ¬bothE i R≠0 from fun h=>h h0)];dsimp only;rw [show ((0:Int) != 0)=false from rfl,z5];simp only [rvK,rvN];have j2t:jz7 (n+1+1) true P (R.map rv) B S i.Op i.Narrow i.Dst i.Src i.UseImm i.Off i.Imm i.Size (rg R i.Dst).kind (rg R i.Dst).n (secV i R).kind (secV i R).n=yi5 R B S P (114,()):=by rw [jw2,z9];rfl
  rw [e,j5];generalize rg R i.Dst=a at *;generalize secV i R=b at *;by_cases ha:a.kind=1
  ·rw [if_pos (by simpa using ha),qt7,j5];by_cases hb:b.kind=1
   ·rw [if_pos (by simpa using hb),wv1 _ _ _ _ hw hv,z6,j5,if_neg (show ¬(b.kind≠1\/a.kind≠1/\ ¬((i.Op=1\/i.Op=2)/\i.Narrow=false)) from fun h=>by rcases h with h|h;exact h hb;exact h.1 ha)];by_cases hz:(aluP i.Op i.Narrow a.n b.n).2=0
    ·rw [if_pos (by simpa using hz),if_pos hz,if_pos hc,va8,hz,setR _ _ ⟨a.kind,(aluP i.Op i.Narrow a.n b.n).1⟩ _ (by rw [ha];rfl)];rfl
    ·rw [if_neg (by simpa using hz),if_neg hz,va8];rfl
   ·rw [if_neg (by simpa using hb),j5,if_pos (by simpa using ha),j2t,if_pos (.inl hb)]
  ·rw [if_neg (by simpa using ha),qt7,z5,j5,if_neg (by simpa using ha),j5];by_cases hb:b.kind=1
   ·rw [if_neg (by simpa using hb),j5];cases hn:i.Narrow with
    |true=>
     rw [hn] at j2t;rw [if_pos rfl,j2t,if_pos (.inr ⟨ha,fun h=>absurd h.2 (by decide)⟩)]
    |false=>
     rw [hn] at j2t;rw [if_neg (by decide),j5];by_cases h1:i.Op=1
     ·rw [if_neg (show ¬(i.Op != 1)=true by simp [h1]),jw2,z5,j5,if_neg (show ¬(i.Op==2)=true by simp [h1]),qv7,if_pos hc,if_neg (show ¬(b.kind≠1\/a.kind≠1/\ ¬((i.Op=1\/i.Op=2)/\false=false)) from fun h=>by rcases h with h|h;exact h hb;exact h.2 ⟨.inl h1,rfl⟩),h1];have ea:aluP 1 false a.n b.n=(IntKind.u64.wrap (a.n+b.n),0):=rfl;rw [ea,if_pos rfl,setR _ _ ⟨a.kind,IntKind.u64.wrap (a.n+b.n)⟩ (⟨a.kind,IntKind.u64.wrap (a.n+b.n)⟩:RVal) rfl];rfl
     ·rw [if_pos (show (i.Op != 1)=true by simp [h1])];by_cases h2:i.Op=2
      ·rw [show (i.Op != 2)=false by simp [h2],jw2,z5,j5,if_pos (show (i.Op==2)=true by simp [h2]),qv7,if_pos hc,if_neg (show ¬(b.kind≠1\/a.kind≠1/\ ¬((i.Op=1\/i.Op=2)/\false=false)) from fun h=>by rcases h with h|h;exact h hb;exact h.2 ⟨.inr h2,rfl⟩),h2];have ea:aluP 2 false a.n b.n=(IntKind.u64.wrap (a.n-b.n),0):=rfl;rw [ea,if_pos rfl,setR _ _ ⟨a.kind,IntKind.u64.wrap (a.n-b.n)⟩ (⟨a.kind,IntKind.u64.wrap (a.n-b.n)⟩:RVal) rfl];rfl
      ·rw [show (i.Op != 2)=true by simp [h2],j2t,if_pos (.inr ⟨ha,fun h=>by rcases h.1 with h|h;exact h1 h;exact h2 h⟩)]
   ·rw [if_pos (by simpa using hb),j2t,if_pos (.inl hb)]
 ·obtain ⟨x,y,hxy⟩:=ju7 R B S P hR hd h h0;rw [hxy,obind_rout,if_pos h0];dsimp only;rw [j5,if_pos (show (bothE i R != 0)=true by simpa using h0)];rfl
end
def vs8 {A x k} (i:k+1<=8) (j:0<=A/\A<256^k) (c:0<=x/\x<=255):bOr .u64 (zr4 .u64 A 8) x=A*256+x:=by
 have l:(256:Int)^k<=256^7:=by
  have h:=J4 (n:=256) (by decide) (show k<=7 by omega);have d:((256^k:Nat):Int)=(256:Int)^k:=by rw [Int.natCast_pow];rfl
  have e:((256^7:Nat):Int)=(256:Int)^7:=by rw [Int.natCast_pow];rfl
  rw [<-d,<-e];exact Int.ofNat_le.2 h
 have m:(256:Int)^7=72057594037927936:=by decide
 have f:zr4 .u64 A 8=A*256:=by
  unfold zr4;have a:(2:Int)^(min ((8:Int)).toNat (IntKind.u64.bits))=256:=by decide
  rw [a];exact zc1 ⟨by omega,by omega⟩
 have b:(2:Int)^8=256:=by decide
 rw [f,zag4 .u64 8 _ _ (by show 8<=64;omega) (by rw [b];omega) ⟨c.1,by rw [b];omega⟩];have g:(2:Int)^IntKind.u64.bits=18446744073709551616:=by decide
 rw [g,V9 (by omega) (by omega),zc1 ⟨by omega,by omega⟩]
def KOk (R:List Val):Prop:= ∀v∈R,0<=v.kind/\v.kind<=3
def KOk.rg {R} (h:KOk R) (r):0<=(rg R r).kind/\(rg R r).kind<=3:=by
 show 0<=(R.getD r.toNat dVal).kind/\(R.getD r.toNat dVal).kind<=3;rw [Y2];cases hk:R[r.toNat]? with
 |none=>exact ⟨by decide,by decide⟩
 |some x=>exact h x (X6 hk)
def KOk.set {R} (h:KOk R) (k) {v} (b:0<=v.kind/\v.kind<=3):KOk (R.set k v):=fun x a=>by
 rcases K7 a with a|a
 ·exact h x a
 ·subst a;exact b
def KOk.sec {R} (h:KOk R) (i):0<=(secV i R).kind/\(secV i R).kind<=3:=by
 unfold secV;split
 ·exact (show 0<=(1:Int)/\(1:Int)<=3 by decide)
 ·exact h.rg _
def st_kok (i P) {s} (h:KOk s.R):KOk (stP1 i P s).2.R:=by
 have a:0<=(1:Int)/\(1:Int)<=3:=by decide
 unfold stP1;split
 ·unfold mvP;split
  ·exact h
  ·split
   ·exact h
   ·exact h.set _ (h.sec i)
 split
 ·unfold ngP;split
  ·exact h
  ·split
   ·exact h
   ·exact h.set _ (h.rg _)
 split
 ·unfold ldP;split
  ·exact h
  split
  ·exact h
  split
  ·split
   ·exact h
   ·exact h.set _ a
  split
  ·exact h
  split
  ·exact h
  ·exact h.set _ a
 split
 ·unfold ptP;split
  ·exact h
  split
  ·exact h
  split
  ·exact h
  split
  ·exact h
  ·exact h
 split
 ·exact h
 split
 ·exact h
 split
 ·unfold rkP;split
  ·exact h
  split
  ·exact h
  split
  ·exact h.set _ (h.rg _)
  ·exact h
 ·exact h
def wt7 (n i) (b:0<=i.Size/\i.Size<=8):(if IntKind.i64.wrap (IntKind.u64.wrap (n+IntKind.u64.wrap i.Off))< -512\/IntKind.i64.wrap (IntKind.u64.wrap (n+IntKind.u64.wrap i.Off))> -512+512-i.Size then ((0:Int),(112:Int)) else (IntKind.i64.wrap (IntKind.u64.wrap (n+IntKind.u64.wrap i.Off))- -512,0))=frP n i:=by
 unfold frP;have c:=we6 (IntKind.u64.wrap (n+IntKind.u64.wrap i.Off));generalize IntKind.i64.wrap (IntKind.u64.wrap (n+IntKind.u64.wrap i.Off))=x at *;by_cases d:x<=9223372036854775807-512
 ·rw [u0 (by omega)];by_cases h:x< -512\/x> -512+512-i.Size
  ·rw [if_pos h,if_pos (by omega)]
  ·rw [if_neg h,if_neg (by omega),show x- -512=x+512 by omega]
 ·have a:IntKind.i64.wrap (x+512)=x+512-18446744073709551616:=by rw [zo6];split<;>omega
  rw [a,if_pos (by omega),if_pos (by omega)]
section
variable (R:List Val) (B:List Int) (S:List Bool) (P:List Int) (hR:R.length=11)
include hR
theorem va7 {i:Ins} (f:0<=i.Dst/\i.Dst<=10) (g:0<=i.Size/\i.Size<=8) (c:ByteL B) (a:B.length=512) (h:S.length=512) (N:Int) (p:Nat) (j:(p:Int)<=512-i.Size): ∀(m k n:Nat) (A:Int),(k:Int)+m=i.Size->0<=A/\A<256^k->2*m+1<=n->
  kp5 n (p:Int) A ((p+k:Nat):Int) P (R.map rv) B S i.Op i.Narrow i.Dst i.Src i.UseImm i.Off i.Imm i.Size 3 N=
   if allS S (p+k) m=false then yi5 R B S P (110,()) else yi5 (R.set i.Dst.toNat ⟨1,A*256^m+beF B (p+k) m⟩) B S P (0,())
 |0,k,n,A,l,d,o=>by
  obtain ⟨n,rfl⟩: ∃b,n=b+1:=⟨n-1,by omega⟩;have a:=gg6 R hR;rw [vb1,u0 (x:=(p:Int)+i.Size) (by omega),j5,if_neg (by simp;omega),if_pos (by rw [a];omega),if_neg (by simp [allS]),setR _ _ ⟨1,A⟩ (⟨1,A⟩:RVal) rfl,beF,Int.pow_zero,Int.mul_one,Int.add_zero];rfl
 |m+1,k,n,A,l,d,o=>by
  obtain ⟨n,rfl⟩: ∃b,n=b+1+1:=⟨n-2,by omega⟩;have e:=c.getD (p+k);rw [vb1,u0 (x:=(p:Int)+i.Size) (by omega),j5,if_pos (by simp;omega),show ((3:Int)==3)=true from rfl,z9,if_pos (by omega),Z1,gf6,j5,allS];cases hb:S.getD (p+k) false with
  |false=>rw [if_pos (by decide),if_pos (by simp)];rfl
  |true=>
   rw [if_neg (by decide),if_pos (by omega),Z1,zc1 ⟨e.1,by omega⟩,vs8 (by omega) d e,u0 (by omega)];have:=va7 f g c a h N p j m (k+1) n (A*256+B.getD (p+k) 0) (by omega) ⟨by omega,by rw [Int.pow_succ];omega⟩ (by omega);rw [show ((p+(k+1):Nat):Int)=((p+k:Nat):Int)+1 by omega] at this;rw [this,T4,beF,Int.pow_succ,show p+k+1=p+(k+1) by omega,show (A*256+B.getD (p+k) 0)*256^m+beF B (p+(k+1)) m=A*(256^m*256)+(B.getD (p+k) 0*256^m+beF B (p+(k+1)) m) by grind]
theorem qe3 {i:Ins} (g:0<=i.Dst/\i.Dst<=10) (h:0<=i.Size/\i.Size<=8) (c:ByteL P) (a:P.length<=65535) (K N:Int) (d:K≠3) (p:Nat) (j:(p:Int)<=P.length-i.Size): ∀(m k n:Nat) (A:Int),(k:Int)+m=i.Size->0<=A/\A<256^k->2*m+1<=n->
  qq2 n P (p:Int) A ((p+k:Nat):Int) P (R.map rv) B S i.Op i.Narrow i.Dst i.Src i.UseImm i.Off i.Imm i.Size K N=yi5 (R.set i.Dst.toNat ⟨1,A*256^m+beF P (p+k) m⟩) B S P (0,())
 |0,k,n,A,l,e,o=>by
  obtain ⟨n,rfl⟩: ∃b,n=b+1:=⟨n-1,by omega⟩;have a:=gg6 R hR;rw [qg6,u0 (x:=(p:Int)+i.Size) (by omega),j5,if_neg (by simp;omega),if_pos (by rw [a];omega),setR _ _ ⟨1,A⟩ (⟨1,A⟩:RVal) rfl,beF,Int.pow_zero,Int.mul_one,Int.add_zero];rfl
 |m+1,k,n,A,l,e,o=>by
  obtain ⟨n,rfl⟩: ∃b,n=b+1+1:=⟨n-2,by omega⟩;have f:=c.getD (p+k);rw [qg6,u0 (x:=(p:Int)+i.Size) (by omega),j5,if_pos (by simp;omega),show (K==3)=false by simpa using d,z5,kb4,z5,if_pos (by omega),Z1,zc1 ⟨f.1,by omega⟩,vs8 (by omega) e f,u0 (by omega)];have:=qe3 g h c a K N d p j m (k+1) n (A*256+P.getD (p+k) 0) (by omega) ⟨by omega,by rw [Int.pow_succ];omega⟩ (by omega);rw [show ((p+(k+1):Nat):Int)=((p+k:Nat):Int)+1 by omega] at this;rw [this,beF,Int.pow_succ,show p+k+1=p+(k+1) by omega,show (A*256+P.getD (p+k) 0)*256^m+beF P (p+(k+1)) m=A*(256^m*256)+(P.getD (p+k) 0*256^m+beF P (p+(k+1)) m) by grind]
theorem wi1 {i:Ins} (hd:0<=i.Dst/\i.Dst<=10) (hs:0<=i.Src/\i.Src<=10) (hz:zh1 i.Size=true) (hB:ByteL B) (hl:B.length=512) (hS:S.length=512) (hP:ByteL P) (hPl:P.length<=65535) (hK:KOk R):
  qj v3 (R.map rv) B S P i=yi5 (ldP i P ⟨R,B,S⟩).2.R (ldP i P ⟨R,B,S⟩).2.B (ldP i P ⟨R,B,S⟩).2.S P ((ldP i P ⟨R,B,S⟩).1,()):=by
 obtain ⟨n,e⟩: ∃n:Nat,(v3:Nat)=n+40+1:=⟨999999959,rfl⟩;have hc:=ym3 hz;have hk4:=hK.rg i.Src;rw [zai8,ji9 R B S P hR hs,obind_rout];unfold ldP;dsimp only;rw [j5];by_cases h0:ask1 R i.Src=0
 ·have hk0:(rg R i.Src).kind≠0:=fun h=>by unfold ask1 at h0;rw [if_pos h] at h0;cases h0
  rw [if_neg (show ¬(ask1 R i.Src != 0)=true by simpa using h0),if_neg (show ¬(ask1 R i.Src≠0) from fun h=>h h0),kl9 h0];simp only [rvK,rvN];rw [j5];by_cases hk:(rg R i.Src).kind=1
  ·rw [if_pos (show ((rg R i.Src).kind==1)=true by simpa using hk),if_pos hk];rfl
  ·rw [if_neg (show ¬((rg R i.Src).kind==1)=true by simpa using hk),if_neg hk,j5];by_cases hk2:(rg R i.Src).kind=2
   ·rw [if_neg (show ¬((rg R i.Src).kind==3)=true from fun h=>absurd (beq_iff_eq.1 h) (by omega)),if_pos hk2,e,kd2,wd1 _ _ _ _ _ (by omega) (by omega) (by omega),z6];unfold getP placeP;rw [if_pos hz];generalize IntKind.i64.wrap (IntKind.u64.wrap ((rg R i.Src).n+IntKind.u64.wrap i.Off))=x;by_cases hx:x<0\/x>((P.length:Nat):Int)-i.Size
    ·rw [if_pos (show x<0\/x>0+((P.length:Nat):Int)-i.Size by omega),if_pos hx];rfl
    ·rw [if_neg (show ¬(x<0\/x>0+((P.length:Nat):Int)-i.Size) by omega),if_neg hx];simp only;rw [show ((0:Int) != 0)=false from rfl,z5,Int.sub_zero];have:=qe3 R B S P hR hd (by omega) hP hPl (rg R i.Src).kind (rg R i.Src).n (by omega) x.toNat (by omega) i.Size.toNat 0 (n+40) 0 (by omega) ⟨by decide,by decide⟩ (by omega);simp only [J5] at this;rw [show ((x.toNat:Nat):Int)=x by omega,Int.zero_mul,Int.zero_add] at this;exact this
   ·have hk3:(rg R i.Src).kind=3:=by omega
    rw [if_pos (show ((rg R i.Src).kind==3)=true from beq_iff_eq.2 hk3),if_neg hk2,e,kz0,wd1 _ _ _ _ _ (by omega) (by omega) (by omega),z6,hl];rw [show (((512:Nat):Int))=512 from rfl,wt7 _ _ (by omega),j5];by_cases h2:(frP (rg R i.Src).n i).2=0
    ·rw [if_neg (show ¬((frP (rg R i.Src).n i).2 != 0)=true by simpa using h2),if_neg (show ¬(frP (rg R i.Src).n i).2≠0 from fun h=>h h2)];have hf:=wy5 h2;have:=va7 R B S P hR hd (by omega) hB hl hS (rg R i.Src).n (frP (rg R i.Src).n i).1.toNat (by omega) i.Size.toNat 0 (n+40) 0 (by omega) ⟨by decide,by decide⟩ (by omega);simp only [J5] at this;rw [show (((frP (rg R i.Src).n i).1.toNat:Nat):Int)=(frP (rg R i.Src).n i).1 by omega,Int.zero_mul,Int.zero_add] at this;rw [hk3,this];split<;>rfl
    ·rw [if_pos (show ((frP (rg R i.Src).n i).2 != 0)=true by simpa using h2),if_pos h2];rfl
 ·rw [if_pos (show (ask1 R i.Src != 0)=true by simpa using h0),if_pos h0];rfl
omit hR in
theorem vt8 {i:Ins} (e:0<=i.Size/\i.Size<=8) (K v:Int) (p:Nat) (f:(p:Int)<=512-i.Size): ∀(m k n:Nat) (B:List Int) (S:List Bool),(k:Int)+m=i.Size->B.length=512->S.length=512->m+1<=n->
  qn7 n (p:Int) (k:Int) P (R.map rv) B S i.Op i.Narrow i.Dst i.Src i.UseImm i.Off i.Imm i.Size K v=yi5 R (vd6 v B (p+k) m) (setS S (p+k) m) P (0,())
 |0,k,n,B,S,g,c,d,h=>by
  obtain ⟨n,rfl⟩: ∃b,n=b+1:=⟨n-1,by omega⟩;rw [qe6,j5,if_neg (by simp;omega)];rfl
 |m+1,k,n,B,S,g,c,d,h=>by
  obtain ⟨n,rfl⟩: ∃b,n=b+1:=⟨n-1,by omega⟩;have j:IntKind.i64.wrap ((p:Int)+(k:Int))=((p+k:Nat):Int):=by rw [u0 (by omega)];omega
  have l:IntKind.u64.wrap (IntKind.i64.wrap (8*IntKind.i64.wrap (IntKind.i64.wrap (i.Size-1)-(k:Int))))=((8*m:Nat):Int):=by
   rw [u0 (x:=i.Size-1) (by omega),u0 (x:=i.Size-1-(k:Int)) (by omega),u0 (by omega),zc1 ⟨by omega,by omega⟩];omega
  have o:IntKind.u8.wrap (za6 .u64 v ((8*m:Nat):Int))=v/256^m%256:=by
   rw [wu8];unfold za6;have a:min (((8*m:Nat):Int)).toNat (IntKind.u64.bits)=8*m:=by
    show min (((8*m:Nat):Int)).toNat 64=8*m;omega
   rw [a,<-ug1,M3 _ (V7 (V1 (by decide)))]
  rw [qe6,j5,if_pos (by simp;omega),j,l,o,if_neg (by omega),if_pos (by omega),if_pos (by omega),Z1,u0 (by omega)];have:=vt8 e K v p f m (k+1) n (B.set (p+k) (v/256^m%256)) (S.set (p+k) true) (by omega) (by simpa using c) (by simpa using d) (by omega);exact this
theorem up9 {i:Ins} (hd:0<=i.Dst/\i.Dst<=10) (h:i.UseImm=false->0<=i.Src/\i.Src<=10) (hz:zh1 i.Size=true) (hl:B.length=512) (hS:S.length=512):
  qal v3 (R.map rv) B S P i=yi5 (ptP i ⟨R,B,S⟩).2.R (ptP i ⟨R,B,S⟩).2.B (ptP i ⟨R,B,S⟩).2.S P ((ptP i ⟨R,B,S⟩).1,()):=by
 obtain ⟨n,e⟩: ∃n:Nat,(v3:Nat)=n+40+1:=⟨999999959,rfl⟩;have hc:=ym3 hz;rw [ux9];unfold ptP;dsimp only;by_cases h0:bothE i R=0
 ·rw [jw6 R B S P hR hd h h0,obind_rout,if_neg (show ¬bothE i R≠0 from fun h=>h h0)];dsimp only;rw [show ((0:Int) != 0)=false from rfl,z5];simp only [rvK,rvN];have j0: ∀c:Bool,jw8 (n+40+1) c P (R.map rv) B S i.Op i.Narrow i.Dst i.Src i.UseImm i.Off i.Imm i.Size (rg R i.Dst).kind (rg R i.Dst).n (secV i R).kind (secV i R).n=
    if c=true then yi5 R B S P (111,()) else if (frP (rg R i.Dst).n i).2≠0 then yi5 R B S P ((frP (rg R i.Dst).n i).2,()) else yi5 R (vd6 (secV i R).n B (frP (rg R i.Dst).n i).1.toNat i.Size.toNat) (setS S (frP (rg R i.Dst).n i).1.toNat i.Size.toNat) P (0,()):=fun c=>by
   rw [kh9];cases c with
   |true=>rw [z9,if_pos rfl];rfl
   |false=>
    rw [z5,if_neg (by decide),wd1 _ _ _ _ _ (by omega) (by omega) (by omega),z6,wt7 _ _ (by omega),j5];by_cases h2:(frP (rg R i.Dst).n i).2=0
    ·have hf:=wy5 h2;have:=vt8 R P (i:=i) (by omega) (secV i R).kind (secV i R).n (frP (rg R i.Dst).n i).1.toNat (by omega) i.Size.toNat 0 (n+40) B S (by omega) hl hS (by omega);simp only [J5] at this;rw [show (((frP (rg R i.Dst).n i).1.toNat:Nat):Int)=(frP (rg R i.Dst).n i).1 by omega] at this;rw [if_neg (show ¬((frP (rg R i.Dst).n i).2 != 0)=true by simpa using h2),if_neg (show ¬(frP (rg R i.Dst).n i).2≠0 from fun h=>h h2)];rw [show ((0:Nat):Int)=0 from rfl] at this;rw [this]
    ·rw [if_pos (show ((frP (rg R i.Dst).n i).2 != 0)=true by simpa using h2),if_pos h2];rfl
  rw [e,j5];by_cases h2:(rg R i.Dst).kind=2
  ·rw [if_pos (show ((rg R i.Dst).kind==2)=true by simpa using h2),if_pos h2];rfl
  ·rw [if_neg (show ¬((rg R i.Dst).kind==2)=true by simpa using h2),if_neg h2,j5];have fin: ∀c:Bool,(c=true↔((rg R i.Dst).kind=1\/(secV i R).kind≠1))->jw8 (n+40+1) c P (R.map rv) B S i.Op i.Narrow i.Dst i.Src i.UseImm i.Off i.Imm i.Size (rg R i.Dst).kind (rg R i.Dst).n (secV i R).kind (secV i R).n=
     if (rg R i.Dst).kind=1\/(secV i R).kind≠1 then yi5 R B S P (111,()) else if (frP (rg R i.Dst).n i).2≠0 then yi5 R B S P ((frP (rg R i.Dst).n i).2,()) else yi5 R (vd6 (secV i R).n B (frP (rg R i.Dst).n i).1.toNat i.Size.toNat) (setS S (frP (rg R i.Dst).n i).1.toNat i.Size.toNat) P (0,()):=fun c hcc=>by
    rw [j0 c];by_cases hq:(rg R i.Dst).kind=1\/(secV i R).kind≠1
    ·rw [if_pos (hcc.2 hq),if_pos hq]
    ·rw [if_neg (fun h=>hq (hcc.1 h)),if_neg hq]
   by_cases h1:(rg R i.Dst).kind=1
   ·rw [if_pos (show ((rg R i.Dst).kind==1)=true by simpa using h1),fin true ⟨fun _=>.inl h1,fun _=>rfl⟩,if_pos (.inl h1),if_pos (.inl h1)]
   ·rw [if_neg (show ¬((rg R i.Dst).kind==1)=true by simpa using h1),fin _ ⟨fun h=>.inr (by simpa using h),fun h=>by rcases h with h|h;exact absurd h h1;simpa using h⟩];by_cases h3:(secV i R).kind=1
    ·have hq: ¬((rg R i.Dst).kind=1\/(secV i R).kind≠1):=fun h=>by rcases h with h|h;exact h1 h;exact h h3
     rw [if_neg hq,if_neg hq];split<;>rfl
    ·rw [if_pos (.inr h3),if_pos (.inr h3)]
 ·obtain ⟨x,y,hxy⟩:=ju7 R B S P hR hd h h0;rw [hxy,obind_rout,if_pos h0];dsimp only;rw [j5,if_pos (show (bothE i R != 0)=true by simpa using h0)];rfl
theorem zad4 {i:Ins} (hd:0<=i.Dst/\i.Dst<=10) (h:i.UseImm=false->0<=i.Src/\i.Src<=10) (hv:U64 (secV i R).n) (hw:U64 (rg R i.Dst).n) (hop:17<=i.Op/\i.Op<=27):qbu v3 (R.map rv) B S P i=yi5 R B S P (brJ i R,brE i R,()):=by
 obtain ⟨n,e⟩: ∃n:Nat,(v3:Nat)=n+1:=⟨999999999,rfl⟩;rw [zac5];unfold brJ brE;by_cases h0:bothE i R=0
 ·rw [jw6 R B S P hR hd h h0,obind_rout,if_neg (show ¬bothE i R≠0 from fun h=>h h0)];dsimp only;rw [show ((0:Int) != 0)=false from rfl,z5];simp only [rvK,rvN];rw [e,j5];by_cases ha:(rg R i.Dst).kind=1
  ·rw [if_neg (show ¬((rg R i.Dst).kind != 1)=true by simpa using ha),qc7,j5];by_cases hb:(secV i R).kind=1
   ·have h2:(isP i.Op i.Narrow (rg R i.Dst).n (secV i R).n).2=0:=by
     have hq: ∀(ki k:IntKind) (a b:Int),(isW ki k i.Op a b).2=0:=fun ki k a b=>by
      unfold isW;have:i.Op=17\/i.Op=18\/i.Op=19\/i.Op=20\/i.Op=21\/i.Op=22\/i.Op=23\/i.Op=24\/i.Op=25\/i.Op=26\/i.Op=27:=by omega
      rcases this with h|h|h|h|h|h|h|h|h|h|h<;>rw [h]<;>rfl
     unfold isP;split<;>exact hq _ _ _ _
    rw [if_neg (show ¬((secV i R).kind != 1)=true by simpa using hb),zaf1 _ _ _ _ hw hv,z6,if_neg (show ¬((rg R i.Dst).kind≠1\/(secV i R).kind≠1) from fun h=>by rcases h with h|h;exact h ha;exact h hb),h2];rfl
   ·rw [if_pos (show ((secV i R).kind != 1)=true by simpa using hb),if_pos (show ((rg R i.Dst).kind≠1\/(secV i R).kind≠1) from .inr hb)];rfl
  ·rw [if_pos (show ((rg R i.Dst).kind != 1)=true by simpa using ha),qc7,z9,if_pos (show ((rg R i.Dst).kind≠1\/(secV i R).kind≠1) from .inl ha)];rfl
 ·obtain ⟨x,y,hxy⟩:=ju7 R B S P hR hd h h0;rw [hxy,obind_rout,if_pos h0];dsimp only;rw [j5,if_pos (show (bothE i R != 0)=true by simpa using h0),show decide (bothE i R=0)=false by simpa using h0];rfl
end
def wu4 (i:Ins) (s:MS) (P:List Int):Prop:= ∃a,qk v3 (s.R.map rv) s.B s.S P i=yi5 (stP1 i P s).2.R (stP1 i P s).2.B (stP1 i P s).2.S P (a,decide (i.Op=28),(stP1 i P s).1,())/\((stP1 i P s).1=0->a=jmpP i s.R)
def rstep_p {i:Ins} (hi:ROk i) {s:MS} (hs:MOk s) (hk:KOk s.R) {P:List Int} (hP:ByteL P) (hPl:P.length<=65535):wu4 i s P:=by
 obtain ⟨R,B,S⟩:=s;have hR:R.length=11:=hs.rl;have hv:U64 (secV i R).n:=hs.secV i;have hw:U64 (rg R i.Dst).n:=hs.rg _;have hop:=hi.op;unfold wu4;dsimp only at hk⊢;rw [zai3];by_cases h12:i.Op=12
 ·have e:stP1 i P ⟨R,B,S⟩=mvP i ⟨R,B,S⟩:=by unfold stP1;rw [if_pos h12]
  refine ⟨0,?_,fun _=>by unfold jmpP;rw [if_neg (by omega),if_neg (by omega)]⟩;rw [j5,if_pos (beq_iff_eq.2 h12),wf0 R B S P hR (hi.dst (by omega) (by omega)) (hi.src (by omega) (by omega) (by omega)) hv,obind_rout,e,show decide (i.Op=28)=false from W4 (by omega)];rfl
 rw [j5,if_neg (fun h=>h12 (beq_iff_eq.1 h))];by_cases h13:i.Op=13
 ·have e:stP1 i P ⟨R,B,S⟩=ngP i ⟨R,B,S⟩:=by unfold stP1;rw [if_neg h12,if_pos h13]
  refine ⟨0,?_,fun _=>by unfold jmpP;rw [if_neg (by omega),if_neg (by omega)]⟩;have hd:=hi.dst (by omega) (by omega);have hl:=gg6 R hR;have j0: ∀(n:Nat) (x:Int),kl5 (n+1) x P (R.map rv) B S=yi5 R B S P (0,false,x,()):=fun n x=>by rw [vb0];rfl
  obtain ⟨n,eB⟩: ∃n:Nat,(v3:Nat)=n+1+1+1:=⟨999999997,rfl⟩;rw [j5,if_pos (beq_iff_eq.2 h13),ji9 R B S P hR hd,obind_rout,e,show decide (i.Op=28)=false from W4 (by omega)];unfold ngP;dsimp only;rw [j5];by_cases h0:ask1 R i.Dst=0
  ·rw [if_pos (show (ask1 R i.Dst==0)=true from beq_iff_eq.2 h0),if_neg (show ¬ask1 R i.Dst≠0 from fun h=>h h0),kl9 h0,h0];simp only [rvK,rvN];rw [eB,qy6,j5];by_cases h1:(rg R i.Dst).kind=1
   ·have hz: ∀(nw:Bool) (a:Int),(aluP 13 nw a 0).2=0:=fun nw a=>by cases nw<;>rfl
    rw [if_neg (show ¬((rg R i.Dst).kind != 1)=true by rw [h1];decide),if_neg (show ¬(rg R i.Dst).kind≠1 from fun h=>h h1),ju1,show ((0:Int)==0)=true from rfl,z9,wv1 _ _ _ _ hw ⟨by decide,by decide⟩,z6,if_pos (by rw [hl];omega),setR _ _ ⟨(rg R i.Dst).kind,(aluP i.Op i.Narrow (rg R i.Dst).n 0).1⟩ _ (by rw [h1];rfl),vb0];show _=yi5 _ B S P (0,false,(aluP i.Op i.Narrow (rg R i.Dst).n 0).2,());rw [show (aluP i.Op i.Narrow (rg R i.Dst).n 0).2=0 by rw [h13];exact hz _ _];rfl
   ·rw [if_pos (show ((rg R i.Dst).kind != 1)=true from bne_iff_ne.2 h1),if_pos h1,ju1,show ((114:Int)==0)=false from rfl,z5,j0]
  ·rw [if_neg (show ¬(ask1 R i.Dst==0)=true from fun h=>h0 (beq_iff_eq.1 h)),if_pos h0,eB,qy6,z5,ju1,j5,if_neg (show ¬(ask1 R i.Dst==0)=true from fun h=>h0 (beq_iff_eq.1 h)),j0]
 rw [j5,if_neg (fun h=>h13 (beq_iff_eq.1 h))];by_cases hlt:i.Op<12
 ·have e:stP1 i P ⟨R,B,S⟩=rkP i ⟨R,B,S⟩:=by unfold stP1;rw [if_neg h12,if_neg h13,if_neg (by omega),if_neg (by omega),if_neg (by omega),if_neg (by omega),if_pos hlt]
  refine ⟨0,?_,fun _=>by unfold jmpP;rw [if_neg (by omega),if_neg (by omega)]⟩;rw [j5,if_pos (show decide (i.Op<=11)=true from W3 (by omega)),ke7 R B S P hR (hi.dst (by omega) (by omega)) (hi.src (by omega) (by omega) (by omega)) hv hw,obind_rout,e,show decide (i.Op=28)=false from W4 (by omega)];rfl
 rw [j5,if_neg (show ¬decide (i.Op<=11)=true from fun h=>by have:=of_decide_eq_true h;omega)];by_cases h14:i.Op=14
 ·have e:stP1 i P ⟨R,B,S⟩=ldP i P ⟨R,B,S⟩:=by unfold stP1;rw [if_neg h12,if_neg h13,if_pos h14]
  refine ⟨0,?_,fun _=>by unfold jmpP;rw [if_neg (by omega),if_neg (by omega)]⟩;rw [j5,if_pos (beq_iff_eq.2 h14),wi1 R B S P hR (hi.dst (by omega) (by omega)) (hi.src (by omega) (by omega) (by omega) (hi.ni h14)) (hi.sz (.inl h14)) hs.bb hs.bl hs.sl hP hPl hk,obind_rout,e,show decide (i.Op=28)=false from W4 (by omega)];rfl
 rw [j5,if_neg (fun h=>h14 (beq_iff_eq.1 h))];by_cases h15:i.Op=15
 ·have e:stP1 i P ⟨R,B,S⟩=ptP i ⟨R,B,S⟩:=by unfold stP1;rw [if_neg h12,if_neg h13,if_neg h14,if_pos h15]
  refine ⟨0,?_,fun _=>by unfold jmpP;rw [if_neg (by omega),if_neg (by omega)]⟩;rw [j5,if_pos (beq_iff_eq.2 h15),up9 R B S P hR (hi.dst (by omega) (by omega)) (hi.src (by omega) (by omega) (by omega)) (hi.sz (.inr h15)) hs.bl hs.sl,obind_rout,e,show decide (i.Op=28)=false from W4 (by omega)];rfl
 rw [j5,if_neg (fun h=>h15 (beq_iff_eq.1 h))];by_cases h16:i.Op=16
 ·have e:stP1 i P ⟨R,B,S⟩=(0,⟨R,B,S⟩):=by unfold stP1;rw [if_neg h12,if_neg h13,if_neg h14,if_neg h15,if_pos h16]
  refine ⟨i.Off,?_,fun _=>by unfold jmpP;rw [if_pos h16]⟩;rw [j5,if_pos (beq_iff_eq.2 h16),e,show decide (i.Op=28)=false from W4 (by omega)];rfl
 rw [j5,if_neg (fun h=>h16 (beq_iff_eq.1 h))];by_cases h28:i.Op=28
 ·have e:stP1 i P ⟨R,B,S⟩=(exE R,⟨R,B,S⟩):=by unfold stP1;rw [if_neg h12,if_neg h13,if_neg h14,if_neg h15,if_neg h16,if_pos h28]
  refine ⟨0,?_,fun _=>by unfold jmpP;rw [if_neg (by omega),if_neg (by omega)]⟩;obtain ⟨n,eB⟩: ∃n:Nat,(v3:Nat)=n+1+1:=⟨999999998,rfl⟩;rw [j5,if_pos (beq_iff_eq.2 h28),ji9 R B S P hR (by decide),obind_rout,e,show decide (i.Op=28)=true from W3 h28];unfold exE;dsimp only;rw [j5];by_cases h0:ask1 R 0=0
  ·rw [if_pos (show (ask1 R 0==0)=true from beq_iff_eq.2 h0),if_neg (show ¬ask1 R 0≠0 from fun h=>h h0),kl9 h0,h0];simp only [rvK];rw [eB,qy3,j5];by_cases h1:(rg R 0).kind=1
   ·rw [if_neg (show ¬((rg R 0).kind != 1)=true by rw [h1];decide),if_neg (show ¬(rg R 0).kind≠1 from fun h=>h h1),jv6];rfl
   ·rw [if_pos (show ((rg R 0).kind != 1)=true from bne_iff_ne.2 h1),if_pos h1,jv6];rfl
  ·rw [if_neg (show ¬(ask1 R 0==0)=true from fun h=>h0 (beq_iff_eq.1 h)),if_pos h0,eB,qy3,z5,jv6];rfl
 ·have e:stP1 i P ⟨R,B,S⟩=(brE i R,⟨R,B,S⟩):=by unfold stP1;rw [if_neg h12,if_neg h13,if_neg h14,if_neg h15,if_neg h16,if_neg h28,if_neg hlt]
  refine ⟨if brJ i R=true then i.Off else 0,?_,fun _=>by unfold jmpP;rw [if_neg h16,if_pos (show 17<=i.Op/\i.Op<=27 by omega)]⟩;rw [j5,if_neg (fun h=>h28 (beq_iff_eq.1 h)),zad4 R B S P hR (hi.dst (by omega) (by omega)) (hi.src (by omega) (by omega) (by omega)) hv hw (by omega),obind_rout,e,show decide (i.Op=28)=false from W4 h28];dsimp only;rw [j5];split<;>rfl
def rnew_p (P) (a:P.length<=65535):qfj v3 P=some ((),(((ms0 P).R.map rv,List.replicate 512 (0:Int),List.replicate 512 false,P,()),())):=by
 rw [ul6,if_pos (by decide),if_pos (by decide),if_pos (by decide),if_pos (by simp),if_pos (by simp),if_pos (by simp),zc1 (x:=((P.length:Nat):Int)) ⟨by omega,by omega⟩];rfl
def ms0_k (P):KOk (ms0 P).R:=fun v a=>by
 have a:v∈ [(⟨0,0⟩:Val),⟨2,0⟩,⟨1,(P.length:Int)⟩,⟨0,0⟩,⟨0,0⟩,⟨0,0⟩,⟨0,0⟩,⟨0,0⟩,⟨0,0⟩,⟨0,0⟩,⟨3,0⟩]:=a;simp only [Z0,J7,or_false] at a;rcases a with h|h|h|h|h|h|h|h|h|h|h<;>subst h<;>simp
end Go.Y.Z
