import Derived.Test.YthhhfnfgmijggaaGreatTb
import Derived.Test.YthhhfnfgmijggaaGreatXO
namespace Go.Y
open Go.RowKit Go.V Go.X Go.Proofs
abbrev v3:=Go.X.Span
instance:Inhabited v3:=⟨⟨0,0⟩⟩
structure Twork where
 a:v3
 b:v3
 narrow:Bool
 most:Int
 size:Int
def zn9 (a0:Int):v3:=(⟨a0,a0⟩:v3)
def zh5 (a0:Bool):v3:=(if a0 then (⟨(0:Int),(4294967295:Int)⟩:v3) else (⟨(0:Int),(18446744073709551615:Int)⟩:v3))
def w5 (a0:v3):Bool:=decide (a0.Lo<=a0.Hi)
def jk1 (a0:v3) (a1:Int):Bool:=((decide (a0.Lo<=a1))&&(decide (a1<=a0.Hi)))
def ja9 (a0:v3) (a1:v3):Bool:=((decide (a1.Lo<=a0.Lo))&&(decide (a0.Hi<=a1.Hi)))
def zv0 (a0:v3) (a1:v3):v3:=(⟨(yi9 a0.Lo a1.Lo),(zl5 a0.Hi a1.Hi)⟩:v3)
def ze6 (a0:Bool):Option Unit:=(if (!a0) then none else some ())
def qh (a0:v3) (a1:Bool):v3:=(if (!a1) then a0 else (if ((zb8 .u64 a0.Lo (32:Int)) != (zb8 .u64 a0.Hi (32:Int))) then (zc8 (zh5 true) fun x39=>x39) else (⟨(za9 .u64 a0.Lo (4294967295:Int)),(za9 .u64 a0.Hi (4294967295:Int))⟩:v3)))
def qm (a0:v3):Bool:=(zc8 (zn9 a0.Lo) fun x13=>((a0.Lo==x13.Lo)&&(a0.Hi==x13.Hi)))
def qag (a0:Bool) (a1:v3) (a2:v3):Twork:=(if a0 then (⟨(qh a1 a0),(qh a2 a0),a0,(4294967295:Int),(32:Int)⟩:Twork) else (⟨(qh a1 a0),(qh a2 a0),a0,(18446744073709551615:Int),(64:Int)⟩:Twork))
def qx (a0:Twork):Bool:=(zc8 (qm a0.a) fun x13=>(x13&&(qm a0.b)))
def qas (a0:Twork) (a1:Int) (a2:Int):v3:=(⟨(za9 .u64 a1 a0.most),(za9 .u64 a2 a0.most)⟩:v3)
def qz (a0:Twork) (a1:Int):Bool:=((za9 .u64 (zb8 .u64 a1 (IntKind.u64.wrap (a0.size-(1:Int)))) (1:Int))==(1:Int))
def qan (a0:Twork) (a1:v3):Bool:=(zc8 (qz a0 a1.Lo) fun x24=>(zc8 (qz a0 a1.Hi) fun x27=>(x24 != x27)))
def ks1 (c0:Int) (c1:Int):Int:=(IntKind.u32.wrap (c0+c1))
def ki7 (c0:Int) (c1:Int):Int:=(IntKind.u32.wrap (c0-c1))
def kp1 (c0:Int) (c1:Int):Int:=(IntKind.u32.wrap (c0*c1))
def km0 (c0:Int) (c1:Int):Int:=(IntKind.u32.wrap ((c0).tdiv c1))
def kj1 (c0:Int) (c1:Int):Int:=((c0).tmod c1)
def kk1 (c0:Int) (c1:Int):Int:=(za9 .u32 c0 c1)
def kq6 (c0:Int) (c1:Int):Int:=(bOr .u32 c0 c1)
def kl9 (c0:Int) (c1:Int):Int:=(ja8 .u32 c0 c1)
def km8 (c0:Int) (c1:Int) (c2:Int):Int:=(yi1 .u32 c0 ((c1).tmod c2))
def kb6 (c0:Int) (c1:Int) (c2:Int):Int:=(zb8 .u32 c0 ((c1).tmod c2))
def yk7 (c0:Int) (c1:Int) (c2:Int):Int:=(IntKind.u32.wrap (zb8 .i32 (IntKind.i32.wrap c0) ((c1).tmod c2)))
def vv8 (c0:Int):Int:=c0
def vv0 (c0:Int):Int:=(IntKind.u32.wrap (0-c0))
def jd1 (a0:Int) (a1:Int) (a2:Int) (a3:Int):(Int×Int):=(if (((a0==(4:Int))||(a0==(5:Int)))&&(a3==(0:Int))) then ((0:Int),(113:Int)) else (if (a0==(1:Int)) then (zc8 (ks1 a2 a3) fun x129=>(x129,(0:Int))) else (if (a0==(2:Int)) then (zc8 (ki7 a2 a3) fun x145=>(x145,(0:Int))) else (if (a0==(3:Int)) then (zc8 (kp1 a2 a3) fun x161=>(x161,(0:Int))) else (if (a0==(4:Int)) then (zc8 (km0 a2 a3) fun x177=>(x177,(0:Int))) else (if (a0==(5:Int)) then (zc8 (kj1 a2 a3) fun x193=>(x193,(0:Int))) else (if (a0==(6:Int)) then (zc8 (kk1 a2 a3) fun x209=>(x209,(0:Int))) else (if (a0==(7:Int)) then (zc8 (kq6 a2 a3) fun x225=>(x225,(0:Int))) else (if (a0==(8:Int)) then (zc8 (kl9 a2 a3) fun x241=>(x241,(0:Int))) else (if (a0==(9:Int)) then (zc8 (km8 a2 a3 a1) fun x258=>(x258,(0:Int))) else (if (a0==(10:Int)) then (zc8 (kb6 a2 a3 a1) fun x275=>(x275,(0:Int))) else (if (a0==(11:Int)) then (zc8 (yk7 a2 a3 a1) fun x292=>(x292,(0:Int))) else (if (a0==(12:Int)) then (zc8 (vv8 a3) fun x307=>(x307,(0:Int))) else (if (a0==(13:Int)) then (zc8 (vv0 a2) fun x322=>(x322,(0:Int))) else ((0:Int),(2:Int))))))))))))))))
def ks0 (c0:Int) (c1:Int):Int:=(IntKind.u64.wrap (c0+c1))
def kp6 (c0:Int) (c1:Int):Int:=(IntKind.u64.wrap (c0-c1))
def kk0 (c0:Int) (c1:Int):Int:=(IntKind.u64.wrap (c0*c1))
def ko6 (c0:Int) (c1:Int):Int:=(IntKind.u64.wrap ((c0).tdiv c1))
def kk4 (c0:Int) (c1:Int):Int:=((c0).tmod c1)
def kl8 (c0:Int) (c1:Int):Int:=(za9 .u64 c0 c1)
def kh8 (c0:Int) (c1:Int):Int:=(bOr .u64 c0 c1)
def kp7 (c0:Int) (c1:Int):Int:=(ja8 .u64 c0 c1)
def kh5 (c0:Int) (c1:Int) (c2:Int):Int:=(yi1 .u64 c0 ((c1).tmod c2))
def vx6 (c0:Int) (c1:Int) (c2:Int):Int:=(zb8 .u64 c0 ((c1).tmod c2))
def ka7 (c0:Int) (c1:Int) (c2:Int):Int:=(IntKind.u64.wrap (zb8 .i64 (IntKind.i64.wrap c0) ((c1).tmod c2)))
def vt8 (c0:Int):Int:=c0
def vv6 (c0:Int):Int:=(IntKind.u64.wrap (0-c0))
def jr0 (a0:Int) (a1:Int) (a2:Int) (a3:Int):(Int×Int):=(if (((a0==(4:Int))||(a0==(5:Int)))&&(a3==(0:Int))) then ((0:Int),(113:Int)) else (if (a0==(1:Int)) then (zc8 (ks0 a2 a3) fun x129=>(x129,(0:Int))) else (if (a0==(2:Int)) then (zc8 (kp6 a2 a3) fun x145=>(x145,(0:Int))) else (if (a0==(3:Int)) then (zc8 (kk0 a2 a3) fun x161=>(x161,(0:Int))) else (if (a0==(4:Int)) then (zc8 (ko6 a2 a3) fun x177=>(x177,(0:Int))) else (if (a0==(5:Int)) then (zc8 (kk4 a2 a3) fun x193=>(x193,(0:Int))) else (if (a0==(6:Int)) then (zc8 (kl8 a2 a3) fun x209=>(x209,(0:Int))) else (if (a0==(7:Int)) then (zc8 (kh8 a2 a3) fun x225=>(x225,(0:Int))) else (if (a0==(8:Int)) then (zc8 (kp7 a2 a3) fun x241=>(x241,(0:Int))) else (if (a0==(9:Int)) then (zc8 (kh5 a2 a3 a1) fun x258=>(x258,(0:Int))) else (if (a0==(10:Int)) then (zc8 (vx6 a2 a3 a1) fun x275=>(x275,(0:Int))) else (if (a0==(11:Int)) then (zc8 (ka7 a2 a3 a1) fun x292=>(x292,(0:Int))) else (if (a0==(12:Int)) then (zc8 (vt8 a3) fun x307=>(x307,(0:Int))) else (if (a0==(13:Int)) then (zc8 (vv6 a2) fun x322=>(x322,(0:Int))) else ((0:Int),(2:Int))))))))))))))))
def zu8 (a0:Int) (a1:Bool) (a2:Int) (a3:Int):(Int×Int):=(if a1 then (zc8 (jd1 a0 (32:Int) (IntKind.u32.wrap a2) (IntKind.u32.wrap a3)) fun x7=>((x7.1),x7.2)) else (zc8 (jr0 a0 (64:Int) a2 a3) fun x19=>(x19.1,x19.2)))
def zo5 (a0:Twork):Option v3:=(yg2 (ze6 ((decide (a0.b.Hi<=(IntKind.u64.wrap (a0.most-a0.a.Hi))))||(decide (a0.b.Lo>(IntKind.u64.wrap (a0.most-a0.a.Lo)))))) (none) fun _=>(zc8 (qas a0 (IntKind.u64.wrap (a0.a.Lo+a0.b.Lo)) (IntKind.u64.wrap (a0.a.Hi+a0.b.Hi))) fun x46=>some x46))
def zo9 (a0:Twork):Option v3:=(yg2 (ze6 ((decide (a0.a.Lo>=a0.b.Hi))||(decide (a0.a.Hi<a0.b.Lo)))) (none) fun _=>(zc8 (qas a0 (IntKind.u64.wrap (a0.a.Lo-a0.b.Hi)) (IntKind.u64.wrap (a0.a.Hi-a0.b.Lo))) fun x46=>some x46))
def qbq (a0:Twork):v3:=(⟨(IntKind.u64.wrap ((a0.a.Lo).tdiv (zl5 a0.b.Hi (1:Int)))),(IntKind.u64.wrap ((a0.a.Hi).tdiv (zl5 a0.b.Lo (1:Int))))⟩:v3)
def qbr (a0:Twork):v3:=(if decide (a0.a.Hi<(zl5 a0.b.Lo (1:Int))) then a0.a else (⟨(0:Int),(yi9 a0.a.Hi (IntKind.u64.wrap ((zl5 a0.b.Hi (1:Int))-(1:Int))))⟩:v3))
def qbk (a0:Twork):v3:=(zc8 (qx a0) fun x25=>(if x25 then (zc8 (zn9 (za9 .u64 a0.a.Lo a0.b.Lo)) fun x36=>x36) else (⟨(0:Int),(yi9 a0.a.Hi a0.b.Hi)⟩:v3)))
def qbs (a0:Twork):v3:=a0.b
def zj2 (a0:Twork):Option v3:=(if (a0.a.Hi==(0:Int)) then some a0.a else (yg2 (ze6 (decide (a0.a.Lo>(0:Int)))) (none) fun _=>(zc8 (qas a0 (IntKind.u64.wrap (0-a0.a.Hi)) (IntKind.u64.wrap (0-a0.a.Lo))) fun x49=>some x49)))
def zp6 (a0:Twork):Option v3:=(zc8 (qm a0.b) fun x26=>(yg2 (ze6 (x26&&(decide (a0.a.Hi<=(zb8 .u64 a0.most ((a0.b.Lo).tmod a0.size)))))) (none) fun _=>some (⟨(yi1 .u64 a0.a.Lo ((a0.b.Lo).tmod a0.size)),(yi1 .u64 a0.a.Hi ((a0.b.Lo).tmod a0.size))⟩:v3)))
def je6 (a0:Twork) (v100:Int) (v101:Int):v3:=(⟨(zb8 .u64 a0.a.Lo v100),(zb8 .u64 a0.a.Hi v101)⟩:v3)
def qaf (a0:Twork):v3:=(zc8 (qm a0.b) fun x36=>(if x36 then (je6 a0 ((a0.b.Hi).tmod a0.size) ((a0.b.Lo).tmod a0.size)) else (if decide (a0.b.Hi>=a0.size) then (⟨(0:Int),a0.a.Hi⟩:v3) else (je6 a0 a0.b.Hi a0.b.Lo))))
def zp3 (a0:Twork):Option v3:=(zc8 (qm a0.b) fun x24=>(yg2 (ze6 (x24&&(!(qan a0 a0.a)))) (none) fun _=>(zc8 (zu8 (11:Int) a0.narrow a0.a.Lo a0.b.Lo) fun x58=>(zc8 (zu8 (11:Int) a0.narrow a0.a.Hi a0.b.Lo) fun x68=>some (⟨x58.1,x68.1⟩:v3)))))
def tab0:List Int:= [0,1,2,2,3,3,3,3,4,4,4,4,4,4,4,4,5,5,5,5,5,5,5,5,5,5,5,5,5,5,5,5,6,6,6,6,6,6,6,6,6,6,6,6,6,6,6,6,6,6,6,6,6,6,6,6,6,6,6,6,6,6,6,6,7,7,7,7,7,7,7,7,7,7,7,7,7,7,7,7,7,7,7,7,7,7,7,7,7,7,7,7,7,7,7,7,7,7,7,7,7,7,7,7,7,7,7,7,7,7,7,7,7,7,7,7,7,7,7,7,7,7,7,7,7,7,7,7,8,8,8,8,8,8,8,8,8,8,8,8,8,8,8,8,8,8,8,8,8,8,8,8,8,8,8,8,8,8,8,8,8,8,8,8,8,8,8,8,8,8,8,8,8,8,8,8,8,8,8,8,8,8,8,8,8,8,8,8,8,8,8,8,8,8,8,8,8,8,8,8,8,8,8,8,8,8,8,8,8,8,8,8,8,8,8,8,8,8,8,8,8,8,8,8,8,8,8,8,8,8,8,8,8,8,8,8,8,8,8,8,8,8,8,8,8,8,8,8,8,8,8,8,8,8,8,8]
def jj9 (a0:Int):Int:=(if decide (a0>=(4294967296:Int)) then (if decide ((zb8 .u64 a0 (32:Int))>=(65536:Int)) then (if decide ((zb8 .u64 (zb8 .u64 a0 (32:Int)) (16:Int))>=(256:Int)) then ((56:Int)+((tab0.getD (IntKind.u8.wrap (zb8 .u64 (zb8 .u64 (zb8 .u64 a0 (32:Int)) (16:Int)) (8:Int))).toNat 0))) else ((48:Int)+((tab0.getD (IntKind.u8.wrap (zb8 .u64 (zb8 .u64 a0 (32:Int)) (16:Int))).toNat 0)))) else (if decide ((zb8 .u64 a0 (32:Int))>=(256:Int)) then ((40:Int)+((tab0.getD (IntKind.u8.wrap (zb8 .u64 (zb8 .u64 a0 (32:Int)) (8:Int))).toNat 0))) else ((32:Int)+((tab0.getD (IntKind.u8.wrap (zb8 .u64 a0 (32:Int))).toNat 0))))) else (if decide (a0>=(65536:Int)) then (if decide ((zb8 .u64 a0 (16:Int))>=(256:Int)) then ((24:Int)+((tab0.getD (IntKind.u8.wrap (zb8 .u64 (zb8 .u64 a0 (16:Int)) (8:Int))).toNat 0))) else ((16:Int)+((tab0.getD (IntKind.u8.wrap (zb8 .u64 a0 (16:Int))).toNat 0)))) else (if decide (a0>=(256:Int)) then ((8:Int)+((tab0.getD (IntKind.u8.wrap (zb8 .u64 a0 (8:Int))).toNat 0))) else ((0:Int)+((tab0.getD (IntKind.u8.wrap a0).toNat 0))))))
def ya6 (a0:Int) (a1:Int):(Int×Int):=((IntKind.u64.wrap ((IntKind.u64.wrap ((IntKind.u64.wrap ((zb8 .u64 a0 (32:Int))*(zb8 .u64 a1 (32:Int))))+(zb8 .u64 (IntKind.u64.wrap ((IntKind.u64.wrap ((zb8 .u64 a0 (32:Int))*(za9 .u64 a1 (4294967295:Int))))+(zb8 .u64 (IntKind.u64.wrap ((za9 .u64 a0 (4294967295:Int))*(za9 .u64 a1 (4294967295:Int)))) (32:Int)))) (32:Int))))+(zb8 .u64 (IntKind.u64.wrap ((za9 .u64 (IntKind.u64.wrap ((IntKind.u64.wrap ((zb8 .u64 a0 (32:Int))*(za9 .u64 a1 (4294967295:Int))))+(zb8 .u64 (IntKind.u64.wrap ((za9 .u64 a0 (4294967295:Int))*(za9 .u64 a1 (4294967295:Int)))) (32:Int)))) (4294967295:Int))+(IntKind.u64.wrap ((za9 .u64 a0 (4294967295:Int))*(zb8 .u64 a1 (32:Int)))))) (32:Int)))),(IntKind.u64.wrap (a0*a1)))
def qbj (a0:Int):Int:=(zc8 (jj9 a0) fun x3=>(IntKind.u64.wrap ((yi1 .u64 (1:Int) x3)-(1:Int))))
def qbl (a0:Twork):v3:=(zc8 (qx a0) fun x25=>(if x25 then (zc8 (zn9 (bOr .u64 a0.a.Lo a0.b.Lo)) fun x36=>x36) else (⟨(zl5 a0.a.Lo a0.b.Lo),(qbj (bOr .u64 a0.a.Hi a0.b.Hi))⟩:v3)))
def qbm (a0:Twork):v3:=(zc8 (qx a0) fun x25=>(if x25 then (zc8 (zn9 (ja8 .u64 a0.a.Lo a0.b.Lo)) fun x36=>x36) else (zc8 (qbj (bOr .u64 a0.a.Hi a0.b.Hi)) fun x53=>(⟨(0:Int),x53⟩:v3))))
def zo6 (a0:Twork):Option v3:=(zc8 (ya6 a0.a.Hi a0.b.Hi) fun x24=>(yg2 (ze6 ((x24.1==(0:Int))&&(decide (x24.2<=a0.most)))) (none) fun _=>some (⟨(IntKind.u64.wrap (a0.a.Lo*a0.b.Lo)),x24.2⟩:v3)))
def jn1 (x:Int):Bool:=(x==(1:Int))||(x==(2:Int))||(x==(3:Int))||(x==(4:Int))||(x==(5:Int))||(x==(6:Int))||(x==(7:Int))||(x==(8:Int))||(x==(9:Int))||(x==(10:Int))||(x==(11:Int))||(x==(12:Int))||(x==(13:Int))
def span_Do (a0:Int) (a1:Bool) (a2:v3) (a3:v3):v3:=(if (((!(jn1 a0))||(!(w5 a2)))||(!(w5 a3))) then (zc8 (zh5 a1) fun x84=>x84) else (zc8 (qag a1 a2 a3) fun x104=>(if (a0==(1:Int)) then (yg2 (zo5 x104) ((zh5 a1)) fun x115=>x115) else (if (a0==(2:Int)) then (yg2 (zo9 x104) ((zh5 a1)) fun x140=>x140) else (if (a0==(3:Int)) then (yg2 (zo6 x104) ((zh5 a1)) fun x165=>x165) else (if (a0==(4:Int)) then (zc8 (qbq x104) fun x190=>x190) else (if (a0==(5:Int)) then (zc8 (qbr x104) fun x208=>x208) else (if (a0==(6:Int)) then (zc8 (qbk x104) fun x226=>x226) else (if (a0==(7:Int)) then (zc8 (qbl x104) fun x244=>x244) else (if (a0==(8:Int)) then (zc8 (qbm x104) fun x262=>x262) else (if (a0==(9:Int)) then (yg2 (zp6 x104) ((zh5 a1)) fun x280=>x280) else (if (a0==(10:Int)) then (zc8 (qaf x104) fun x305=>x305) else (if (a0==(11:Int)) then (yg2 (zp3 x104) ((zh5 a1)) fun x323=>x323) else (if (a0==(12:Int)) then (zc8 (qbs x104) fun x348=>x348) else (if (a0==(13:Int)) then (yg2 (zj2 x104) ((zh5 a1)) fun x366=>x366) else default)))))))))))))))
def vh5 (n:Int):Int:=if n=0 then 0 else ((2^(Nat.log2 n.toNat+1):Nat):Int)-1
end Go.Y
namespace Go.Y
open Go.RowKit Go.V Go.X Go.Proofs
theorem ga1 {x:Int} (h:w9 x):(BitVec.ofInt IntKind.u64.bits x).toNat=x.toNat:=by
 rw [BitVec.toNat_ofInt];simp only [IntKind.bits];omega
theorem yc3 {x y:Int} (hx:w9 x) (hy:w9 y):za9 .u64 x y=((x.toNat&&&y.toNat:Nat):Int):=by
 unfold za9;rw [BitVec.toNat_and,ga1 hx,ga1 hy,za2];have:x.toNat&&&y.toNat<=x.toNat:=Nat.and_le_left;omega
theorem wg1 {x:Int} (h:w9 x):x.toNat<2^64:=by omega
theorem gb9 {x y:Int} (hx:w9 x) (hy:w9 y):bOr .u64 x y=((x.toNat|||y.toNat:Nat):Int):=by
 unfold bOr;rw [BitVec.toNat_or,ga1 hx,ga1 hy,za2];have:=Nat.or_lt_two_pow (wg1 hx) (wg1 hy);omega
theorem kw0 {x y:Int} (hx:w9 x) (hy:w9 y):ja8 .u64 x y=((x.toNat^^^y.toNat:Nat):Int):=by
 unfold ja8;rw [BitVec.toNat_xor,ga1 hx,ga1 hy,za2];have:=Nat.xor_lt_two_pow (wg1 hx) (wg1 hy);omega
theorem zm4 {x y:Int} (hy:0<=y/\y<=64):zb8 .u64 x y=x/2^y.toNat:=by
 unfold zb8;rw [Int.fdiv_eq_ediv_of_nonneg _ (by exact Int.le_of_lt (Int.pow_pos (by omega)))];congr 2;simp only [IntKind.bits];omega
theorem vh9 {x y:Int} (hy:0<=y/\y<=64):yi1 .u64 x y=(x*2^y.toNat)%18446744073709551616:=by
 unfold yi1;rw [za2];congr 3;simp only [IntKind.bits];omega
theorem ur9 (a b:Int) (ha:w9 a) (hb:w9 b):(ya6 a b).1=(a*b)/18446744073709551616:=by
 unfold ya6;simp only;rw [zm4 (by omega),zm4 (by omega),yc3 ha (by omega),yc3 hb (by omega)];have e: ∀x:Int,w9 x->((x.toNat&&&(4294967295:Int).toNat:Nat):Int)=x%4294967296:=by
  intro x hx;rw [show (4294967295:Int).toNat=2^32-1 from rfl,Nat.and_two_pow_sub_one_eq_mod];omega
 rw [e a ha,e b hb];have f: ∀x:Int,w9 x->zb8 .u64 x 32=x/4294967296:=fun x hx=>by rw [zm4 (by omega)];rfl
 rw [show (2:Int)^(32:Int).toNat=4294967296 from rfl];generalize hA:a/4294967296=a1;generalize hA0:a%4294967296=a0;generalize hB:b/4294967296=b1;generalize hB0:b%4294967296=b0;have h1:0<=a1/\a1<=4294967295:=by omega
 have h2:0<=a0/\a0<=4294967295:=by omega
 have h3:0<=b1/\b1<=4294967295:=by omega
 have h4:0<=b0/\b0<=4294967295:=by omega
 have bd: ∀x y:Int,(0<=x/\x<=4294967295)->(0<=y/\y<=4294967295)->0<=x*y/\x*y<=18446744065119617025:=fun x y hx hy=>⟨Int.mul_nonneg hx.1 hy.1,Int.mul_le_mul hx.2 hy.2 hy.1 (by omega)⟩;have p11:=bd a1 b1 h1 h3;have p10:=bd a1 b0 h1 h4;have p01:=bd a0 b1 h2 h3;have p00:=bd a0 b0 h2 h4;have hab:a*b=(a1*b1)*18446744073709551616+(a1*b0+a0*b1)*4294967296+a0*b0:=by
  rw [show a=a1*4294967296+a0 by omega,show b=b1*4294967296+b0 by omega];simp only [Int.add_mul,Int.mul_add];have c1:a1*4294967296*(b1*4294967296)=a1*b1*18446744073709551616:=by rw [Int.mul_assoc,Int.mul_comm 4294967296,Int.mul_assoc,Int.mul_assoc];rfl
  have c2:a1*4294967296*b0=a1*b0*4294967296:=by rw [Int.mul_assoc,Int.mul_comm 4294967296,Int.mul_assoc]
  have c3:a0*(b1*4294967296)=a0*b1*4294967296:=by rw [Int.mul_assoc]
  omega
 rw [hab];generalize a1*b1=q11 at *;generalize a1*b0=q10 at *;generalize a0*b1=q01 at *;generalize a0*b0=q00 at *;rw [za2 q11,za2 q10,za2 q01,za2 q00];rw [f (q00%18446744073709551616) (by omega)];rw [za2 (q10%18446744073709551616+_)];rw [f _ (by omega),yc3 (by omega) (by omega),e _ (by omega)];rw [za2 ((q10%18446744073709551616+q00%18446744073709551616/4294967296)%18446744073709551616%4294967296+_),f _ (by omega)];rw [za2,za2];omega
theorem wc3 (a b:Int):(ya6 a b).2=(a*b)%18446744073709551616:=by unfold ya6;exact za2 _
theorem kr7: ∀i:Fin 256,tab0.getD i.val 0=if i.val=0 then 0 else ((Nat.log2 i.val+1:Nat):Int):=by decide+kernel
theorem gu5 {n:Nat} (h:n<256) (h0:n≠0):tab0.getD n 0=((Nat.log2 n+1:Nat):Int):=by
 have:=kr7 ⟨n,h⟩;simp only [h0,if_false] at this;exact this
theorem vd7 {n k:Nat} (h:n/2^k≠0):Nat.log2 n=Nat.log2 (n/2^k)+k:=by
 induction k generalizing n with
 |zero=>simp
 |succ k ih=>
  have e:n/2^(k+1)=(n/2)/2^k:=by rw [Nat.pow_succ,Nat.mul_comm,Nat.div_div_eq_div_mul]
  rw [e] at h⊢;have h2:2<=n:=by
   apply Classical.byContradiction;intro hn;have:n/2=0:=by omega
   rw [this] at h;simp at h
  rw [Nat.log2_def,if_pos h2,ih h];rfl
theorem kp0 {n:Int} (h:w9 n):jj9 n=if n=0 then 0 else ((Nat.log2 n.toNat+1:Nat):Int):=by
 obtain ⟨m,rfl⟩:=Int.eq_ofNat_of_zero_le h.1;by_cases h0:m=0
 ·subst h0;decide+kernel
 rw [if_neg (by omega)];have f8: ∀m:Nat,zb8 .u64 (m:Int) 8=((m/2^8:Nat):Int):=fun m=>by rw [zm4 (by omega)];simp
 have f16: ∀m:Nat,zb8 .u64 (m:Int) 16=((m/2^16:Nat):Int):=fun m=>by rw [zm4 (by omega)];simp
 have f32: ∀m:Nat,zb8 .u64 (m:Int) 32=((m/2^32:Nat):Int):=fun m=>by rw [zm4 (by omega)];simp
 have w8: ∀m:Nat,m<256->(IntKind.u8.wrap (m:Int)).toNat=m:=fun m hm=>by rw [ym4];omega
 have key: ∀(k:Nat),m/2^k<256->m/2^k≠0->((k:Int)+tab0.getD (m/2^k) 0)=((Nat.log2 m+1:Nat):Int):=fun k h1 h2=>by
  rw [gu5 h1 h2,vd7 h2];omega
 have d: ∀a b:Nat,m/2^a/2^b=m/2^(a+b):=fun a b=>by rw [Nat.div_div_eq_div_mul,Nat.pow_add]
 unfold jj9;simp only [f8,f16,f32,d,decide_eq_true_eq,Int.toNat_natCast];have p8:m/2^8=m/256:=rfl;have p16:m/2^16=m/65536:=rfl;have p24:m/2^(16+8)=m/16777216:=rfl;have p32:m/2^32=m/4294967296:=rfl;have p40:m/2^(32+8)=m/1099511627776:=rfl;have p48:m/2^(32+16)=m/281474976710656:=rfl;have p56:m/2^(32+16+8)=m/72057594037927936:=rfl
 repeat' split
 ·rw [w8 _ (by omega)];exact key 56 (by omega) (by omega)
 ·rw [w8 _ (by omega)];exact key 48 (by omega) (by omega)
 ·rw [w8 _ (by omega)];exact key 40 (by omega) (by omega)
 ·rw [w8 _ (by omega)];exact key 32 (by omega) (by omega)
 ·rw [w8 _ (by omega)];exact key 24 (by omega) (by omega)
 ·rw [w8 _ (by omega)];exact key 16 (by omega) (by omega)
 ·rw [w8 _ (by omega)];exact key 8 (by omega) (by omega)
 ·have:=key 0 (by omega) (by omega);rw [w8 _ (by omega)];simpa using this
theorem gq7 {n:Int} (h:w9 n):qbj n=vh5 n:=by
 show IntKind.u64.wrap (yi1 .u64 (1:Int) (jj9 n)-1)=_;unfold vh5;rw [kp0 h];split
 ·subst_vars;rfl
 ·have h1:Nat.log2 n.toNat<64:=(Nat.log2_lt (by omega)).2 (by omega);rw [vh9 (by omega),za2,Int.toNat_natCast];by_cases h2:Nat.log2 n.toNat+1=64
  ·rw [h2];rfl
  ·have h3:2^(Nat.log2 n.toNat+1)<=2^63:=Nat.pow_le_pow_right (by decide) (by omega);have h4:=Nat.two_pow_pos (Nat.log2 n.toNat+1);have h5:(1:Int)*2^(Nat.log2 n.toNat+1)=((2^(Nat.log2 n.toNat+1):Nat):Int):=by simp
   rw [h5];omega
def kg1 (z a s:Nat) (b:Bool):Nat:=(a >>> s)|||(if b then (2^s-1) <<< (z-s) else 0)
theorem gp7 {z a s:Nat} {b:Bool} (ha:a<2^z) (hs:s<z):kg1 z a s b<2^z:=by
 unfold kg1;apply Nat.or_lt_two_pow
 ·exact Nat.lt_of_le_of_lt (by rw [Nat.shiftRight_eq_div_pow];exact Nat.div_le_self _ _) ha
 ·split
  ·rw [Nat.shiftLeft_eq];have h1:2^z=2^s*2^(z-s):=by rw [<-Nat.pow_add];congr 1;omega
   rw [h1];exact Nat.mul_lt_mul_of_pos_right (by have:=Nat.two_pow_pos s;omega) (Nat.two_pow_pos _)
  ·exact Nat.two_pow_pos _
theorem ys9 {z a s:Nat} {b:Bool} (ha:a<2^z) (hs:s<z):kg1 z a s b=a/2^s+(if b then (2^s-1)*2^(z-s) else 0):=by
 unfold kg1;rw [Nat.shiftRight_eq_div_pow];cases b with
 |false=>simp
 |true=>
  simp only [if_true];have h1:2^z=2^s*2^(z-s):=by rw [<-Nat.pow_add];congr 1;omega
  have h2:a/2^s<2^(z-s):=Nat.div_lt_of_lt_mul (by rw [<-h1];exact ha);rw [Nat.or_comm,<-Nat.shiftLeft_add_eq_or_of_lt h2,Nat.shiftLeft_eq,Nat.add_comm]
theorem qg3 {z a:Nat} (ha:a<2^(z+1)):a.testBit z=decide (2^z<=a):=by
 rw [Nat.testBit_eq_decide_div_mod_eq];have h1:a/2^z<2:=Nat.div_lt_of_lt_mul (by rw [Nat.pow_succ] at ha;exact ha);by_cases h:2^z<=a
 ·have:1<=a/2^z:=(Nat.one_le_div_iff (Nat.two_pow_pos _)).2 h;have h2:a/2^z=1:=by omega
  simp [h2,h]
 ·have h2:a/2^z=0:=Nat.div_eq_of_lt (by omega);simp [h2,h]
theorem kw1 {z a s:Nat} (_ha:a<2^z) (hs:s<z):((a:Int)-(2:Int)^z)/2^s=((a/2^s:Nat):Int)-2^(z-s):=by
 have h1:(2:Int)^z=2^(z-s)*2^s:=by rw [<-Int.pow_add];congr 1;omega
 rw [h1,Int.sub_eq_add_neg,<-Int.neg_mul,Int.add_mul_ediv_right _ _ (by exact Int.ne_of_gt (Int.pow_pos (by omega)))];simp [Int.sub_eq_add_neg]
theorem gb4 {z s:Nat} (hs:s<z):((2^s-1)*2^(z-s):Nat)=2^z-2^(z-s):=by
 rw [Nat.sub_mul,Nat.one_mul,<-Nat.pow_add];congr 2;omega
theorem ul8 {a s:Nat} (ha:a<2^32) (hs:s<32):IntKind.u32.wrap (zb8 .i32 (IntKind.i32.wrap (a:Int)) (s:Int))=((kg1 32 a s (a.testBit 31):Nat):Int):=by
 rw [ys9 ha hs,qg3 (z:=31) ha];unfold zb8;rw [Int.fdiv_eq_ediv_of_nonneg _ (by exact Int.le_of_lt (Int.pow_pos (by omega))),show min (s:Int).toNat IntKind.i32.bits=s from by simp only [IntKind.bits];omega,vf9,zd8];have hd:a/2^s<=a:=Nat.div_le_self _ _;by_cases h:2^31<=a
 ·rw [if_pos (by omega),show (a:Int)%4294967296-4294967296=(a:Int)-(2:Int)^32 from by omega,kw1 ha hs];simp only [h,decide_true,if_true];rw [gb4 hs];have h3:2^(32-s)<=2^32:=Nat.pow_le_pow_right (by decide) (by omega);have h4:(2:Int)^(32-s)=((2^(32-s):Nat):Int):=by simp
  have h5:a/2^s<2^(32-s):=Nat.div_lt_of_lt_mul (by rw [<-Nat.pow_add];rw [show s+(32-s)=32 by omega];exact ha);rw [h4];have h6:=Nat.two_pow_pos (32-s);generalize 2^(32-s)=q at *;generalize a/2^s=d at *;omega
 ·rw [if_neg (by omega),show (a:Int)%4294967296=(a:Int) by omega];simp only [h,decide_false,Bool.false_eq_true,if_false];have:(a:Int)/2^s=((a/2^s:Nat):Int):=by simp
  rw [this];generalize a/2^s=d at *;omega
theorem un2 {a s:Nat} (ha:a<2^64) (hs:s<64):IntKind.u64.wrap (zb8 .i64 (IntKind.i64.wrap (a:Int)) (s:Int))=((kg1 64 a s (a.testBit 63):Nat):Int):=by
 rw [ys9 ha hs,qg3 (z:=63) ha];unfold zb8;rw [Int.fdiv_eq_ediv_of_nonneg _ (by exact Int.le_of_lt (Int.pow_pos (by omega))),show min (s:Int).toNat IntKind.i64.bits=s from by simp only [IntKind.bits];omega,ve0,za2];have hd:a/2^s<=a:=Nat.div_le_self _ _;by_cases h:2^63<=a
 ·rw [if_pos (by omega),show (a:Int)%18446744073709551616-18446744073709551616=(a:Int)-(2:Int)^64 from by omega,kw1 ha hs];simp only [h,decide_true,if_true];rw [gb4 hs];have h3:2^(64-s)<=2^64:=Nat.pow_le_pow_right (by decide) (by omega);have h4:(2:Int)^(64-s)=((2^(64-s):Nat):Int):=by simp
  have h5:a/2^s<2^(64-s):=Nat.div_lt_of_lt_mul (by rw [<-Nat.pow_add];rw [show s+(64-s)=64 by omega];exact ha);rw [h4];have h6:=Nat.two_pow_pos (64-s);generalize 2^(64-s)=q at *;generalize a/2^s=d at *;omega
 ·rw [if_neg (by omega),show (a:Int)%18446744073709551616=(a:Int) by omega];simp only [h,decide_false,Bool.false_eq_true,if_false];have:(a:Int)/2^s=((a/2^s:Nat):Int):=by simp
  rw [this];generalize a/2^s=d at *;omega
def k9 (nw:Bool):Int:=if nw then 4294967295 else 18446744073709551615
structure SpOk (nw:Bool) (s:v3):Prop where
 lo:0<=s.Lo
 le:s.Lo<=s.Hi
 hi:s.Hi<=k9 nw
theorem SpOk.u (nw:Bool) {s:v3} (h:SpOk nw s):w9 s.Lo/\w9 s.Hi:=by
 have h1:=h.lo;have h2:=h.le;have h3:=h.hi;unfold k9 at h3;split at h3<;>omega
theorem yw6 {x:Int} (h:w9 x):za9 .u64 x 4294967295=x%4294967296:=by
 rw [yc3 h (by omega),show (4294967295:Int).toNat=2^32-1 from rfl,Nat.and_two_pow_sub_one_eq_mod];omega
theorem gj9 {x:Int} (h:w9 x):za9 .u64 x 18446744073709551615=x:=by
 rw [yc3 h (by omega),show (18446744073709551615:Int).toNat=2^64-1 from rfl,Nat.and_two_pow_sub_one_eq_mod];omega
theorem we6 {x:Int}:zb8 .u64 x 32=x/4294967296:=by rw [zm4 (by omega)];rfl
theorem zu6 {s:v3} {nw:Bool} (h:w9 s.Lo/\w9 s.Hi) (hle:s.Lo<=s.Hi):SpOk nw (qh s nw):=by
 cases nw with
 |false=>exact ⟨h.1.1,hle,h.2.2⟩
 |true=>
  unfold qh;simp only [Bool.not_true,Bool.false_eq_true,if_false,we6,yw6 h.1,yw6 h.2];split
  ·exact ⟨by decide,by decide,by decide⟩
  ·rename_i hq;have hq:s.Lo/4294967296=s.Hi/4294967296:=by simpa using hq
   refine ⟨?_,?_,?_⟩
   ·show 0<=s.Lo%4294967296;omega
   ·show s.Lo%4294967296<=s.Hi%4294967296;omega
   ·show s.Hi%4294967296<=4294967295;omega
theorem yg0 (s:v3):qm s=decide (s.Lo=s.Hi):=by
 show ((s.Lo==s.Lo)&&(s.Hi==s.Lo))=_;by_cases h:s.Lo=s.Hi<;>simp [h];exact fun e=>h e.symm
theorem yu5 (w:Twork):qx w=(decide (w.a.Lo=w.a.Hi)&&decide (w.b.Lo=w.b.Hi)):=by
 show (qm w.a&&qm w.b)=_;rw [yg0,yg0]
def wk (nw:Bool) (a b:v3):Twork:=⟨a,b,nw,k9 nw,if nw then 32 else 64⟩
theorem gz3 (nw:Bool) (a b:v3):qag nw a b=wk nw (qh a nw) (qh b nw):=by
 cases nw<;>rfl
theorem vi3 (nw:Bool):zh5 nw=⟨0,k9 nw⟩:=by cases nw<;>rfl
theorem vs2 {α:Type} (c:Bool) (n:α) (f:Unit->α):yg2 (ze6 c) n f=if c=true then f () else n:=by
 cases c<;>rfl
theorem zw2 (nw:Bool):w9 (k9 nw):=by cases nw<;>decide
theorem kr2 (nw:Bool):k9 nw=4294967295\/k9 nw=18446744073709551615:=by cases nw<;>simp [k9]
theorem ki0 {nw:Bool} {p q:Int} (hp:0<=p/\p<=k9 nw) (hq:0<=q/\q<=k9 nw):
  (((ya6 p q).1==0)&&decide ((ya6 p q).2<=k9 nw))=decide (p*q<=k9 nw):=by
 have hm:=zw2 nw;rw [ur9 p q ⟨hp.1,by omega⟩ ⟨hq.1,by omega⟩,wc3];have h0:0<=p*q:=Int.mul_nonneg hp.1 hq.1;generalize p*q=z at *;rw [Bool.eq_iff_iff];simp only [Bool.and_eq_true,beq_iff_eq,decide_eq_true_eq];omega
theorem qr5 {nw:Bool} {x c:Int} (hx:0<=x) (hc:0<=c/\c<=63) (h:x<=zb8 .u64 (k9 nw) c):yi1 .u64 x c=x*2^c.toNat/\x*2^c.toNat<=k9 nw:=by
 rw [zm4 (by omega)] at h;have hp:(0:Int)<2^c.toNat:=Int.pow_pos (by omega);have h1:x*2^c.toNat<=k9 nw:=(Int.le_ediv_iff_mul_le hp).1 h;have h2:0<=x*2^c.toNat:=Int.mul_nonneg hx (Int.le_of_lt hp);have hm:=zw2 nw;refine ⟨?_,h1⟩;rw [vh9 (by omega)];omega
theorem jl2 {nw:Bool} {a b:v3} {x:Int} (hx:0<=x/\x<=k9 nw):qz (wk nw a b) x=decide (k9 nw<2*x):=by
 cases nw with
 |true=>
  have h2:x<=4294967295:=hx.2;have e:((za9 .u64 (zb8 .u64 x 31) 1)==1)=decide (k9 true<2*x):=by
   rw [zm4 (by omega),show (2:Int)^(31:Int).toNat=2147483648 from rfl,yc3 (by omega) (by omega)];rw [show (1:Int).toNat=1 from rfl,Nat.and_one_is_mod];show _=decide (4294967295<2*x);rw [Bool.eq_iff_iff,beq_iff_eq,decide_eq_true_eq];omega
  exact e
 |false=>
  have h2:x<=18446744073709551615:=hx.2;have e:((za9 .u64 (zb8 .u64 x 63) 1)==1)=decide (k9 false<2*x):=by
   rw [zm4 (by omega),show (2:Int)^(63:Int).toNat=9223372036854775808 from rfl,yc3 (by omega) (by omega)];rw [show (1:Int).toNat=1 from rfl,Nat.and_one_is_mod];show _=decide (18446744073709551615<2*x);rw [Bool.eq_iff_iff,beq_iff_eq,decide_eq_true_eq];omega
  exact e
theorem qn2 {nw:Bool} {a b s:v3} (hs:SpOk nw s):qan (wk nw a b) s=(decide (k9 nw<2*s.Lo) != decide (k9 nw<2*s.Hi)):=by
 show (qz (wk nw a b) s.Lo != qz (wk nw a b) s.Hi)=_;have h1:=hs.lo;have h2:=hs.le;have h3:=hs.hi;rw [jl2 ⟨h1,by omega⟩,jl2 ⟨by omega,h3⟩]
def zc1 (op:Int) (w:Twork):Option v3:=
 if op=1 then zo5 w else if op=2 then zo9 w else if op=3 then zo6 w else if op=4 then some (qbq w) else if op=5 then some (qbr w)
 else if op=6 then some (qbk w) else if op=7 then some (qbl w) else if op=8 then some (qbm w) else if op=9 then zp6 w else if op=10 then some (qaf w)
 else if op=11 then zp3 w else if op=12 then some (qbs w) else zj2 w
theorem kr1 (op:Int):jn1 op=decide (1<=op/\op<=13):=by
 unfold jn1;rw [Bool.eq_iff_iff];simp only [Bool.or_eq_true,beq_iff_eq,decide_eq_true_eq];omega
theorem zv7 (op:Int) (nw:Bool) (a b:v3):span_Do op nw a b=if (1<=op/\op<=13)/\a.Lo<=a.Hi/\b.Lo<=b.Hi then (zc1 op (wk nw (qh a nw) (qh b nw))).getD ⟨0,k9 nw⟩ else ⟨0,k9 nw⟩:=by
 rw [span_Do.eq_1];simp only [kr1,w5,zc8,vi3,gz3];by_cases h:(1<=op/\op<=13)/\a.Lo<=a.Hi/\b.Lo<=b.Hi
 ·rw [if_pos h,if_neg (by simp [h])];unfold zc1;generalize wk nw (qh a nw) (qh b nw)=w;have hh:op=1\/op=2\/op=3\/op=4\/op=5\/op=6\/op=7\/op=8\/op=9\/op=10\/op=11\/op=12\/op=13:=by omega
  rcases hh with rfl|rfl|rfl|rfl|rfl|rfl|rfl|rfl|rfl|rfl|rfl|rfl|rfl
  all_goals first|rfl|(simp only [show ∀o:Option v3,yg2 o (⟨0,k9 nw⟩:v3) (fun x=>x)=o.getD ⟨0,k9 nw⟩ from fun o=>by cases o<;>rfl];rfl)
 ·rw [if_neg h,if_pos];simp only [Bool.or_eq_true,Bool.not_eq_true',decide_eq_false_iff_not];omega
end Go.Y
namespace Go.Y
open Go.RowKit Go.V Go.X Go.Proofs
theorem kv6 {x:Int} (h:qz6 x):(BitVec.ofInt IntKind.u32.bits x).toNat=x.toNat:=by
 rw [BitVec.toNat_ofInt];simp only [IntKind.bits];omega
theorem wl0 {x y:Int} (hx:qz6 x) (hy:qz6 y):za9 .u32 x y=((x.toNat&&&y.toNat:Nat):Int):=by
 unfold za9;rw [BitVec.toNat_and,kv6 hx,kv6 hy,zd8];have:x.toNat&&&y.toNat<=x.toNat:=Nat.and_le_left;omega
theorem wc5 {x:Int} (h:qz6 x):x.toNat<2^32:=by omega
theorem uq2 {x y:Int} (hx:qz6 x) (hy:qz6 y):bOr .u32 x y=((x.toNat|||y.toNat:Nat):Int):=by
 unfold bOr;rw [BitVec.toNat_or,kv6 hx,kv6 hy,zd8];have:=Nat.or_lt_two_pow (wc5 hx) (wc5 hy);omega
theorem wp2 {x y:Int} (hx:qz6 x) (hy:qz6 y):ja8 .u32 x y=((x.toNat^^^y.toNat:Nat):Int):=by
 unfold ja8;rw [BitVec.toNat_xor,kv6 hx,kv6 hy,zd8];have:=Nat.xor_lt_two_pow (wc5 hx) (wc5 hy);omega
theorem wr5 {x y:Int} (hy:0<=y/\y<=32):zb8 .u32 x y=x/2^y.toNat:=by
 unfold zb8;rw [Int.fdiv_eq_ediv_of_nonneg _ (by exact Int.le_of_lt (Int.pow_pos (by omega)))];congr 2;simp only [IntKind.bits];omega
theorem ua0 {x y:Int} (hy:0<=y/\y<=32):yi1 .u32 x y=(x*2^y.toNat)%4294967296:=by
 unfold yi1;rw [zd8];congr 3;simp only [IntKind.bits];omega
def ze9 (nw:Bool):Nat:=if nw then 32 else 64
theorem yj7 (nw:Bool):k9 nw+1=2^ze9 nw:=by cases nw<;>decide
theorem yu0 (nw:Bool):ze9 nw=32\/ze9 nw=64:=by cases nw<;>simp [ze9]
def yx0 (nw:Bool) (p:Int) (s:Nat):Int:=((kg1 (ze9 nw) p.toNat s (decide (k9 nw<2*p)):Nat):Int)
def shN (nw:Bool) (q:Int):Nat:=(q%(ze9 nw:Int)).toNat
theorem je8 (nw:Bool) (q:Int):shN nw q<ze9 nw:=by unfold shN;rcases yu0 nw with h|h<;>rw [h]<;>omega
def ve3 (nw:Bool) (op p q:Int):Option Int:=
 if op=1 then some ((p+q)%(k9 nw+1)) else if op=2 then some ((p-q)%(k9 nw+1)) else if op=3 then some ((p*q)%(k9 nw+1))
 else if op=4 then (if q=0 then none else some (p/q)) else if op=5 then (if q=0 then none else some (p%q))
 else if op=6 then some ((p.toNat&&&q.toNat:Nat):Int) else if op=7 then some ((p.toNat|||q.toNat:Nat):Int) else if op=8 then some ((p.toNat^^^q.toNat:Nat):Int)
 else if op=9 then some ((p*2^shN nw q)%(k9 nw+1)) else if op=10 then some (p/2^shN nw q) else if op=11 then some (yx0 nw p (shN nw q))
 else if op=12 then some q else some ((0-p)%(k9 nw+1))
def qp3 (nw:Bool) (p:Int):Int:=if nw then p%4294967296 else p
theorem vq9 {nw:Bool} {p:Int} (h:w9 p):0<=qp3 nw p/\qp3 nw p<=k9 nw:=by
 cases nw with
 |true=>show 0<=p%4294967296/\p%4294967296<=4294967295;omega
 |false=>exact h
def kh1 (o:Option Int):Int×Int:=match o with|some v=>(v,0)|none=>(0,113)
theorem vo2 (nw:Bool) {a:Nat} (ha:a<2^ze9 nw):a.testBit (ze9 nw-1)=decide (k9 nw<2*(a:Int)):=by
 cases nw with
 |true=>rw [show ze9 true-1=31 from rfl,qg3 (z:=31) ha,show k9 true=4294967295 from rfl];rw [Bool.eq_iff_iff,decide_eq_true_eq,decide_eq_true_eq];omega
 |false=>rw [show ze9 false-1=63 from rfl,qg3 (z:=63) ha,show k9 false=18446744073709551615 from rfl];rw [Bool.eq_iff_iff,decide_eq_true_eq,decide_eq_true_eq];omega
theorem qd1 (nw:Bool) {q:Int} (_h:0<=q):q%(ze9 nw:Int)=((shN nw q:Nat):Int):=by unfold shN;rcases yu0 nw with h|h<;>rw [h]<;>omega
theorem jx5 {op:Int} (hop:1<=op/\op<=13) {nw:Bool} {p q:Int} (hp:w9 p) (hq:w9 q):zu8 op nw p q=kh1 (ve3 nw op (qp3 nw p) (qp3 nw q)):=by
 have hh:op=1\/op=2\/op=3\/op=4\/op=5\/op=6\/op=7\/op=8\/op=9\/op=10\/op=11\/op=12\/op=13:=by omega
 cases nw with
 |true=>
  have hx:qz6 (p%4294967296):=by omega
  have hy:qz6 (q%4294967296):=by omega
  show jd1 op 32 (IntKind.u32.wrap p) (IntKind.u32.wrap q)=kh1 (ve3 true op (p%4294967296) (q%4294967296));rw [zd8,zd8];generalize p%4294967296=x at *;generalize q%4294967296=y at *;have hy32:y%32=((shN true y:Nat):Int):=qd1 true hy.1;have hlt:shN true y<32:=je8 true y;have hd:0<=x/y/\x/y<=x:=⟨Int.ediv_nonneg hx.1 hy.1,Int.ediv_le_self _ hx.1⟩;rcases hh with rfl|rfl|rfl|rfl|rfl|rfl|rfl|rfl|rfl|rfl|rfl|rfl|rfl
  ·show (IntKind.u32.wrap (x+y),(0:Int))=((x+y)%(4294967295+1),0);rw [zd8];rfl
  ·show (IntKind.u32.wrap (x-y),(0:Int))=((x-y)%(4294967295+1),0);rw [zd8];rfl
  ·show (IntKind.u32.wrap (x*y),(0:Int))=((x*y)%(4294967295+1),0);rw [zd8];rfl
  ·by_cases h0:y=0
   ·subst h0;rfl
   ·show (if (y==0)=true then ((0:Int),(113:Int)) else (IntKind.u32.wrap (x.tdiv y),0))=kh1 (if y=0 then none else some (x/y));rw [if_neg (by simpa using h0),if_neg h0,zd8,Int.tdiv_eq_ediv_of_nonneg hx.1];show _=(x/y,(0:Int));congr 1;omega
  ·by_cases h0:y=0
   ·subst h0;rfl
   ·show (if (y==0)=true then ((0:Int),(113:Int)) else (x.tmod y,0))=kh1 (if y=0 then none else some (x%y));rw [if_neg (by simpa using h0),if_neg h0,Int.tmod_eq_emod_of_nonneg hx.1];rfl
  ·show (za9 .u32 x y,(0:Int))=(((x.toNat&&&y.toNat:Nat):Int),0);rw [wl0 hx hy]
  ·show (bOr .u32 x y,(0:Int))=(((x.toNat|||y.toNat:Nat):Int),0);rw [uq2 hx hy]
  ·show (ja8 .u32 x y,(0:Int))=(((x.toNat^^^y.toNat:Nat):Int),0);rw [wp2 hx hy]
  ·show (yi1 .u32 x (y.tmod 32),(0:Int))=((x*2^shN true y)%(4294967295+1),0);rw [Int.tmod_eq_emod_of_nonneg hy.1,hy32,ua0 (by omega)];rfl
  ·show (zb8 .u32 x (y.tmod 32),(0:Int))=(x/2^shN true y,0);rw [Int.tmod_eq_emod_of_nonneg hy.1,hy32,wr5 (by omega)];rfl
  ·show (IntKind.u32.wrap (zb8 .i32 (IntKind.i32.wrap x) (y.tmod 32)),(0:Int))=(yx0 true x (shN true y),0);obtain ⟨a,rfl⟩:=Int.eq_ofNat_of_zero_le hx.1;rw [Int.tmod_eq_emod_of_nonneg hy.1,hy32,ul8 (by omega) hlt];unfold yx0;rw [<-vo2 true (a:=a) (show a<2^32 by omega)];rfl
  ·rfl
  ·show (IntKind.u32.wrap (0-x),(0:Int))=((0-x)%(4294967295+1),0);rw [zd8];rfl
 |false=>
  show jr0 op 64 p q=kh1 (ve3 false op p q);have hx:=hp;have hy:=hq;have hy64:q%64=((shN false q:Nat):Int):=qd1 false hy.1;have hlt:shN false q<64:=je8 false q;have hd:0<=p/q/\p/q<=p:=⟨Int.ediv_nonneg hx.1 hy.1,Int.ediv_le_self _ hx.1⟩;rcases hh with rfl|rfl|rfl|rfl|rfl|rfl|rfl|rfl|rfl|rfl|rfl|rfl|rfl
  ·show (IntKind.u64.wrap (p+q),(0:Int))=((p+q)%(18446744073709551615+1),0);rw [za2];rfl
  ·show (IntKind.u64.wrap (p-q),(0:Int))=((p-q)%(18446744073709551615+1),0);rw [za2];rfl
  ·show (IntKind.u64.wrap (p*q),(0:Int))=((p*q)%(18446744073709551615+1),0);rw [za2];rfl
  ·by_cases h0:q=0
   ·subst h0;rfl
   ·show (if (q==0)=true then ((0:Int),(113:Int)) else (IntKind.u64.wrap (p.tdiv q),0))=kh1 (if q=0 then none else some (p/q));rw [if_neg (by simpa using h0),if_neg h0,za2,Int.tdiv_eq_ediv_of_nonneg hx.1];show _=(p/q,(0:Int));congr 1;omega
  ·by_cases h0:q=0
   ·subst h0;rfl
   ·show (if (q==0)=true then ((0:Int),(113:Int)) else (p.tmod q,0))=kh1 (if q=0 then none else some (p%q));rw [if_neg (by simpa using h0),if_neg h0,Int.tmod_eq_emod_of_nonneg hx.1];rfl
  ·show (za9 .u64 p q,(0:Int))=(((p.toNat&&&q.toNat:Nat):Int),0);rw [yc3 hx hy]
  ·show (bOr .u64 p q,(0:Int))=(((p.toNat|||q.toNat:Nat):Int),0);rw [gb9 hx hy]
  ·show (ja8 .u64 p q,(0:Int))=(((p.toNat^^^q.toNat:Nat):Int),0);rw [kw0 hx hy]
  ·show (yi1 .u64 p (q.tmod 64),(0:Int))=((p*2^shN false q)%(18446744073709551615+1),0);rw [Int.tmod_eq_emod_of_nonneg hy.1,hy64,vh9 (by omega)];rfl
  ·show (zb8 .u64 p (q.tmod 64),(0:Int))=(p/2^shN false q,0);rw [Int.tmod_eq_emod_of_nonneg hy.1,hy64,zm4 (by omega)];rfl
  ·show (IntKind.u64.wrap (zb8 .i64 (IntKind.i64.wrap p) (q.tmod 64)),(0:Int))=(yx0 false p (shN false q),0);obtain ⟨a,rfl⟩:=Int.eq_ofNat_of_zero_le hx.1;rw [Int.tmod_eq_emod_of_nonneg hy.1,hy64,un2 (by omega) hlt];unfold yx0;rw [<-vo2 false (a:=a) (show a<2^64 by omega)];rfl
  ·rfl
  ·show (IntKind.u64.wrap (0-p),(0:Int))=((0-p)%(18446744073709551615+1),0);rw [za2];rfl
def yp9 (p q:Int):Int:=vh5 ((p.toNat|||q.toNat:Nat):Int)
def vj4 (nw:Bool) (op:Int) (u v:v3):Option v3:=
 if op=1 then (if v.Hi<=k9 nw-u.Hi\/v.Lo>k9 nw-u.Lo then some ⟨(u.Lo+v.Lo)%(k9 nw+1),(u.Hi+v.Hi)%(k9 nw+1)⟩ else none)
 else if op=2 then (if u.Lo>=v.Hi\/u.Hi<v.Lo then some ⟨(u.Lo-v.Hi)%(k9 nw+1),(u.Hi-v.Lo)%(k9 nw+1)⟩ else none)
 else if op=3 then (if u.Hi*v.Hi<=k9 nw then some ⟨u.Lo*v.Lo,u.Hi*v.Hi⟩ else none)
 else if op=4 then some ⟨u.Lo/max v.Hi 1,u.Hi/max v.Lo 1⟩
 else if op=5 then some (if u.Hi<max v.Lo 1 then u else ⟨0,min u.Hi (max v.Hi 1-1)⟩)
 else if op=6 then some (if u.Lo=u.Hi/\v.Lo=v.Hi then ⟨((u.Lo.toNat&&&v.Lo.toNat:Nat):Int),((u.Lo.toNat&&&v.Lo.toNat:Nat):Int)⟩ else ⟨0,min u.Hi v.Hi⟩)
 else if op=7 then some (if u.Lo=u.Hi/\v.Lo=v.Hi then ⟨((u.Lo.toNat|||v.Lo.toNat:Nat):Int),((u.Lo.toNat|||v.Lo.toNat:Nat):Int)⟩ else ⟨max u.Lo v.Lo,yp9 u.Hi v.Hi⟩)
 else if op=8 then some (if u.Lo=u.Hi/\v.Lo=v.Hi then ⟨((u.Lo.toNat^^^v.Lo.toNat:Nat):Int),((u.Lo.toNat^^^v.Lo.toNat:Nat):Int)⟩ else ⟨0,yp9 u.Hi v.Hi⟩)
 else if op=9 then (if v.Lo=v.Hi/\u.Hi*2^shN nw v.Lo<=k9 nw then some ⟨u.Lo*2^shN nw v.Lo,u.Hi*2^shN nw v.Lo⟩ else none)
 else if op=10 then some (if v.Lo=v.Hi then ⟨u.Lo/2^shN nw v.Lo,u.Hi/2^shN nw v.Lo⟩ else if v.Hi>=ze9 nw then ⟨0,u.Hi⟩ else ⟨u.Lo/2^v.Hi.toNat,u.Hi/2^v.Lo.toNat⟩)
 else if op=11 then (if v.Lo=v.Hi/\(k9 nw<2*u.Lo↔k9 nw<2*u.Hi) then some ⟨yx0 nw u.Lo (shN nw v.Lo),yx0 nw u.Hi (shN nw v.Lo)⟩ else none)
 else if op=12 then some v
 else (if u.Hi=0 then some u else if u.Lo>0 then some ⟨(0-u.Hi)%(k9 nw+1),(0-u.Lo)%(k9 nw+1)⟩ else none)
theorem qe8 {α:Type} {c:Bool} {p:Prop} [Decidable p] (h:c=decide p) (x y:α) (hxy:p->x=y):(yg2 (ze6 c) none fun _=>some x)=if p then some y else none:=by
 rw [vs2,h];by_cases hp:p
 ·simp [hp,hxy hp]
 ·simp [hp]
theorem jm8 {nw:Bool} (a b:v3) (x y:Int):qas (wk nw a b) (IntKind.u64.wrap x) (IntKind.u64.wrap y)=⟨x%(k9 nw+1),y%(k9 nw+1)⟩:=by
 have key: ∀x:Int,za9 .u64 (IntKind.u64.wrap x) (k9 nw)=x%(k9 nw+1):=by
  intro x;cases nw with
  |true=>show za9 .u64 _ 4294967295=x%4294967296;rw [yw6 (zo4 x),za2];omega
  |false=>show za9 .u64 _ 18446744073709551615=x%18446744073709551616;rw [gj9 (zo4 x),za2]
 show (⟨_,_⟩:v3)=_;rw [show (wk nw a b).most=k9 nw from rfl,key,key]
theorem vp4 {nw:Bool} {p q:Int} (hp:0<=p/\p<=k9 nw) (hq:0<=q/\q<=k9 nw):qbj (bOr .u64 p q)=yp9 p q:=by
 have hm:=zw2 nw;have hw:w9 (bOr .u64 p q):=zo4 _;rw [gq7 hw,gb9 ⟨hp.1,by omega⟩ ⟨hq.1,by omega⟩];rfl
theorem vn8 {nw:Bool} {x y:Int} (hx:0<=x/\x<=k9 nw) (hy:0<=y/\y<=k9 nw):(zu8 11 nw x y).1=yx0 nw x (shN nw y):=by
 have hm:=zw2 nw;have e: ∀z:Int,(0<=z/\z<=k9 nw)->qp3 nw z=z:=by
  intro z hz;cases nw with
  |true=>show z%4294967296=z;have:k9 true=4294967295:=rfl;omega
  |false=>rfl
 rw [jx5 (by omega) ⟨hx.1,by omega⟩ ⟨hy.1,by omega⟩,e x hx,e y hy];rfl
theorem vw8 {op:Int} (hop:1<=op/\op<=13) {nw:Bool} {u v:v3} (hu:SpOk nw u) (hv:SpOk nw v):zc1 op (wk nw u v)=vj4 nw op u v:=by
 have hu1:=hu.lo;have hu2:=hu.le;have hu3:=hu.hi;have hv1:=hv.lo;have hv2:=hv.le;have hv3:=hv.hi;have hm:=zw2 nw;have iu:=hu.u;have iv:=hv.u;have hh:op=1\/op=2\/op=3\/op=4\/op=5\/op=6\/op=7\/op=8\/op=9\/op=10\/op=11\/op=12\/op=13:=by omega
 rcases hh with rfl|rfl|rfl|rfl|rfl|rfl|rfl|rfl|rfl|rfl|rfl|rfl|rfl
 ·refine qe8 (p:=v.Hi<=k9 nw-u.Hi\/v.Lo>k9 nw-u.Lo) ?_ _ _ fun _=>jm8 u v _ _;show (decide (v.Hi<=IntKind.u64.wrap (k9 nw-u.Hi))||decide (v.Lo>IntKind.u64.wrap (k9 nw-u.Lo)))=_;rw [za2,za2,Int.emod_eq_of_lt (by omega) (by omega),Int.emod_eq_of_lt (by omega) (by omega)];simp
 ·refine qe8 (p:=u.Lo>=v.Hi\/u.Hi<v.Lo) ?_ _ _ fun _=>jm8 u v _ _;show (decide (u.Lo>=v.Hi)||decide (u.Hi<v.Lo))=_;simp
 ·refine qe8 (p:=u.Hi*v.Hi<=k9 nw) ?_ _ _ fun h=>?_
  ·show (((ya6 u.Hi v.Hi).1==0)&&decide ((ya6 u.Hi v.Hi).2<=k9 nw))=_;exact ki0 ⟨by omega,hu3⟩ ⟨by omega,hv3⟩
  ·show (⟨IntKind.u64.wrap (u.Lo*v.Lo),(ya6 u.Hi v.Hi).2⟩:v3)=_;have h1:0<=u.Lo*v.Lo:=Int.mul_nonneg hu1 hv1;have h2:u.Lo*v.Lo<=u.Hi*v.Hi:=Int.mul_le_mul hu2 hv2 hv1 (by omega);rw [wc3,za2,Int.emod_eq_of_lt h1 (by omega),Int.emod_eq_of_lt (by omega) (by omega)]
 ·show some (⟨IntKind.u64.wrap (u.Lo.tdiv (zl5 v.Hi 1)),IntKind.u64.wrap (u.Hi.tdiv (zl5 v.Lo 1))⟩:v3)=some ⟨u.Lo/max v.Hi 1,u.Hi/max v.Lo 1⟩;have d: ∀x y:Int,0<=x->x<=k9 nw->IntKind.u64.wrap (x.tdiv (zl5 y 1))=x/max y 1:=by
   intro x y h1 h2;rw [zo1,Int.tdiv_eq_ediv_of_nonneg h1,za2];have h3:0<=x/max y 1:=Int.ediv_nonneg h1 (by omega);have h4:x/max y 1<=x:=Int.ediv_le_self _ h1;exact Int.emod_eq_of_lt h3 (by omega)
  rw [d _ _ hu1 (by omega),d _ _ (by omega) hu3]
 ·show some (if decide (u.Hi<zl5 v.Lo 1)=true then u else (⟨0,yi9 u.Hi (IntKind.u64.wrap (zl5 v.Hi 1-1))⟩:v3))=some (if u.Hi<max v.Lo 1 then u else ⟨0,min u.Hi (max v.Hi 1-1)⟩);rw [zo1,zo1,yg8,za2,Int.emod_eq_of_lt (by omega) (by omega)];simp only [decide_eq_true_eq]
 ·show some (qbk (wk nw u v))=some (if u.Lo=u.Hi/\v.Lo=v.Hi then _ else _);unfold qbk zc8;simp only [yu5];by_cases h1:u.Lo=u.Hi<;>by_cases h2:v.Lo=v.Hi<;>simp [h1,h2,wk,zn9,yg8];rw [yc3 iu.2 iv.2]
 ·show some (qbl (wk nw u v))=some (if u.Lo=u.Hi/\v.Lo=v.Hi then _ else _);unfold qbl zc8;simp only [yu5];have hf:=vp4 (nw:=nw) ⟨Int.le_trans hu1 hu2,hu3⟩ ⟨Int.le_trans hv1 hv2,hv3⟩;by_cases h1:u.Lo=u.Hi<;>by_cases h2:v.Lo=v.Hi<;>simp [h1,h2,wk,zn9,zo1,hf];rw [gb9 iu.2 iv.2]
 ·show some (qbm (wk nw u v))=some (if u.Lo=u.Hi/\v.Lo=v.Hi then _ else _);unfold qbm zc8;simp only [yu5];have hf:=vp4 (nw:=nw) ⟨Int.le_trans hu1 hu2,hu3⟩ ⟨Int.le_trans hv1 hv2,hv3⟩;by_cases h1:u.Lo=u.Hi<;>by_cases h2:v.Lo=v.Hi<;>simp [h1,h2,wk,zn9,hf];rw [kw0 iu.2 iv.2]
 ·have hsz:(if nw then (32:Int) else 64)=(ze9 nw:Int):=by cases nw<;>rfl
  have hc:v.Lo.tmod (if nw then (32:Int) else 64)=((shN nw v.Lo:Nat):Int):=by rw [Int.tmod_eq_emod_of_nonneg hv1,hsz,qd1 nw hv1]
  have hlt:=je8 nw v.Lo;have hs64:ze9 nw<=64:=by have:=yu0 nw;omega
  have hpow:(0:Int)<2^shN nw v.Lo:=Int.pow_pos (by omega);have hle: ∀x:Int,x<=zb8 .u64 (k9 nw) ((shN nw v.Lo:Nat):Int)↔x*2^shN nw v.Lo<=k9 nw:=by
   intro x;rw [zm4 (by omega),Int.toNat_natCast];exact Int.le_ediv_iff_mul_le hpow
  refine qe8 (p:=v.Lo=v.Hi/\u.Hi*2^shN nw v.Lo<=k9 nw) ?_ _ _ fun h=>?_
  ·show (qm v&&decide (u.Hi<=zb8 .u64 (k9 nw) (v.Lo.tmod (if nw then (32:Int) else 64))))=_;rw [yg0,hc,Bool.eq_iff_iff];simp only [Bool.and_eq_true,decide_eq_true_eq,hle]
  ·show (⟨yi1 .u64 u.Lo (v.Lo.tmod (if nw then (32:Int) else 64)),yi1 .u64 u.Hi (v.Lo.tmod (if nw then (32:Int) else 64))⟩:v3)=_;rw [hc];have h3:=qr5 (x:=u.Hi) (c:=((shN nw v.Lo:Nat):Int)) (by omega) (by omega) ((hle _).2 h.2);have h4:=qr5 (x:=u.Lo) (c:=((shN nw v.Lo:Nat):Int)) hu1 (by omega) (Int.le_trans hu2 ((hle _).2 h.2));rw [h3.1,h4.1,Int.toNat_natCast]
 ·have hsz:(if nw then (32:Int) else 64)=(ze9 nw:Int):=by cases nw<;>rfl
  have hc:v.Lo.tmod (if nw then (32:Int) else 64)=((shN nw v.Lo:Nat):Int):=by rw [Int.tmod_eq_emod_of_nonneg hv1,hsz,qd1 nw hv1]
  have hlt:=je8 nw v.Lo;have hs64:ze9 nw<=64:=by have:=yu0 nw;omega
  show some (if qm v then (⟨zb8 .u64 u.Lo (v.Hi.tmod (if nw then 32 else 64)),zb8 .u64 u.Hi (v.Lo.tmod (if nw then 32 else 64))⟩:v3) else if decide (v.Hi>=(if nw then (32:Int) else 64)) then ⟨0,u.Hi⟩ else ⟨zb8 .u64 u.Lo v.Hi,zb8 .u64 u.Hi v.Lo⟩)=some (if v.Lo=v.Hi then _ else if v.Hi>=ze9 nw then _ else _);rw [yg0];by_cases h1:v.Lo=v.Hi
  ·simp only [h1,decide_true,if_true];rw [h1] at hc hlt;rw [hc,zm4 (by omega),zm4 (by omega),Int.toNat_natCast]
  ·simp only [h1,decide_false,Bool.false_eq_true,if_false];rw [hsz];by_cases h2:v.Hi>=(ze9 nw:Int)
   ·simp only [h2,decide_true,if_true]
   ·simp only [h2,decide_false,Bool.false_eq_true,if_false];rw [zm4 (by omega),zm4 (by omega)]
 ·refine qe8 (p:=v.Lo=v.Hi/\(k9 nw<2*u.Lo↔k9 nw<2*u.Hi)) ?_ _ _ fun _=>?_
  ·show (qm v&& !(qan (wk nw u v) u))=_;rw [yg0,qn2 hu];by_cases h1:v.Lo=v.Hi<;>by_cases h2:k9 nw<2*u.Lo<;>by_cases h3:k9 nw<2*u.Hi<;>simp [h1,h2,h3]
  ·show (⟨(zu8 11 nw u.Lo v.Lo).1,(zu8 11 nw u.Hi v.Lo).1⟩:v3)=_;rw [vn8 ⟨hu1,by omega⟩ ⟨hv1,by omega⟩,vn8 ⟨by omega,hu3⟩ ⟨hv1,by omega⟩]
 ·rfl
 ·show zj2 (wk nw u v)=if u.Hi=0 then some u else if u.Lo>0 then _ else none
  unfold zj2;by_cases h1:u.Hi=0
  ·have h2:((wk nw u v).a.Hi==0)=true:=by simpa [wk] using h1
   rw [h2,if_pos h1];rfl
  ·have h2:((wk nw u v).a.Hi==0)=false:=by simpa [wk] using h1
   rw [h2,if_neg h1];exact qe8 (p:=u.Lo>0) rfl _ _ fun _=>jm8 u v _ _
end Go.Y
namespace Go.Y
open Go.RowKit Go.V Go.X Go.Proofs
end Go.Y
namespace Go.Y
open Go.RowKit Go.V Go.X Go.Proofs
def zf8 (nw:Bool) (p:Int):Bool:=decide (k9 nw<2*p)
def woE (s n:v3):v3:=if s.Lo=s.Hi\/n.Lo≠n.Hi then s else ⟨if s.Lo=n.Lo then s.Lo+1 else s.Lo,if s.Hi=n.Lo then s.Hi-1 else s.Hi⟩
def gtE (u v:v3):Option (v3×v3):=if u.Hi>v.Lo then some (⟨max u.Lo (v.Lo+1),u.Hi⟩,⟨v.Lo,min v.Hi (u.Hi-1)⟩) else none
def geE (u v:v3):Option (v3×v3):=if u.Hi>=v.Lo then some (⟨max u.Lo v.Lo,u.Hi⟩,⟨v.Lo,min v.Hi u.Hi⟩) else none
def va7 (o:Option (v3×v3)):Option (v3×v3):=o.map fun x=>(x.2,x.1)
def yn9 (op:Int) (u v:v3):Option (v3×v3):=
 if op=17 then (if max u.Lo v.Lo<=min u.Hi v.Hi then some (⟨max u.Lo v.Lo,min u.Hi v.Hi⟩,⟨max u.Lo v.Lo,min u.Hi v.Hi⟩) else none)
 else if op=18 then (if u.Lo=u.Hi/\v.Lo=v.Hi/\u.Lo=v.Lo then none else some (woE u v,woE v u))
 else if op=19 then gtE u v else if op=20 then geE u v else if op=21 then va7 (gtE v u) else va7 (geE v u)
def yw3 (nw:Bool) (op:Int) (u v:v3):Option (v3×v3):=
 if zf8 nw u.Lo≠zf8 nw u.Hi\/zf8 nw v.Lo≠zf8 nw v.Hi then some (u,v)
 else if zf8 nw u.Lo=zf8 nw v.Lo then yn9 (op-4) u v
 else if (op=23\/op=24)↔zf8 nw v.Lo=true then some (u,v) else none
def yb8 (yes:Bool) (u v:v3):Option (v3×v3):=
 if yes=false then (if u.Lo=u.Hi/\v.Lo=v.Hi/\u.Lo.toNat&&&v.Lo.toNat≠0 then none else some (u,v))
 else if u.Hi>0/\v.Hi>0/\ ¬(u.Lo=u.Hi/\v.Lo=v.Hi/\u.Lo.toNat&&&v.Lo.toNat=0) then some (⟨max u.Lo 1,u.Hi⟩,⟨max v.Lo 1,v.Hi⟩) else none
def ji0 (op:Int):Int:=if op=17 then 18 else if op=18 then 17 else if op=19 then 22 else if op=20 then 21 else if op=21 then 20 else if op=22 then 19 else if op=23 then 26 else if op=24 then 25 else if op=25 then 24 else 23
def kg0 (nw:Bool) (op:Int) (yes:Bool) (u v:v3):Option (v3×v3):=
 if op=27 then yb8 yes u v else if (if yes=true then op else ji0 op)>=23 then yw3 nw (if yes=true then op else ji0 op) u v else yn9 (if yes=true then op else ji0 op) u v
end Go.Y
namespace Go.Y
open Go.RowKit Go.V Go.X Go.Proofs
def Hs (s:v3) (x:Int):Prop:=s.Lo<=x/\x<=s.Hi
theorem km5 {a c d:Int} (ha:0<=a) (hc:0<c) (hd:c<=d):a/d<=a/c:=by
 rw [Int.le_ediv_iff_mul_le hc];have h1:0<=a/d:=Int.ediv_nonneg ha (by omega);have h2:a/d*c<=a/d*d:=Int.mul_le_mul_of_nonneg_left hd h1;have h3:a/d*d<=a:=Int.ediv_mul_le a (by omega);omega
theorem je5 {a b c d:Int} (h0:0<=a) (hab:a<=b) (hc:0<c) (hd:c<=d):a/d<=b/c:=
 Int.le_trans (Int.ediv_le_ediv (by omega) hab) (km5 (by omega) hc hd)
theorem zn3 (k:Nat):(0:Int)<2^k:=Int.pow_pos (by omega)
theorem qa6 {j k:Nat} (h:j<=k):(2:Int)^j<=2^k:=by
 have:=Nat.pow_le_pow_right (n:=2) (by decide) h;have e: ∀n:Nat,(2:Int)^n=((2^n:Nat):Int):=fun n=>by simp
 rw [e,e];omega
theorem vb4 {n:Int} (hn:0<=n): ∃j:Nat,vh5 n=((2^j:Nat):Int)-1/\n.toNat<2^j/\ ∀k:Nat,n.toNat<2^k->j<=k:=by
 unfold vh5;by_cases h0:n=0
 ·subst h0;exact ⟨0,by simp,by decide,fun k _=>Nat.zero_le k⟩
 ·rw [if_neg h0];refine ⟨Nat.log2 n.toNat+1,rfl,(Nat.log2_lt (by omega)).1 (Nat.lt_succ_self _),fun k hk=>?_⟩;have:=(Nat.log2_lt (n:=n.toNat) (k:=k) (by omega)).2 hk;omega
theorem jh8 {p q:Int}: ∃j:Nat,yp9 p q=((2^j:Nat):Int)-1/\p.toNat<2^j/\q.toNat<2^j/\ ∀k:Nat,p.toNat<2^k->q.toNat<2^k->j<=k:=by
 obtain ⟨j,h1,h2,h3⟩:=vb4 (n:=((p.toNat|||q.toNat:Nat):Int)) (by omega);rw [Int.toNat_natCast] at h2 h3;exact ⟨j,h1,Nat.lt_of_le_of_lt Nat.left_le_or h2,Nat.lt_of_le_of_lt Nat.right_le_or h2,fun k hp hq=>h3 k (Nat.or_lt_two_pow hp hq)⟩
theorem qy1 {p q a b:Int} (hp:a<=p) (hq:b<=q) {x:Nat} (hx: ∀k:Nat,a.toNat<2^k->b.toNat<2^k->x<2^k):(x:Int)<=yp9 p q:=by
 obtain ⟨j,h1,h2,h3,_⟩:=jh8 (p:=p) (q:=q);have:=hx j (by omega) (by omega);omega
theorem jv7 {nw:Bool} {p q:Int} (hp:0<=p/\p<=k9 nw) (hq:0<=q/\q<=k9 nw):max p q<=yp9 p q/\yp9 p q<=k9 nw:=by
 obtain ⟨j,h1,h2,h3,h4⟩:=jh8 (p:=p) (q:=q);have hm:=yj7 nw;have e:(2:Int)^ze9 nw=((2^ze9 nw:Nat):Int):=by simp
 have:=Nat.pow_le_pow_right (n:=2) (by decide) (h4 (ze9 nw) (by omega) (by omega));omega
theorem jm6 {nw:Bool} {p:Int} {s:Nat} (hp:0<=p/\p<=k9 nw) (hs:s<ze9 nw):0<=yx0 nw p s/\yx0 nw p s<=k9 nw:=by
 have hm:=yj7 nw;have e:(2:Int)^ze9 nw=((2^ze9 nw:Nat):Int):=by simp
 have:=gp7 (z:=ze9 nw) (a:=p.toNat) (s:=s) (b:=decide (k9 nw<2*p)) (by omega) hs;unfold yx0;omega
theorem yz0 {nw:Bool} {p q:Int} {s:Nat} (hp:0<=p/\p<=q) (hq:q<=k9 nw) (hs:s<ze9 nw) (hb:k9 nw<2*p↔k9 nw<2*q):yx0 nw p s<=yx0 nw q s:=by
 have hm:=yj7 nw;have e:(2:Int)^ze9 nw=((2^ze9 nw:Nat):Int):=by simp
 unfold yx0;rw [ys9 (by omega) hs,ys9 (by omega) hs,show decide (k9 nw<2*p)=decide (k9 nw<2*q) from by rw [Bool.eq_iff_iff,decide_eq_true_eq,decide_eq_true_eq];exact hb];have:=Nat.div_le_div_right (c:=2^s) (show p.toNat<=q.toNat by omega);omega
theorem kn9 {nw:Bool} {op p q x:Int} (hop:1<=op/\op<=13) (hp:0<=p/\p<=k9 nw) (hq:0<=q/\q<=k9 nw) (h:ve3 nw op p q=some x):0<=x/\x<=k9 nw:=by
 have hm:=zw2 nw;have hmp:=yj7 nw;have e:(2:Int)^ze9 nw=((2^ze9 nw:Nat):Int):=by simp
 have hN: ∀z:Int,0<=z%(k9 nw+1)/\z%(k9 nw+1)<=k9 nw:=fun z=>by
  have h1:=Int.emod_nonneg z (show k9 nw+1≠0 by omega);have h2:=Int.emod_lt_of_pos z (show 0<k9 nw+1 by omega);omega
 have hh:op=1\/op=2\/op=3\/op=4\/op=5\/op=6\/op=7\/op=8\/op=9\/op=10\/op=11\/op=12\/op=13:=by omega
 have hpn:p.toNat<2^ze9 nw:=by omega
 have hqn:q.toNat<2^ze9 nw:=by omega
 have hdv: ∀y:Int,0<=y->0<=p/y/\p/y<=p:=fun y hy=>⟨Int.ediv_nonneg hp.1 hy,Int.ediv_le_self _ hp.1⟩;rcases hh with rfl|rfl|rfl|rfl|rfl|rfl|rfl|rfl|rfl|rfl|rfl|rfl|rfl
 ·obtain rfl:_=x:=Option.some.inj h;exact hN _
 ·obtain rfl:_=x:=Option.some.inj h;exact hN _
 ·obtain rfl:_=x:=Option.some.inj h;exact hN _
 ·have h:(if q=0 then none else some (p/q))=some x:=h;split at h
  ·cases h
  ·obtain rfl:_=x:=Option.some.inj h;have:=hdv q hq.1;omega
 ·have h:(if q=0 then none else some (p%q))=some x:=h;split at h
  ·cases h
  ·obtain rfl:_=x:=Option.some.inj h;have h1:=Int.emod_nonneg p (show q≠0 by omega);have h2:=Int.emod_lt_of_pos p (show 0<q by omega);omega
 ·obtain rfl:((p.toNat&&&q.toNat:Nat):Int)=x:=Option.some.inj h;have:p.toNat&&&q.toNat<=p.toNat:=Nat.and_le_left;omega
 ·obtain rfl:((p.toNat|||q.toNat:Nat):Int)=x:=Option.some.inj h;have:=Nat.or_lt_two_pow hpn hqn;omega
 ·obtain rfl:((p.toNat^^^q.toNat:Nat):Int)=x:=Option.some.inj h;have:=Nat.xor_lt_two_pow hpn hqn;omega
 ·obtain rfl:_=x:=Option.some.inj h;exact hN _
 ·obtain rfl:p/2^shN nw q=x:=Option.some.inj h;have:=hdv (2^shN nw q) (Int.le_of_lt (zn3 _));omega
 ·obtain rfl:_=x:=Option.some.inj h;exact jm6 hp (je8 nw q)
 ·obtain rfl:q=x:=Option.some.inj h;exact hq
 ·obtain rfl:_=x:=Option.some.inj h;exact hN _
theorem gp9 {M a b c d p q:Int} (hM:M=4294967295\/M=18446744073709551615) (h0:0<=a/\b<=M/\0<=c/\d<=M) (hp:a<=p/\p<=b) (hq:c<=q/\q<=d) (hc:d<=M-b\/c>M-a):
  (a+c)%(M+1)<=(p+q)%(M+1)/\(p+q)%(M+1)<=(b+d)%(M+1):=by rcases hM with rfl|rfl<;>omega
theorem gt1 {M a b c d p q:Int} (hM:M=4294967295\/M=18446744073709551615) (h0:0<=a/\b<=M/\0<=c/\d<=M) (hp:a<=p/\p<=b) (hq:c<=q/\q<=d) (hc:a>=d\/b<c):
  (a-d)%(M+1)<=(p-q)%(M+1)/\(p-q)%(M+1)<=(b-c)%(M+1):=by rcases hM with rfl|rfl<;>omega
theorem gr6 {M a b p:Int} (hM:M=4294967295\/M=18446744073709551615) (h0:0<a/\b<=M) (hp:a<=p/\p<=b):
  (0-b)%(M+1)<=(0-p)%(M+1)/\(0-p)%(M+1)<=(0-a)%(M+1)/\0<=(0-p)%(M+1)/\(0-p)%(M+1)<=M:=by rcases hM with rfl|rfl<;>omega
theorem qi4 {nw:Bool} {op:Int} (hop:1<=op/\op<=13) {u v r:v3} (hu:SpOk nw u) (hv:SpOk nw v) (hr:vj4 nw op u v=some r):
  SpOk nw r/\ ∀p q x,Hs u p->Hs v q->ve3 nw op p q=some x->Hs r x:=by
 have hu1:=hu.lo;have hu2:=hu.le;have hu3:=hu.hi;have hv1:=hv.lo;have hv2:=hv.le;have hv3:=hv.hi;have hm:=zw2 nw;have hmp:=yj7 nw;have e:(2:Int)^ze9 nw=((2^ze9 nw:Nat):Int):=by simp
 have hh:op=1\/op=2\/op=3\/op=4\/op=5\/op=6\/op=7\/op=8\/op=9\/op=10\/op=11\/op=12\/op=13:=by omega
 have hM:=kr2 nw;rcases hh with rfl|rfl|rfl|rfl|rfl|rfl|rfl|rfl|rfl|rfl|rfl|rfl|rfl
 ·have hr:(if v.Hi<=k9 nw-u.Hi\/v.Lo>k9 nw-u.Lo then some (⟨(u.Lo+v.Lo)%(k9 nw+1),(u.Hi+v.Hi)%(k9 nw+1)⟩:v3) else none)=some r:=hr;split at hr
  ·rename_i hc;obtain rfl:=Option.some.inj hr;have key: ∀p q,Hs u p->Hs v q->(u.Lo+v.Lo)%(k9 nw+1)<=(p+q)%(k9 nw+1)/\(p+q)%(k9 nw+1)<=(u.Hi+v.Hi)%(k9 nw+1):=
    fun p q hp hq=>gp9 hM ⟨hu1,hu3,hv1,hv3⟩ hp hq hc
   refine ⟨⟨?_,(Int.le_trans (key u.Lo v.Lo ⟨Int.le_refl _,hu2⟩ ⟨Int.le_refl _,hv2⟩).2 (Int.le_refl _)),?_⟩,fun p q x hp hq hx=>?_⟩
   ·exact Int.emod_nonneg _ (by omega)
   ·have:=Int.emod_lt_of_pos (u.Hi+v.Hi) (show 0<k9 nw+1 by omega);show (u.Hi+v.Hi)%(k9 nw+1)<=k9 nw;omega
   ·obtain rfl:(p+q)%(k9 nw+1)=x:=Option.some.inj hx;exact key p q hp hq
  ·cases hr
 ·have hr:(if u.Lo>=v.Hi\/u.Hi<v.Lo then some (⟨(u.Lo-v.Hi)%(k9 nw+1),(u.Hi-v.Lo)%(k9 nw+1)⟩:v3) else none)=some r:=hr;split at hr
  ·rename_i hc;obtain rfl:=Option.some.inj hr;have key: ∀p q,Hs u p->Hs v q->(u.Lo-v.Hi)%(k9 nw+1)<=(p-q)%(k9 nw+1)/\(p-q)%(k9 nw+1)<=(u.Hi-v.Lo)%(k9 nw+1):=
    fun p q hp hq=>gt1 hM ⟨hu1,hu3,hv1,hv3⟩ hp hq hc
   refine ⟨⟨?_,(Int.le_trans (key u.Lo v.Hi ⟨Int.le_refl _,hu2⟩ ⟨hv2,Int.le_refl _⟩).2 (Int.le_refl _)),?_⟩,fun p q x hp hq hx=>?_⟩
   ·exact Int.emod_nonneg _ (by omega)
   ·have:=Int.emod_lt_of_pos (u.Hi-v.Lo) (show 0<k9 nw+1 by omega);show (u.Hi-v.Lo)%(k9 nw+1)<=k9 nw;omega
   ·obtain rfl:(p-q)%(k9 nw+1)=x:=Option.some.inj hx;exact key p q hp hq
  ·cases hr
 ·have hr:(if u.Hi*v.Hi<=k9 nw then some (⟨u.Lo*v.Lo,u.Hi*v.Hi⟩:v3) else none)=some r:=hr;split at hr
  ·rename_i hc;obtain rfl:=Option.some.inj hr;have key: ∀p q,Hs u p->Hs v q->u.Lo*v.Lo<=p*q/\p*q<=u.Hi*v.Hi:=fun p q hp hq=>
    ⟨Int.mul_le_mul hp.1 hq.1 hv1 (by have:=hp.1;omega),Int.mul_le_mul hp.2 hq.2 (by have:=hq.1;omega) (by omega)⟩
   refine ⟨⟨Int.mul_nonneg hu1 hv1,(key u.Lo v.Lo ⟨Int.le_refl _,hu2⟩ ⟨Int.le_refl _,hv2⟩).2,hc⟩,fun p q x hp hq hx=>?_⟩;obtain rfl:(p*q)%(k9 nw+1)=x:=Option.some.inj hx;have:=key p q hp hq;have h0:0<=u.Lo*v.Lo:=Int.mul_nonneg hu1 hv1;rw [Int.emod_eq_of_lt (by omega) (by omega)];exact this
  ·cases hr
 ·obtain rfl:(⟨u.Lo/max v.Hi 1,u.Hi/max v.Lo 1⟩:v3)=r:=Option.some.inj hr;have h1:0<=u.Lo/max v.Hi 1:=Int.ediv_nonneg hu1 (by omega);have h2:u.Hi/max v.Lo 1<=u.Hi:=Int.ediv_le_self _ (by omega);refine ⟨⟨h1,je5 hu1 hu2 (by omega) (by omega),by show u.Hi/max v.Lo 1<=_;omega⟩,fun p q x hp hq hx=>?_⟩;have hx:(if q=0 then none else some (p/q))=some x:=hx;split at hx
  ·cases hx
  ·obtain rfl:=Option.some.inj hx;have:=hp.1;have:=hp.2;have:=hq.1;have:=hq.2;exact ⟨je5 hu1 (by omega) (by omega) (by omega),je5 (by omega) (by omega) (by omega) (by omega)⟩
 ·obtain rfl:(if u.Hi<max v.Lo 1 then u else (⟨0,min u.Hi (max v.Hi 1-1)⟩:v3))=r:=Option.some.inj hr;have hval: ∀p q x,Hs u p->Hs v q->ve3 nw 5 p q=some x->0<=x/\x<=p/\x<q/\(p<q->x=p):=by
   intro p q x hp hq hx;have hx:(if q=0 then none else some (p%q))=some x:=hx;split at hx
   ·cases hx
   ·obtain rfl:=Option.some.inj hx;have h1:=hp.1;have h2:=hq.1;have h3:=Int.emod_nonneg p (show q≠0 by omega);have h4:=Int.emod_lt_of_pos p (show 0<q by omega);have h5:p%q<=p:=by
     have:=Int.emod_def p q;have h6:0<=q*(p/q):=Int.mul_nonneg (by omega) (Int.ediv_nonneg (by omega) (by omega));omega
    exact ⟨h3,h5,h4,fun h=>Int.emod_eq_of_lt (by omega) h⟩
  split
  ·rename_i hc;refine ⟨hu,fun p q x hp hq hx=>?_⟩;obtain ⟨h1,h2,h3,h4⟩:=hval p q x hp hq hx;have:=hp.2;have:=hq.1;rw [h4 (by omega)];exact hp
  ·refine ⟨⟨Int.le_refl _,by show (0:Int)<=min u.Hi (max v.Hi 1-1);omega,by show min u.Hi (max v.Hi 1-1)<=_;omega⟩,fun p q x hp hq hx=>?_⟩;obtain ⟨h1,h2,h3,h4⟩:=hval p q x hp hq hx;have:=hp.2;have:=hq.2;exact ⟨h1,by show x<=min u.Hi (max v.Hi 1-1);omega⟩
 ·obtain rfl:(if u.Lo=u.Hi/\v.Lo=v.Hi then (⟨((u.Lo.toNat&&&v.Lo.toNat:Nat):Int),((u.Lo.toNat&&&v.Lo.toNat:Nat):Int)⟩:v3) else ⟨0,min u.Hi v.Hi⟩)=r:=Option.some.inj hr;have hle: ∀a b:Nat,a&&&b<=a/\a&&&b<=b:=fun a b=>⟨Nat.and_le_left,Nat.and_le_right⟩;split
  ·rename_i hc;have h3:=hle u.Lo.toNat v.Lo.toNat;refine ⟨⟨by show (0:Int)<=((_:Nat):Int);omega,Int.le_refl _,by show ((u.Lo.toNat&&&v.Lo.toNat:Nat):Int)<=_;omega⟩,fun p q x hp hq hx=>?_⟩;obtain rfl:((p.toNat&&&q.toNat:Nat):Int)=x:=Option.some.inj hx;have h1:p=u.Lo:=by have:=hp.1;have:=hp.2;omega
   have h2:q=v.Lo:=by have:=hq.1;have:=hq.2;omega
   subst h1;subst h2;exact ⟨Int.le_refl _,Int.le_refl _⟩
  ·refine ⟨⟨Int.le_refl _,by show (0:Int)<=min u.Hi v.Hi;omega,by show min u.Hi v.Hi<=_;omega⟩,fun p q x hp hq hx=>?_⟩;obtain rfl:((p.toNat&&&q.toNat:Nat):Int)=x:=Option.some.inj hx;have h3:=hle p.toNat q.toNat;have:=hp.1;have:=hp.2;have:=hq.1;have:=hq.2;exact ⟨by show (0:Int)<=((_:Nat):Int);omega,by show ((p.toNat&&&q.toNat:Nat):Int)<=min u.Hi v.Hi;omega⟩
 ·obtain rfl:(if u.Lo=u.Hi/\v.Lo=v.Hi then (⟨((u.Lo.toNat|||v.Lo.toNat:Nat):Int),((u.Lo.toNat|||v.Lo.toNat:Nat):Int)⟩:v3) else ⟨max u.Lo v.Lo,yp9 u.Hi v.Hi⟩)=r:=Option.some.inj hr;have hf:=jv7 (nw:=nw) ⟨Int.le_trans hu1 hu2,hu3⟩ ⟨Int.le_trans hv1 hv2,hv3⟩;split
  ·rename_i hc;have h3:=Nat.or_lt_two_pow (n:=ze9 nw) (show u.Lo.toNat<_ by omega) (show v.Lo.toNat<_ by omega);refine ⟨⟨by show (0:Int)<=((_:Nat):Int);omega,Int.le_refl _,by show ((u.Lo.toNat|||v.Lo.toNat:Nat):Int)<=_;omega⟩,fun p q x hp hq hx=>?_⟩;obtain rfl:((p.toNat|||q.toNat:Nat):Int)=x:=Option.some.inj hx;have h1:p=u.Lo:=by have:=hp.1;have:=hp.2;omega
   have h2:q=v.Lo:=by have:=hq.1;have:=hq.2;omega
   subst h1;subst h2;exact ⟨Int.le_refl _,Int.le_refl _⟩
  ·refine ⟨⟨by show (0:Int)<=max u.Lo v.Lo;omega,by show max u.Lo v.Lo<=yp9 u.Hi v.Hi;omega,hf.2⟩,fun p q x hp hq hx=>?_⟩;obtain rfl:((p.toNat|||q.toNat:Nat):Int)=x:=Option.some.inj hx;have h3:p.toNat<=p.toNat|||q.toNat:=Nat.left_le_or;have h4:q.toNat<=p.toNat|||q.toNat:=Nat.right_le_or;have:=hp.1;have:=hq.1;exact ⟨by show max u.Lo v.Lo<=((p.toNat|||q.toNat:Nat):Int);omega,qy1 hp.2 hq.2 fun k h1 h2=>Nat.or_lt_two_pow h1 h2⟩
 ·obtain rfl:(if u.Lo=u.Hi/\v.Lo=v.Hi then (⟨((u.Lo.toNat^^^v.Lo.toNat:Nat):Int),((u.Lo.toNat^^^v.Lo.toNat:Nat):Int)⟩:v3) else ⟨0,yp9 u.Hi v.Hi⟩)=r:=Option.some.inj hr;have hf:=jv7 (nw:=nw) ⟨Int.le_trans hu1 hu2,hu3⟩ ⟨Int.le_trans hv1 hv2,hv3⟩;split
  ·rename_i hc;have h3:=Nat.xor_lt_two_pow (n:=ze9 nw) (show u.Lo.toNat<_ by omega) (show v.Lo.toNat<_ by omega);refine ⟨⟨by show (0:Int)<=((_:Nat):Int);omega,Int.le_refl _,by show ((u.Lo.toNat^^^v.Lo.toNat:Nat):Int)<=_;omega⟩,fun p q x hp hq hx=>?_⟩;obtain rfl:((p.toNat^^^q.toNat:Nat):Int)=x:=Option.some.inj hx;have h1:p=u.Lo:=by have:=hp.1;have:=hp.2;omega
   have h2:q=v.Lo:=by have:=hq.1;have:=hq.2;omega
   subst h1;subst h2;exact ⟨Int.le_refl _,Int.le_refl _⟩
  ·refine ⟨⟨Int.le_refl _,by show (0:Int)<=yp9 u.Hi v.Hi;omega,hf.2⟩,fun p q x hp hq hx=>?_⟩;obtain rfl:((p.toNat^^^q.toNat:Nat):Int)=x:=Option.some.inj hx;exact ⟨by show (0:Int)<=((_:Nat):Int);omega,qy1 hp.2 hq.2 fun k h1 h2=>Nat.xor_lt_two_pow h1 h2⟩
 ·have hr:(if v.Lo=v.Hi/\u.Hi*2^shN nw v.Lo<=k9 nw then some (⟨u.Lo*2^shN nw v.Lo,u.Hi*2^shN nw v.Lo⟩:v3) else none)=some r:=hr;split at hr
  ·rename_i hc;obtain rfl:=Option.some.inj hr;have hp2:=zn3 (shN nw v.Lo);refine ⟨⟨Int.mul_nonneg hu1 (by omega),Int.mul_le_mul_of_nonneg_right hu2 (by omega),hc.2⟩,fun p q x hp hq hx=>?_⟩;obtain rfl:(p*2^shN nw q)%(k9 nw+1)=x:=Option.some.inj hx;have h2:q=v.Lo:=by have:=hq.1;have:=hq.2;omega
   subst h2;have h3:=Int.mul_le_mul_of_nonneg_right hp.1 (show (0:Int)<=2^shN nw v.Lo by omega);have h4:=Int.mul_le_mul_of_nonneg_right hp.2 (show (0:Int)<=2^shN nw v.Lo by omega);have h5:0<=u.Lo*2^shN nw v.Lo:=Int.mul_nonneg hu1 (by omega);rw [Int.emod_eq_of_lt (by omega) (by omega)];exact ⟨h3,h4⟩
  ·cases hr
 ·obtain rfl:(if v.Lo=v.Hi then (⟨u.Lo/2^shN nw v.Lo,u.Hi/2^shN nw v.Lo⟩:v3) else if v.Hi>=ze9 nw then ⟨0,u.Hi⟩ else ⟨u.Lo/2^v.Hi.toNat,u.Hi/2^v.Lo.toNat⟩)=r:=Option.some.inj hr;have hdv: ∀(a:Int) (k:Nat),0<=a->0<=a/2^k/\a/2^k<=a:=fun a k ha=>⟨Int.ediv_nonneg ha (Int.le_of_lt (zn3 _)),Int.ediv_le_self _ ha⟩;split
  ·have h1:=hdv u.Lo (shN nw v.Lo) hu1;have h2:=hdv u.Hi (shN nw v.Lo) (by omega);refine ⟨⟨h1.1,Int.ediv_le_ediv (zn3 _) hu2,by show u.Hi/2^shN nw v.Lo<=_;omega⟩,fun p q x hp hq hx=>?_⟩;obtain rfl:p/2^shN nw q=x:=Option.some.inj hx;have h2:q=v.Lo:=by have:=hq.1;have:=hq.2;omega
   subst h2;exact ⟨Int.ediv_le_ediv (zn3 _) hp.1,Int.ediv_le_ediv (zn3 _) hp.2⟩
  ·split
   ·refine ⟨⟨Int.le_refl _,by show (0:Int)<=u.Hi;omega,hu3⟩,fun p q x hp hq hx=>?_⟩;obtain rfl:p/2^shN nw q=x:=Option.some.inj hx;have:=hdv p (shN nw q) (by have:=hp.1;omega);have:=hp.2;exact ⟨by show (0:Int)<=p/2^shN nw q;omega,by show p/2^shN nw q<=u.Hi;omega⟩
   ·have h1:=hdv u.Lo v.Hi.toNat hu1;have h2:=hdv u.Hi v.Lo.toNat (by omega);refine ⟨⟨h1.1,je5 hu1 hu2 (zn3 _) (qa6 (by omega)),by show u.Hi/2^v.Lo.toNat<=_;omega⟩,fun p q x hp hq hx=>?_⟩;obtain rfl:p/2^shN nw q=x:=Option.some.inj hx;have hq1:=hq.1;have hq2:=hq.2;have hs:shN nw q=q.toNat:=by unfold shN;rw [Int.emod_eq_of_lt (by omega) (by omega)]
    rw [hs];exact ⟨je5 hu1 hp.1 (zn3 _) (qa6 (by omega)),je5 (by have:=hp.1;omega) hp.2 (zn3 _) (qa6 (by omega))⟩
 ·have hr:(if v.Lo=v.Hi/\(k9 nw<2*u.Lo↔k9 nw<2*u.Hi) then some (⟨yx0 nw u.Lo (shN nw v.Lo),yx0 nw u.Hi (shN nw v.Lo)⟩:v3) else none)=some r:=hr;split at hr
  ·rename_i hc;obtain rfl:=Option.some.inj hr;have hlt:=je8 nw v.Lo;refine ⟨⟨(jm6 ⟨hu1,by omega⟩ hlt).1,yz0 ⟨hu1,hu2⟩ hu3 hlt hc.2,(jm6 ⟨by omega,hu3⟩ hlt).2⟩,fun p q x hp hq hx=>?_⟩;obtain rfl:yx0 nw p (shN nw q)=x:=Option.some.inj hx;have h2:q=v.Lo:=by have:=hq.1;have:=hq.2;omega
   subst h2;have hp1:=hp.1;have hp2:=hp.2;exact ⟨yz0 ⟨hu1,hp1⟩ (by omega) hlt (by omega),yz0 ⟨by omega,hp2⟩ hu3 hlt (by omega)⟩
  ·cases hr
 ·obtain rfl:v=r:=Option.some.inj hr;refine ⟨hv,fun p q x hp hq hx=>?_⟩;obtain rfl:q=x:=Option.some.inj hx;exact hq
 ·have hr:(if u.Hi=0 then some u else if u.Lo>0 then some (⟨(0-u.Hi)%(k9 nw+1),(0-u.Lo)%(k9 nw+1)⟩:v3) else none)=some r:=hr;have hval: ∀p q x,ve3 nw 13 p q=some x->x=(0-p)%(k9 nw+1):=fun p q x hx=>(Option.some.inj hx).symm;split at hr
  ·rename_i hc;obtain rfl:=Option.some.inj hr;refine ⟨hu,fun p q x hp hq hx=>?_⟩;have h1:p=0:=by have:=hp.1;have:=hp.2;omega
   rw [hval p q x hx,h1,show (0:Int)-0=0 from rfl,Int.zero_emod];exact ⟨by omega,by omega⟩
  ·split at hr
   ·rename_i hc hc2;obtain rfl:=Option.some.inj hr;have key: ∀p,Hs u p->(0-u.Hi)%(k9 nw+1)<=(0-p)%(k9 nw+1)/\(0-p)%(k9 nw+1)<=(0-u.Lo)%(k9 nw+1)/\0<=(0-p)%(k9 nw+1)/\(0-p)%(k9 nw+1)<=k9 nw:=
     fun p hp=>gr6 hM ⟨hc2,hu3⟩ hp
    refine ⟨⟨(key u.Hi ⟨hu2,Int.le_refl _⟩).2.2.1,(key u.Hi ⟨hu2,Int.le_refl _⟩).2.1,(key u.Lo ⟨Int.le_refl _,hu2⟩).2.2.2⟩,fun p q x hp hq hx=>?_⟩;rw [hval p q x hx];exact ⟨(key p hp).1,(key p hp).2.1⟩
   ·cases hr
theorem vm3 {s:v3} {nw:Bool} {p:Int} (h:w9 s.Lo/\w9 s.Hi) (hp:Hs s p):Hs (qh s nw) (qp3 nw p):=by
 cases nw with
 |false=>exact hp
 |true=>
  have h1:=hp.1;have h2:=hp.2;unfold qh;simp only [Bool.not_true,Bool.false_eq_true,if_false,we6,yw6 h.1,yw6 h.2];show Hs _ (p%4294967296);split
  ·exact ⟨by show (0:Int)<=_;omega,by show p%4294967296<=(4294967295:Int);omega⟩
  ·rename_i hq;have hq:s.Lo/4294967296=s.Hi/4294967296:=by simpa using hq
   exact ⟨by show s.Lo%4294967296<=_;omega,by show _<=s.Hi%4294967296;omega⟩
theorem kk9 {op:Int} (hop:1<=op/\op<=13) {nw:Bool} {a b:v3} (ha:w9 a.Lo/\w9 a.Hi) (hb:w9 b.Lo/\w9 b.Hi) (hla:a.Lo<=a.Hi) (hlb:b.Lo<=b.Hi):
  SpOk nw (span_Do op nw a b)/\ ∀p q,w9 p->w9 q->Hs a p->Hs b q->(zu8 op nw p q).2=0->Hs (span_Do op nw a b) (zu8 op nw p q).1:=by
 have hu:=zu6 (nw:=nw) ha hla;have hv:=zu6 (nw:=nw) hb hlb;rw [zv7,if_pos ⟨hop,hla,hlb⟩,vw8 hop hu hv];have hal: ∀p q,w9 p->w9 q->(zu8 op nw p q).2=0->ve3 nw op (qp3 nw p) (qp3 nw q)=some (zu8 op nw p q).1:=by
  intro p q hp hq h;rw [jx5 hop hp hq] at h⊢;cases hx:ve3 nw op (qp3 nw p) (qp3 nw q) with
  |none=>rw [hx] at h;exact absurd h (by decide)
  |some x=>rfl
 cases hr:vj4 nw op (qh a nw) (qh b nw) with
 |none=>
  refine ⟨⟨Int.le_refl _,(zw2 nw).1,Int.le_refl _⟩,fun p q hp hq _ _ h=>?_⟩;exact kn9 hop (vq9 hp) (vq9 hq) (hal p q hp hq h)
 |some r=>
  obtain ⟨h1,h2⟩:=qi4 hop hu hv hr;exact ⟨h1,fun p q hp hq hap hbq h=>h2 _ _ _ (vm3 ha hap) (vm3 hb hbq) (hal p q hp hq h)⟩
end Go.Y
namespace Go.Y
open Go.RowKit Go.V Go.X
theorem zr1 {R:Type} (c:Bool) (x y:Option R):q7 c x y=if c=true then x else y:=rfl
theorem j8 {R:Type} (x y:Option R):q7 true x y=x:=rfl
theorem j6 {R:Type} (x y:Option R):q7 false x y=y:=rfl
theorem j4 {α β:Type} (a:α) (f:α->Option β):j7 (some a) f=f a:=rfl
theorem zb7 {R:Type} (c:Bool) (x y:R):q7 c (some x) (some y)=some (if c=true then x else y):=by cases c<;>rfl
theorem zu7 (c x:Bool):q7 c (some x) (some false)=some (c&&x):=by cases c<;>rfl
theorem zj0 {x:Int} (h: -9223372036854775808<=x/\x<=9223372036854775807):IntKind.i64.wrap x=x:=by
 unfold IntKind.wrap;simp [IntKind.bits,IntKind.signed];omega
theorem zo4 {x:Int} (h:0<=x/\x<=18446744073709551615):IntKind.u64.wrap x=x:=by
 unfold IntKind.wrap;simp [IntKind.bits,IntKind.signed];omega
theorem loop {α:Type} (f:Nat->Nat->Option α) (c len:Nat) (r:Option α) (hstep: ∀n k,k<len->f (n+c) k=f n (k+1)) (hend: ∀n,f (n+1) len=r): ∀m k n,k+m=len->c*m+1<=n->f n k=r
 |0,k,n,hk,hn=>by
  obtain ⟨n',rfl⟩: ∃n',n=n'+1:=⟨n-1,by omega⟩;have:k=len:=by omega
  subst this;exact hend n'
 |m+1,k,n,hk,hn=>by
  obtain ⟨n',rfl⟩: ∃n',n=n'+c:=⟨n-c,by rw [Nat.mul_succ] at hn;omega⟩;rw [hstep n' k (by omega)];exact loop f c len r hstep hend m (k+1) n' (by omega) (by rw [Nat.mul_succ] at hn;omega)
theorem vd4 {α:Type} (f:Nat->Nat->Option α) (c len:Nat) (r:Option α) (hstep: ∀n k,k<len->f (n+c) k=f n (k+1)) (hend: ∀n,f (n+1) len=r) (n:Nat) (hn:c*len+1<=n):f n 0=r:=loop f c len r hstep hend len 0 n (by omega) hn
theorem wf0 {α:Type} (f:Nat->Nat->Option α) (c len:Nat) (r:Nat->Option α) (hstep: ∀n k,k<len->f (n+c) k=r k\/(f (n+c) k=f n (k+1)/\r k=r (k+1))) (hend: ∀n,f (n+1) len=r len): ∀m k n,k+m=len->c*m+1<=n->f n k=r k
 |0,k,n,hk,hn=>by
  obtain ⟨n',rfl⟩: ∃n',n=n'+1:=⟨n-1,by omega⟩;have:k=len:=by omega
  subst this;exact hend n'
 |m+1,k,n,hk,hn=>by
  obtain ⟨n',rfl⟩: ∃n',n=n'+c:=⟨n-c,by rw [Nat.mul_succ] at hn;omega⟩;rcases hstep n' k (by omega) with h|⟨h1,h2⟩
  ·exact h
  ·rw [h1,h2];exact wf0 f c len r hstep hend m (k+1) n' (by omega) (by rw [Nat.mul_succ] at hn;omega)
theorem nx {k len:Nat} (h:k<len) (hl:len<=1000000000):IntKind.i64.wrap ((k:Int)+1)=((k+1:Nat):Int):=by rw [zj0 (by omega)];omega
end Go.Y
