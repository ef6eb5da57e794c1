import Derived.Test.YthhhfnfgmijggaaGreatTb
import Derived.Test.YthhhfnfgmijggaaGreatXO
namespace Go.Y
open Go.RowKit Go.V Go.X Go.Proofs
abbrev q9:=Go.X.Span
instance:Inhabited q9:=⟨⟨0,0⟩⟩
structure Twork where
 a:q9
 b:q9
 narrow:Bool
 most:Int
 size:Int
def zo6 (a0:Int):q9:=(⟨a0,a0⟩:q9)
def zi2 (a0:Bool):q9:=(if a0 then (⟨(0:Int),(4294967295:Int)⟩:q9) else (⟨(0:Int),(18446744073709551615:Int)⟩:q9))
def w5 (a0:q9):Bool:=decide (a0.Lo<=a0.Hi)
def jm4 (a0:q9) (a1:Int):Bool:=((decide (a0.Lo<=a1))&&(decide (a1<=a0.Hi)))
def jc6 (a0:q9) (a1:q9):Bool:=((decide (a1.Lo<=a0.Lo))&&(decide (a0.Hi<=a1.Hi)))
def zv4 (a0:q9) (a1:q9):q9:=(⟨(yj2 a0.Lo a1.Lo),(zk5 a0.Hi a1.Hi)⟩:q9)
def zf1 (a0:Bool):Option Unit:=(if (!a0) then none else some ())
def qf (a0:q9) (a1:Bool):q9:=(if (!a1) then a0 else (if ((zc0 .u64 a0.Lo (32:Int)) != (zc0 .u64 a0.Hi (32:Int))) then (zc9 (zi2 true) fun x39=>x39) else (⟨(zb1 .u64 a0.Lo (4294967295:Int)),(zb1 .u64 a0.Hi (4294967295:Int))⟩:q9)))
def qm (a0:q9):Bool:=(zc9 (zo6 a0.Lo) fun x13=>((a0.Lo==x13.Lo)&&(a0.Hi==x13.Hi)))
def qag (a0:Bool) (a1:q9) (a2:q9):Twork:=(if a0 then (⟨(qf a1 a0),(qf a2 a0),a0,(4294967295:Int),(32:Int)⟩:Twork) else (⟨(qf a1 a0),(qf a2 a0),a0,(18446744073709551615:Int),(64:Int)⟩:Twork))
def qx (a0:Twork):Bool:=(zc9 (qm a0.a) fun x13=>(x13&&(qm a0.b)))
def qat (a0:Twork) (a1:Int) (a2:Int):q9:=(⟨(zb1 .u64 a1 a0.most),(zb1 .u64 a2 a0.most)⟩:q9)
def qz (a0:Twork) (a1:Int):Bool:=((zb1 .u64 (zc0 .u64 a1 (IntKind.u64.wrap (a0.size-(1:Int)))) (1:Int))==(1:Int))
def qao (a0:Twork) (a1:q9):Bool:=(zc9 (qz a0 a1.Lo) fun x24=>(zc9 (qz a0 a1.Hi) fun x27=>(x24 != x27)))
def kk1 (c0:Int) (c1:Int):Int:=(IntKind.u32.wrap (c0+c1))
def kl7 (c0:Int) (c1:Int):Int:=(IntKind.u32.wrap (c0-c1))
def kq5 (c0:Int) (c1:Int):Int:=(IntKind.u32.wrap (c0*c1))
def ks8 (c0:Int) (c1:Int):Int:=(IntKind.u32.wrap ((c0).tdiv c1))
def kt7 (c0:Int) (c1:Int):Int:=((c0).tmod c1)
def kv9 (c0:Int) (c1:Int):Int:=(zb1 .u32 c0 c1)
def ks3 (c0:Int) (c1:Int):Int:=(bOr .u32 c0 c1)
def ko4 (c0:Int) (c1:Int):Int:=(jc2 .u32 c0 c1)
def kr5 (c0:Int) (c1:Int) (c2:Int):Int:=(ya4 .u32 c0 ((c1).tmod c2))
def vw0 (c0:Int) (c1:Int) (c2:Int):Int:=(zc0 .u32 c0 ((c1).tmod c2))
def yl7 (c0:Int) (c1:Int) (c2:Int):Int:=(IntKind.u32.wrap (zc0 .i32 (IntKind.i32.wrap c0) ((c1).tmod c2)))
def ka5 (c0:Int):Int:=c0
def vz8 (c0:Int):Int:=(IntKind.u32.wrap (0-c0))
def je5 (a0:Int) (a1:Int) (a2:Int) (a3:Int):(Int×Int):=(if (((a0==(4:Int))||(a0==(5:Int)))&&(a3==(0:Int))) then ((0:Int),(113:Int)) else (if (a0==(1:Int)) then (zc9 (kk1 a2 a3) fun x129=>(x129,(0:Int))) else (if (a0==(2:Int)) then (zc9 (kl7 a2 a3) fun x145=>(x145,(0:Int))) else (if (a0==(3:Int)) then (zc9 (kq5 a2 a3) fun x161=>(x161,(0:Int))) else (if (a0==(4:Int)) then (zc9 (ks8 a2 a3) fun x177=>(x177,(0:Int))) else (if (a0==(5:Int)) then (zc9 (kt7 a2 a3) fun x193=>(x193,(0:Int))) else (if (a0==(6:Int)) then (zc9 (kv9 a2 a3) fun x209=>(x209,(0:Int))) else (if (a0==(7:Int)) then (zc9 (ks3 a2 a3) fun x225=>(x225,(0:Int))) else (if (a0==(8:Int)) then (zc9 (ko4 a2 a3) fun x241=>(x241,(0:Int))) else (if (a0==(9:Int)) then (zc9 (kr5 a2 a3 a1) fun x258=>(x258,(0:Int))) else (if (a0==(10:Int)) then (zc9 (vw0 a2 a3 a1) fun x275=>(x275,(0:Int))) else (if (a0==(11:Int)) then (zc9 (yl7 a2 a3 a1) fun x292=>(x292,(0:Int))) else (if (a0==(12:Int)) then (zc9 (ka5 a3) fun x307=>(x307,(0:Int))) else (if (a0==(13:Int)) then (zc9 (vz8 a2) fun x322=>(x322,(0:Int))) else ((0:Int),(2:Int))))))))))))))))
def kn5 (c0:Int) (c1:Int):Int:=(IntKind.u64.wrap (c0+c1))
def kn4 (c0:Int) (c1:Int):Int:=(IntKind.u64.wrap (c0-c1))
def kw5 (c0:Int) (c1:Int):Int:=(IntKind.u64.wrap (c0*c1))
def kv2 (c0:Int) (c1:Int):Int:=(IntKind.u64.wrap ((c0).tdiv c1))
def kk4 (c0:Int) (c1:Int):Int:=((c0).tmod c1)
def ks9 (c0:Int) (c1:Int):Int:=(zb1 .u64 c0 c1)
def kp9 (c0:Int) (c1:Int):Int:=(bOr .u64 c0 c1)
def kq8 (c0:Int) (c1:Int):Int:=(jc2 .u64 c0 c1)
def ko5 (c0:Int) (c1:Int) (c2:Int):Int:=(ya4 .u64 c0 ((c1).tmod c2))
def ka7 (c0:Int) (c1:Int) (c2:Int):Int:=(zc0 .u64 c0 ((c1).tmod c2))
def vx7 (c0:Int) (c1:Int) (c2:Int):Int:=(IntKind.u64.wrap (zc0 .i64 (IntKind.i64.wrap c0) ((c1).tmod c2)))
def vz2 (c0:Int):Int:=c0
def vx2 (c0:Int):Int:=(IntKind.u64.wrap (0-c0))
def jq7 (a0:Int) (a1:Int) (a2:Int) (a3:Int):(Int×Int):=(if (((a0==(4:Int))||(a0==(5:Int)))&&(a3==(0:Int))) then ((0:Int),(113:Int)) else (if (a0==(1:Int)) then (zc9 (kn5 a2 a3) fun x129=>(x129,(0:Int))) else (if (a0==(2:Int)) then (zc9 (kn4 a2 a3) fun x145=>(x145,(0:Int))) else (if (a0==(3:Int)) then (zc9 (kw5 a2 a3) fun x161=>(x161,(0:Int))) else (if (a0==(4:Int)) then (zc9 (kv2 a2 a3) fun x177=>(x177,(0:Int))) else (if (a0==(5:Int)) then (zc9 (kk4 a2 a3) fun x193=>(x193,(0:Int))) else (if (a0==(6:Int)) then (zc9 (ks9 a2 a3) fun x209=>(x209,(0:Int))) else (if (a0==(7:Int)) then (zc9 (kp9 a2 a3) fun x225=>(x225,(0:Int))) else (if (a0==(8:Int)) then (zc9 (kq8 a2 a3) fun x241=>(x241,(0:Int))) else (if (a0==(9:Int)) then (zc9 (ko5 a2 a3 a1) fun x258=>(x258,(0:Int))) else (if (a0==(10:Int)) then (zc9 (ka7 a2 a3 a1) fun x275=>(x275,(0:Int))) else (if (a0==(11:Int)) then (zc9 (vx7 a2 a3 a1) fun x292=>(x292,(0:Int))) else (if (a0==(12:Int)) then (zc9 (vz2 a3) fun x307=>(x307,(0:Int))) else (if (a0==(13:Int)) then (zc9 (vx2 a2) fun x322=>(x322,(0:Int))) else ((0:Int),(2:Int))))))))))))))))
def zv2 (a0:Int) (a1:Bool) (a2:Int) (a3:Int):(Int×Int):=(if a1 then (zc9 (je5 a0 (32:Int) (IntKind.u32.wrap a2) (IntKind.u32.wrap a3)) fun x7=>((x7.1),x7.2)) else (zc9 (jq7 a0 (64:Int) a2 a3) fun x19=>(x19.1,x19.2)))
def zp4 (a0:Twork):Option q9:=(yg6 (zf1 ((decide (a0.b.Hi<=(IntKind.u64.wrap (a0.most-a0.a.Hi))))||(decide (a0.b.Lo>(IntKind.u64.wrap (a0.most-a0.a.Lo)))))) (none) fun _=>(zc9 (qat a0 (IntKind.u64.wrap (a0.a.Lo+a0.b.Lo)) (IntKind.u64.wrap (a0.a.Hi+a0.b.Hi))) fun x46=>some x46))
def zq1 (a0:Twork):Option q9:=(yg6 (zf1 ((decide (a0.a.Lo>=a0.b.Hi))||(decide (a0.a.Hi<a0.b.Lo)))) (none) fun _=>(zc9 (qat a0 (IntKind.u64.wrap (a0.a.Lo-a0.b.Hi)) (IntKind.u64.wrap (a0.a.Hi-a0.b.Lo))) fun x46=>some x46))
def qbr (a0:Twork):q9:=(⟨(IntKind.u64.wrap ((a0.a.Lo).tdiv (zk5 a0.b.Hi (1:Int)))),(IntKind.u64.wrap ((a0.a.Hi).tdiv (zk5 a0.b.Lo (1:Int))))⟩:q9)
def qbs (a0:Twork):q9:=(if decide (a0.a.Hi<(zk5 a0.b.Lo (1:Int))) then a0.a else (⟨(0:Int),(yj2 a0.a.Hi (IntKind.u64.wrap ((zk5 a0.b.Hi (1:Int))-(1:Int))))⟩:q9))
def qbl (a0:Twork):q9:=(zc9 (qx a0) fun x25=>(if x25 then (zc9 (zo6 (zb1 .u64 a0.a.Lo a0.b.Lo)) fun x36=>x36) else (⟨(0:Int),(yj2 a0.a.Hi a0.b.Hi)⟩:q9)))
def qbt (a0:Twork):q9:=a0.b
def zj6 (a0:Twork):Option q9:=(if (a0.a.Hi==(0:Int)) then some a0.a else (yg6 (zf1 (decide (a0.a.Lo>(0:Int)))) (none) fun _=>(zc9 (qat a0 (IntKind.u64.wrap (0-a0.a.Hi)) (IntKind.u64.wrap (0-a0.a.Lo))) fun x49=>some x49)))
def zp6 (a0:Twork):Option q9:=(zc9 (qm a0.b) fun x26=>(yg6 (zf1 (x26&&(decide (a0.a.Hi<=(zc0 .u64 a0.most ((a0.b.Lo).tmod a0.size)))))) (none) fun _=>some (⟨(ya4 .u64 a0.a.Lo ((a0.b.Lo).tmod a0.size)),(ya4 .u64 a0.a.Hi ((a0.b.Lo).tmod a0.size))⟩:q9)))
def je3 (a0:Twork) (v100:Int) (v101:Int):q9:=(⟨(zc0 .u64 a0.a.Lo v100),(zc0 .u64 a0.a.Hi v101)⟩:q9)
def qaf (a0:Twork):q9:=(zc9 (qm a0.b) fun x36=>(if x36 then (je3 a0 ((a0.b.Hi).tmod a0.size) ((a0.b.Lo).tmod a0.size)) else (if decide (a0.b.Hi>=a0.size) then (⟨(0:Int),a0.a.Hi⟩:q9) else (je3 a0 a0.b.Hi a0.b.Lo))))
def zp1 (a0:Twork):Option q9:=(zc9 (qm a0.b) fun x24=>(yg6 (zf1 (x24&&(!(qao a0 a0.a)))) (none) fun _=>(zc9 (zv2 (11:Int) a0.narrow a0.a.Lo a0.b.Lo) fun x58=>(zc9 (zv2 (11:Int) a0.narrow a0.a.Hi a0.b.Lo) fun x68=>some (⟨x58.1,x68.1⟩:q9)))))
def tab0:List Int:= [0,1,2,2,3,3,3,3,4,4,4,4,4,4,4,4,5,5,5,5,5,5,5,5,5,5,5,5,5,5,5,5,6,6,6,6,6,6,6,6,6,6,6,6,6,6,6,6,6,6,6,6,6,6,6,6,6,6,6,6,6,6,6,6,7,7,7,7,7,7,7,7,7,7,7,7,7,7,7,7,7,7,7,7,7,7,7,7,7,7,7,7,7,7,7,7,7,7,7,7,7,7,7,7,7,7,7,7,7,7,7,7,7,7,7,7,7,7,7,7,7,7,7,7,7,7,7,7,8,8,8,8,8,8,8,8,8,8,8,8,8,8,8,8,8,8,8,8,8,8,8,8,8,8,8,8,8,8,8,8,8,8,8,8,8,8,8,8,8,8,8,8,8,8,8,8,8,8,8,8,8,8,8,8,8,8,8,8,8,8,8,8,8,8,8,8,8,8,8,8,8,8,8,8,8,8,8,8,8,8,8,8,8,8,8,8,8,8,8,8,8,8,8,8,8,8,8,8,8,8,8,8,8,8,8,8,8,8,8,8,8,8,8,8,8,8,8,8,8,8,8,8,8,8,8,8]
def jh2 (a0:Int):Int:=(if decide (a0>=(4294967296:Int)) then (if decide ((zc0 .u64 a0 (32:Int))>=(65536:Int)) then (if decide ((zc0 .u64 (zc0 .u64 a0 (32:Int)) (16:Int))>=(256:Int)) then ((56:Int)+((tab0.getD (IntKind.u8.wrap (zc0 .u64 (zc0 .u64 (zc0 .u64 a0 (32:Int)) (16:Int)) (8:Int))).toNat 0))) else ((48:Int)+((tab0.getD (IntKind.u8.wrap (zc0 .u64 (zc0 .u64 a0 (32:Int)) (16:Int))).toNat 0)))) else (if decide ((zc0 .u64 a0 (32:Int))>=(256:Int)) then ((40:Int)+((tab0.getD (IntKind.u8.wrap (zc0 .u64 (zc0 .u64 a0 (32:Int)) (8:Int))).toNat 0))) else ((32:Int)+((tab0.getD (IntKind.u8.wrap (zc0 .u64 a0 (32:Int))).toNat 0))))) else (if decide (a0>=(65536:Int)) then (if decide ((zc0 .u64 a0 (16:Int))>=(256:Int)) then ((24:Int)+((tab0.getD (IntKind.u8.wrap (zc0 .u64 (zc0 .u64 a0 (16:Int)) (8:Int))).toNat 0))) else ((16:Int)+((tab0.getD (IntKind.u8.wrap (zc0 .u64 a0 (16:Int))).toNat 0)))) else (if decide (a0>=(256:Int)) then ((8:Int)+((tab0.getD (IntKind.u8.wrap (zc0 .u64 a0 (8:Int))).toNat 0))) else ((0:Int)+((tab0.getD (IntKind.u8.wrap a0).toNat 0))))))
def yb4 (a0:Int) (a1:Int):(Int×Int):=((IntKind.u64.wrap ((IntKind.u64.wrap ((IntKind.u64.wrap ((zc0 .u64 a0 (32:Int))*(zc0 .u64 a1 (32:Int))))+(zc0 .u64 (IntKind.u64.wrap ((IntKind.u64.wrap ((zc0 .u64 a0 (32:Int))*(zb1 .u64 a1 (4294967295:Int))))+(zc0 .u64 (IntKind.u64.wrap ((zb1 .u64 a0 (4294967295:Int))*(zb1 .u64 a1 (4294967295:Int)))) (32:Int)))) (32:Int))))+(zc0 .u64 (IntKind.u64.wrap ((zb1 .u64 (IntKind.u64.wrap ((IntKind.u64.wrap ((zc0 .u64 a0 (32:Int))*(zb1 .u64 a1 (4294967295:Int))))+(zc0 .u64 (IntKind.u64.wrap ((zb1 .u64 a0 (4294967295:Int))*(zb1 .u64 a1 (4294967295:Int)))) (32:Int)))) (4294967295:Int))+(IntKind.u64.wrap ((zb1 .u64 a0 (4294967295:Int))*(zc0 .u64 a1 (32:Int)))))) (32:Int)))),(IntKind.u64.wrap (a0*a1)))
def qbk (a0:Int):Int:=(zc9 (jh2 a0) fun x3=>(IntKind.u64.wrap ((ya4 .u64 (1:Int) x3)-(1:Int))))
def qbm (a0:Twork):q9:=(zc9 (qx a0) fun x25=>(if x25 then (zc9 (zo6 (bOr .u64 a0.a.Lo a0.b.Lo)) fun x36=>x36) else (⟨(zk5 a0.a.Lo a0.b.Lo),(qbk (bOr .u64 a0.a.Hi a0.b.Hi))⟩:q9)))
def qbn (a0:Twork):q9:=(zc9 (qx a0) fun x25=>(if x25 then (zc9 (zo6 (jc2 .u64 a0.a.Lo a0.b.Lo)) fun x36=>x36) else (zc9 (qbk (bOr .u64 a0.a.Hi a0.b.Hi)) fun x53=>(⟨(0:Int),x53⟩:q9))))
def zp3 (a0:Twork):Option q9:=(zc9 (yb4 a0.a.Hi a0.b.Hi) fun x24=>(yg6 (zf1 ((x24.1==(0:Int))&&(decide (x24.2<=a0.most)))) (none) fun _=>some (⟨(IntKind.u64.wrap (a0.a.Lo*a0.b.Lo)),x24.2⟩:q9)))
def jn1 (x:Int):Bool:=(x==(1:Int))||(x==(2:Int))||(x==(3:Int))||(x==(4:Int))||(x==(5:Int))||(x==(6:Int))||(x==(7:Int))||(x==(8:Int))||(x==(9:Int))||(x==(10:Int))||(x==(11:Int))||(x==(12:Int))||(x==(13:Int))
def span_Do (a0:Int) (a1:Bool) (a2:q9) (a3:q9):q9:=(if (((!(jn1 a0))||(!(w5 a2)))||(!(w5 a3))) then (zc9 (zi2 a1) fun x84=>x84) else (zc9 (qag a1 a2 a3) fun x104=>(if (a0==(1:Int)) then (yg6 (zp4 x104) ((zi2 a1)) fun x115=>x115) else (if (a0==(2:Int)) then (yg6 (zq1 x104) ((zi2 a1)) fun x140=>x140) else (if (a0==(3:Int)) then (yg6 (zp3 x104) ((zi2 a1)) fun x165=>x165) else (if (a0==(4:Int)) then (zc9 (qbr x104) fun x190=>x190) else (if (a0==(5:Int)) then (zc9 (qbs x104) fun x208=>x208) else (if (a0==(6:Int)) then (zc9 (qbl x104) fun x226=>x226) else (if (a0==(7:Int)) then (zc9 (qbm x104) fun x244=>x244) else (if (a0==(8:Int)) then (zc9 (qbn x104) fun x262=>x262) else (if (a0==(9:Int)) then (yg6 (zp6 x104) ((zi2 a1)) fun x280=>x280) else (if (a0==(10:Int)) then (zc9 (qaf x104) fun x305=>x305) else (if (a0==(11:Int)) then (yg6 (zp1 x104) ((zi2 a1)) fun x323=>x323) else (if (a0==(12:Int)) then (zc9 (qbt x104) fun x348=>x348) else (if (a0==(13:Int)) then (yg6 (zj6 x104) ((zi2 a1)) fun x366=>x366) else default)))))))))))))))
def vd5 (n:Int):Int:=if n=0 then 0 else ((2^(Nat.log2 n.toNat+1):Nat):Int)-1
end Go.Y
namespace Go.Y
open Go.RowKit Go.V Go.X Go.Proofs
theorem gb9 {x:Int} (h:u9 x):(BitVec.ofInt IntKind.u64.bits x).toNat=x.toNat:=by
 rw [BitVec.toNat_ofInt];simp only [IntKind.bits];omega
theorem yd4 {x y:Int} (hx:u9 x) (hy:u9 y):zb1 .u64 x y=((x.toNat&&&y.toNat:Nat):Int):=by
 unfold zb1;rw [BitVec.toNat_and,gb9 hx,gb9 hy,za4];have:x.toNat&&&y.toNat<=x.toNat:=Nat.and_le_left;omega
theorem wf0 {x:Int} (h:u9 x):x.toNat<2^64:=by omega
theorem gi9 {x y:Int} (hx:u9 x) (hy:u9 y):bOr .u64 x y=((x.toNat|||y.toNat:Nat):Int):=by
 unfold bOr;rw [BitVec.toNat_or,gb9 hx,gb9 hy,za4];have:=Nat.or_lt_two_pow (wf0 hx) (wf0 hy);omega
theorem gc3 {x y:Int} (hx:u9 x) (hy:u9 y):jc2 .u64 x y=((x.toNat^^^y.toNat:Nat):Int):=by
 unfold jc2;rw [BitVec.toNat_xor,gb9 hx,gb9 hy,za4];have:=Nat.xor_lt_two_pow (wf0 hx) (wf0 hy);omega
theorem zn1 {x y:Int} (hy:0<=y/\y<=64):zc0 .u64 x y=x/2^y.toNat:=by
 unfold zc0;rw [Int.fdiv_eq_ediv_of_nonneg _ (by exact Int.le_of_lt (Int.pow_pos (by omega)))];congr 2;simp only [IntKind.bits];omega
theorem vm0 {x y:Int} (hy:0<=y/\y<=64):ya4 .u64 x y=(x*2^y.toNat)%18446744073709551616:=by
 unfold ya4;rw [za4];congr 3;simp only [IntKind.bits];omega
theorem uu1 (a b:Int) (ha:u9 a) (hb:u9 b):(yb4 a b).1=(a*b)/18446744073709551616:=by
 unfold yb4;simp only;rw [zn1 (by omega),zn1 (by omega),yd4 ha (by omega),yd4 hb (by omega)];have e: ∀x:Int,u9 x->((x.toNat&&&(4294967295:Int).toNat:Nat):Int)=x%4294967296:=by
  intro x hx;rw [show (4294967295:Int).toNat=2^32-1 from rfl,Nat.and_two_pow_sub_one_eq_mod];omega
 rw [e a ha,e b hb];have f: ∀x:Int,u9 x->zc0 .u64 x 32=x/4294967296:=fun x hx=>by rw [zn1 (by omega)];rfl
 rw [show (2:Int)^(32:Int).toNat=4294967296 from rfl];generalize hA:a/4294967296=a1;generalize hA0:a%4294967296=a0;generalize hB:b/4294967296=b1;generalize hB0:b%4294967296=b0;have h1:0<=a1/\a1<=4294967295:=by omega
 have h2:0<=a0/\a0<=4294967295:=by omega
 have h3:0<=b1/\b1<=4294967295:=by omega
 have h4:0<=b0/\b0<=4294967295:=by omega
 have bd: ∀x y:Int,(0<=x/\x<=4294967295)->(0<=y/\y<=4294967295)->0<=x*y/\x*y<=18446744065119617025:=fun x y hx hy=>⟨Int.mul_nonneg hx.1 hy.1,Int.mul_le_mul hx.2 hy.2 hy.1 (by omega)⟩;have p11:=bd a1 b1 h1 h3;have p10:=bd a1 b0 h1 h4;have p01:=bd a0 b1 h2 h3;have p00:=bd a0 b0 h2 h4;have hab:a*b=(a1*b1)*18446744073709551616+(a1*b0+a0*b1)*4294967296+a0*b0:=by
  rw [show a=a1*4294967296+a0 by omega,show b=b1*4294967296+b0 by omega];simp only [Int.add_mul,Int.mul_add];have c1:a1*4294967296*(b1*4294967296)=a1*b1*18446744073709551616:=by rw [Int.mul_assoc,Int.mul_comm 4294967296,Int.mul_assoc,Int.mul_assoc];rfl
  have c2:a1*4294967296*b0=a1*b0*4294967296:=by rw [Int.mul_assoc,Int.mul_comm 4294967296,Int.mul_assoc]
  have c3:a0*(b1*4294967296)=a0*b1*4294967296:=by rw [Int.mul_assoc]
  omega
 rw [hab];generalize a1*b1=q11 at *;generalize a1*b0=q10 at *;generalize a0*b1=q01 at *;generalize a0*b0=q00 at *;rw [za4 q11,za4 q10,za4 q01,za4 q00];rw [f (q00%18446744073709551616) (by omega)];rw [za4 (q10%18446744073709551616+_)];rw [f _ (by omega),yd4 (by omega) (by omega),e _ (by omega)];rw [za4 ((q10%18446744073709551616+q00%18446744073709551616/4294967296)%18446744073709551616%4294967296+_),f _ (by omega)];rw [za4,za4];omega
theorem wf1 (a b:Int):(yb4 a b).2=(a*b)%18446744073709551616:=by unfold yb4;exact za4 _
theorem ku6: ∀i:Fin 256,tab0.getD i.val 0=if i.val=0 then 0 else ((Nat.log2 i.val+1:Nat):Int):=by decide+kernel
theorem wb5 {n:Nat} (h:n<256) (h0:n≠0):tab0.getD n 0=((Nat.log2 n+1:Nat):Int):=by
 have:=ku6 ⟨n,h⟩;simp only [h0,if_false] at this;exact this
theorem ve5 {n k:Nat} (h:n/2^k≠0):Nat.log2 n=Nat.log2 (n/2^k)+k:=by
 induction k generalizing n with
 |zero=>simp
 |succ k ih=>
  have e:n/2^(k+1)=(n/2)/2^k:=by rw [Nat.pow_succ,Nat.mul_comm,Nat.div_div_eq_div_mul]
  rw [e] at h⊢;have h2:2<=n:=by
   apply Classical.byContradiction;intro hn;have:n/2=0:=by omega
   rw [this] at h;simp at h
  rw [Nat.log2_def,if_pos h2,ih h];rfl
theorem ko0 {n:Int} (h:u9 n):jh2 n=if n=0 then 0 else ((Nat.log2 n.toNat+1:Nat):Int):=by
 obtain ⟨m,rfl⟩:=Int.eq_ofNat_of_zero_le h.1;by_cases h0:m=0
 ·subst h0;decide+kernel
 rw [if_neg (by omega)];have f8: ∀m:Nat,zc0 .u64 (m:Int) 8=((m/2^8:Nat):Int):=fun m=>by rw [zn1 (by omega)];simp
 have f16: ∀m:Nat,zc0 .u64 (m:Int) 16=((m/2^16:Nat):Int):=fun m=>by rw [zn1 (by omega)];simp
 have f32: ∀m:Nat,zc0 .u64 (m:Int) 32=((m/2^32:Nat):Int):=fun m=>by rw [zn1 (by omega)];simp
 have w8: ∀m:Nat,m<256->(IntKind.u8.wrap (m:Int)).toNat=m:=fun m hm=>by rw [ym3];omega
 have key: ∀(k:Nat),m/2^k<256->m/2^k≠0->((k:Int)+tab0.getD (m/2^k) 0)=((Nat.log2 m+1:Nat):Int):=fun k h1 h2=>by
  rw [wb5 h1 h2,ve5 h2];omega
 have d: ∀a b:Nat,m/2^a/2^b=m/2^(a+b):=fun a b=>by rw [Nat.div_div_eq_div_mul,Nat.pow_add]
 unfold jh2;simp only [f8,f16,f32,d,decide_eq_true_eq,Z1];have p8:m/2^8=m/256:=rfl;have p16:m/2^16=m/65536:=rfl;have p24:m/2^(16+8)=m/16777216:=rfl;have p32:m/2^32=m/4294967296:=rfl;have p40:m/2^(32+8)=m/1099511627776:=rfl;have p48:m/2^(32+16)=m/281474976710656:=rfl;have p56:m/2^(32+16+8)=m/72057594037927936:=rfl
 repeat' split
 ·rw [w8 _ (by omega)];exact key 56 (by omega) (by omega)
 ·rw [w8 _ (by omega)];exact key 48 (by omega) (by omega)
 ·rw [w8 _ (by omega)];exact key 40 (by omega) (by omega)
 ·rw [w8 _ (by omega)];exact key 32 (by omega) (by omega)
 ·rw [w8 _ (by omega)];exact key 24 (by omega) (by omega)
 ·rw [w8 _ (by omega)];exact key 16 (by omega) (by omega)
 ·rw [w8 _ (by omega)];exact key 8 (by omega) (by omega)
 ·have:=key 0 (by omega) (by omega);rw [w8 _ (by omega)];simpa using this
theorem gm8 {n:Int} (h:u9 n):qbk n=vd5 n:=by
 show IntKind.u64.wrap (ya4 .u64 (1:Int) (jh2 n)-1)=_;unfold vd5;rw [ko0 h];split
 ·subst_vars;rfl
 ·have h1:Nat.log2 n.toNat<64:=(Nat.log2_lt (by omega)).2 (by omega);rw [vm0 (by omega),za4,Z1];by_cases h2:Nat.log2 n.toNat+1=64
  ·rw [h2];rfl
  ·have h3:2^(Nat.log2 n.toNat+1)<=2^63:=Nat.pow_le_pow_right (by decide) (by omega);have h4:=Nat.two_pow_pos (Nat.log2 n.toNat+1);have h5:(1:Int)*2^(Nat.log2 n.toNat+1)=((2^(Nat.log2 n.toNat+1):Nat):Int):=by simp
   rw [h5];omega
def kj5 (z a s:Nat) (b:Bool):Nat:=(a >>> s)|||(if b then (2^s-1) <<< (z-s) else 0)
theorem gy4 {z a s:Nat} {b:Bool} (ha:a<2^z) (hs:s<z):kj5 z a s b<2^z:=by
 unfold kj5;apply Nat.or_lt_two_pow
 ·exact Nat.lt_of_le_of_lt (by rw [Nat.shiftRight_eq_div_pow];exact Nat.div_le_self _ _) ha
 ·split
  ·rw [Nat.shiftLeft_eq];have h1:2^z=2^s*2^(z-s):=by rw [<-Nat.pow_add];congr 1;omega
   rw [h1];exact Nat.mul_lt_mul_of_pos_right (by have:=Nat.two_pow_pos s;omega) (Nat.two_pow_pos _)
  ·exact Nat.two_pow_pos _
theorem yt6 {z a s:Nat} {b:Bool} (ha:a<2^z) (hs:s<z):kj5 z a s b=a/2^s+(if b then (2^s-1)*2^(z-s) else 0):=by
 unfold kj5;rw [Nat.shiftRight_eq_div_pow];cases b with
 |false=>simp
 |true=>
  simp only [if_true];have h1:2^z=2^s*2^(z-s):=by rw [<-Nat.pow_add];congr 1;omega
  have h2:a/2^s<2^(z-s):=Nat.div_lt_of_lt_mul (by rw [<-h1];exact ha);rw [Nat.or_comm,<-Nat.shiftLeft_add_eq_or_of_lt h2,Nat.shiftLeft_eq,Nat.add_comm]
theorem qh1 {z a:Nat} (ha:a<2^(z+1)):a.testBit z=decide (2^z<=a):=by
 rw [Nat.testBit_eq_decide_div_mod_eq];have h1:a/2^z<2:=Nat.div_lt_of_lt_mul (by rw [Nat.pow_succ] at ha;exact ha);by_cases h:2^z<=a
 ·have:1<=a/2^z:=(Nat.one_le_div_iff (Nat.two_pow_pos _)).2 h;have h2:a/2^z=1:=by omega
  simp [h2,h]
 ·have h2:a/2^z=0:=Nat.div_eq_of_lt (by omega);simp [h2,h]
theorem ky2 {z a s:Nat} (_ha:a<2^z) (hs:s<z):((a:Int)-(2:Int)^z)/2^s=((a/2^s:Nat):Int)-2^(z-s):=by
 have h1:(2:Int)^z=2^(z-s)*2^s:=by rw [<-Int.pow_add];congr 1;omega
 rw [h1,Int.sub_eq_add_neg,<-Int.neg_mul,Int.add_mul_ediv_right _ _ (by exact Int.ne_of_gt (Int.pow_pos (by omega)))];simp [Int.sub_eq_add_neg]
theorem gb3 {z s:Nat} (hs:s<z):((2^s-1)*2^(z-s):Nat)=2^z-2^(z-s):=by
 rw [Nat.sub_mul,Nat.one_mul,<-Nat.pow_add];congr 2;omega
theorem up6 {a s:Nat} (ha:a<2^32) (hs:s<32):IntKind.u32.wrap (zc0 .i32 (IntKind.i32.wrap (a:Int)) (s:Int))=((kj5 32 a s (a.testBit 31):Nat):Int):=by
 rw [yt6 ha hs,qh1 (z:=31) ha];unfold zc0;rw [Int.fdiv_eq_ediv_of_nonneg _ (by exact Int.le_of_lt (Int.pow_pos (by omega))),show min (s:Int).toNat IntKind.i32.bits=s from by simp only [IntKind.bits];omega,vd3,ze2];have hd:a/2^s<=a:=Nat.div_le_self _ _;by_cases h:2^31<=a
 ·rw [if_pos (by omega),show (a:Int)%4294967296-4294967296=(a:Int)-(2:Int)^32 from by omega,ky2 ha hs];simp only [h,decide_true,if_true];rw [gb3 hs];have h3:2^(32-s)<=2^32:=Nat.pow_le_pow_right (by decide) (by omega);have h4:(2:Int)^(32-s)=((2^(32-s):Nat):Int):=by simp
  have h5:a/2^s<2^(32-s):=Nat.div_lt_of_lt_mul (by rw [<-Nat.pow_add];rw [show s+(32-s)=32 by omega];exact ha);rw [h4];have h6:=Nat.two_pow_pos (32-s);generalize 2^(32-s)=q at *;generalize a/2^s=d at *;omega
 ·rw [if_neg (by omega),show (a:Int)%4294967296=(a:Int) by omega];simp only [h,decide_false,Bool.false_eq_true,if_false];have:(a:Int)/2^s=((a/2^s:Nat):Int):=by simp
  rw [this];generalize a/2^s=d at *;omega
theorem uq5 {a s:Nat} (ha:a<2^64) (hs:s<64):IntKind.u64.wrap (zc0 .i64 (IntKind.i64.wrap (a:Int)) (s:Int))=((kj5 64 a s (a.testBit 63):Nat):Int):=by
 rw [yt6 ha hs,qh1 (z:=63) ha];unfold zc0;rw [Int.fdiv_eq_ediv_of_nonneg _ (by exact Int.le_of_lt (Int.pow_pos (by omega))),show min (s:Int).toNat IntKind.i64.bits=s from by simp only [IntKind.bits];omega,vh4,za4];have hd:a/2^s<=a:=Nat.div_le_self _ _;by_cases h:2^63<=a
 ·rw [if_pos (by omega),show (a:Int)%18446744073709551616-18446744073709551616=(a:Int)-(2:Int)^64 from by omega,ky2 ha hs];simp only [h,decide_true,if_true];rw [gb3 hs];have h3:2^(64-s)<=2^64:=Nat.pow_le_pow_right (by decide) (by omega);have h4:(2:Int)^(64-s)=((2^(64-s):Nat):Int):=by simp
  have h5:a/2^s<2^(64-s):=Nat.div_lt_of_lt_mul (by rw [<-Nat.pow_add];rw [show s+(64-s)=64 by omega];exact ha);rw [h4];have h6:=Nat.two_pow_pos (64-s);generalize 2^(64-s)=q at *;generalize a/2^s=d at *;omega
 ·rw [if_neg (by omega),show (a:Int)%18446744073709551616=(a:Int) by omega];simp only [h,decide_false,Bool.false_eq_true,if_false];have:(a:Int)/2^s=((a/2^s:Nat):Int):=by simp
  rw [this];generalize a/2^s=d at *;omega
def g9 (nw:Bool):Int:=if nw then 4294967295 else 18446744073709551615
structure SpOk (nw:Bool) (s:q9):Prop where
 lo:0<=s.Lo
 le:s.Lo<=s.Hi
 hi:s.Hi<=g9 nw
theorem SpOk.u (nw:Bool) {s:q9} (h:SpOk nw s):u9 s.Lo/\u9 s.Hi:=by
 have h1:=h.lo;have h2:=h.le;have h3:=h.hi;unfold g9 at h3;split at h3<;>omega
theorem yg5 {x:Int} (h:u9 x):zb1 .u64 x 4294967295=x%4294967296:=by
 rw [yd4 h (by omega),show (4294967295:Int).toNat=2^32-1 from rfl,Nat.and_two_pow_sub_one_eq_mod];omega
theorem go1 {x:Int} (h:u9 x):zb1 .u64 x 18446744073709551615=x:=by
 rw [yd4 h (by omega),show (18446744073709551615:Int).toNat=2^64-1 from rfl,Nat.and_two_pow_sub_one_eq_mod];omega
theorem gi8 {x:Int}:zc0 .u64 x 32=x/4294967296:=by rw [zn1 (by omega)];rfl
theorem zv7 {s:q9} {nw:Bool} (h:u9 s.Lo/\u9 s.Hi) (hle:s.Lo<=s.Hi):SpOk nw (qf s nw):=by
 cases nw with
 |false=>exact ⟨h.1.1,hle,h.2.2⟩
 |true=>
  unfold qf;simp only [Bool.not_true,Bool.false_eq_true,if_false,gi8,yg5 h.1,yg5 h.2];split
  ·exact ⟨by decide,by decide,by decide⟩
  ·rename_i hq;have hq:s.Lo/4294967296=s.Hi/4294967296:=by simpa using hq
   refine ⟨?_,?_,?_⟩
   ·show 0<=s.Lo%4294967296;omega
   ·show s.Lo%4294967296<=s.Hi%4294967296;omega
   ·show s.Hi%4294967296<=4294967295;omega
theorem yg7 (s:q9):qm s=decide (s.Lo=s.Hi):=by
 show ((s.Lo==s.Lo)&&(s.Hi==s.Lo))=_;by_cases h:s.Lo=s.Hi<;>simp [h];exact fun e=>h e.symm
theorem yv4 (w:Twork):qx w=(decide (w.a.Lo=w.a.Hi)&&decide (w.b.Lo=w.b.Hi)):=by
 show (qm w.a&&qm w.b)=_;rw [yg7,yg7]
def wk (nw:Bool) (a b:q9):Twork:=⟨a,b,nw,g9 nw,if nw then 32 else 64⟩
theorem gq1 (nw:Bool) (a b:q9):qag nw a b=wk nw (qf a nw) (qf b nw):=by
 cases nw<;>rfl
theorem vk0 (nw:Bool):zi2 nw=⟨0,g9 nw⟩:=by cases nw<;>rfl
theorem vw7 {α:Type} (c:Bool) (n:α) (f:Unit->α):yg6 (zf1 c) n f=if c=true then f () else n:=by
 cases c<;>rfl
theorem zw4 (nw:Bool):u9 (g9 nw):=by cases nw<;>decide
theorem kq0 (nw:Bool):g9 nw=4294967295\/g9 nw=18446744073709551615:=by cases nw<;>simp [g9]
theorem kq1 {nw:Bool} {p q:Int} (hp:0<=p/\p<=g9 nw) (hq:0<=q/\q<=g9 nw):
  (((yb4 p q).1==0)&&decide ((yb4 p q).2<=g9 nw))=decide (p*q<=g9 nw):=by
 have hm:=zw4 nw;rw [uu1 p q ⟨hp.1,by omega⟩ ⟨hq.1,by omega⟩,wf1];have h0:0<=p*q:=Int.mul_nonneg hp.1 hq.1;generalize p*q=z at *;rw [Bool.eq_iff_iff];simp only [X3,beq_iff_eq,decide_eq_true_eq];omega
theorem qk9 {nw:Bool} {x c:Int} (hx:0<=x) (hc:0<=c/\c<=63) (h:x<=zc0 .u64 (g9 nw) c):ya4 .u64 x c=x*2^c.toNat/\x*2^c.toNat<=g9 nw:=by
 rw [zn1 (by omega)] at h;have hp:(0:Int)<2^c.toNat:=Int.pow_pos (by omega);have h1:x*2^c.toNat<=g9 nw:=(Int.le_ediv_iff_mul_le hp).1 h;have h2:0<=x*2^c.toNat:=Int.mul_nonneg hx (Int.le_of_lt hp);have hm:=zw4 nw;refine ⟨?_,h1⟩;rw [vm0 (by omega)];omega
theorem jp1 {nw:Bool} {a b:q9} {x:Int} (hx:0<=x/\x<=g9 nw):qz (wk nw a b) x=decide (g9 nw<2*x):=by
 cases nw with
 |true=>
  have h2:x<=4294967295:=hx.2;have e:((zb1 .u64 (zc0 .u64 x 31) 1)==1)=decide (g9 true<2*x):=by
   rw [zn1 (by omega),show (2:Int)^(31:Int).toNat=2147483648 from rfl,yd4 (by omega) (by omega)];rw [show (1:Int).toNat=1 from rfl,Nat.and_one_is_mod];show _=decide (4294967295<2*x);rw [Bool.eq_iff_iff,beq_iff_eq,decide_eq_true_eq];omega
  exact e
 |false=>
  have h2:x<=18446744073709551615:=hx.2;have e:((zb1 .u64 (zc0 .u64 x 63) 1)==1)=decide (g9 false<2*x):=by
   rw [zn1 (by omega),show (2:Int)^(63:Int).toNat=9223372036854775808 from rfl,yd4 (by omega) (by omega)];rw [show (1:Int).toNat=1 from rfl,Nat.and_one_is_mod];show _=decide (18446744073709551615<2*x);rw [Bool.eq_iff_iff,beq_iff_eq,decide_eq_true_eq];omega
  exact e
theorem qn6 {nw:Bool} {a b s:q9} (hs:SpOk nw s):qao (wk nw a b) s=(decide (g9 nw<2*s.Lo) != decide (g9 nw<2*s.Hi)):=by
 show (qz (wk nw a b) s.Lo != qz (wk nw a b) s.Hi)=_;have h1:=hs.lo;have h2:=hs.le;have h3:=hs.hi;rw [jp1 ⟨h1,by omega⟩,jp1 ⟨by omega,h3⟩]
def zc3 (op:Int) (w:Twork):Option q9:=
 if op=1 then zp4 w else if op=2 then zq1 w else if op=3 then zp3 w else if op=4 then some (qbr w) else if op=5 then some (qbs w)
 else if op=6 then some (qbl w) else if op=7 then some (qbm w) else if op=8 then some (qbn w) else if op=9 then zp6 w else if op=10 then some (qaf w)
 else if op=11 then zp1 w else if op=12 then some (qbt w) else zj6 w
theorem kq7 (op:Int):jn1 op=decide (1<=op/\op<=13):=by
 unfold jn1;rw [Bool.eq_iff_iff];simp only [Bool.or_eq_true,beq_iff_eq,decide_eq_true_eq];omega
theorem zw5 (op:Int) (nw:Bool) (a b:q9):span_Do op nw a b=if (1<=op/\op<=13)/\a.Lo<=a.Hi/\b.Lo<=b.Hi then (zc3 op (wk nw (qf a nw) (qf b nw))).getD ⟨0,g9 nw⟩ else ⟨0,g9 nw⟩:=by
 rw [span_Do.eq_1];simp only [kq7,w5,zc9,vk0,gq1];by_cases h:(1<=op/\op<=13)/\a.Lo<=a.Hi/\b.Lo<=b.Hi
 ·rw [if_pos h,if_neg (by simp [h])];unfold zc3;generalize wk nw (qf a nw) (qf b nw)=w;have hh:op=1\/op=2\/op=3\/op=4\/op=5\/op=6\/op=7\/op=8\/op=9\/op=10\/op=11\/op=12\/op=13:=by omega
  rcases hh with rfl|rfl|rfl|rfl|rfl|rfl|rfl|rfl|rfl|rfl|rfl|rfl|rfl
  all_goals first|rfl|(simp only [show ∀o:Option q9,yg6 o (⟨0,g9 nw⟩:q9) (fun x=>x)=o.getD ⟨0,g9 nw⟩ from fun o=>by cases o<;>rfl];rfl)
 ·rw [if_neg h,if_pos];simp only [Bool.or_eq_true,Bool.not_eq_true',decide_eq_false_iff_not];omega
end Go.Y
namespace Go.Y
open Go.RowKit Go.V Go.X Go.Proofs
theorem gc0 {x:Int} (h:qp4 x):(BitVec.ofInt IntKind.u32.bits x).toNat=x.toNat:=by
 rw [BitVec.toNat_ofInt];simp only [IntKind.bits];omega
theorem wu6 {x y:Int} (hx:qp4 x) (hy:qp4 y):zb1 .u32 x y=((x.toNat&&&y.toNat:Nat):Int):=by
 unfold zb1;rw [BitVec.toNat_and,gc0 hx,gc0 hy,ze2];have:x.toNat&&&y.toNat<=x.toNat:=Nat.and_le_left;omega
theorem wj8 {x:Int} (h:qp4 x):x.toNat<2^32:=by omega
theorem us6 {x y:Int} (hx:qp4 x) (hy:qp4 y):bOr .u32 x y=((x.toNat|||y.toNat:Nat):Int):=by
 unfold bOr;rw [BitVec.toNat_or,gc0 hx,gc0 hy,ze2];have:=Nat.or_lt_two_pow (wj8 hx) (wj8 hy);omega
theorem uh5 {x y:Int} (hx:qp4 x) (hy:qp4 y):jc2 .u32 x y=((x.toNat^^^y.toNat:Nat):Int):=by
 unfold jc2;rw [BitVec.toNat_xor,gc0 hx,gc0 hy,ze2];have:=Nat.xor_lt_two_pow (wj8 hx) (wj8 hy);omega
theorem wr3 {x y:Int} (hy:0<=y/\y<=32):zc0 .u32 x y=x/2^y.toNat:=by
 unfold zc0;rw [Int.fdiv_eq_ediv_of_nonneg _ (by exact Int.le_of_lt (Int.pow_pos (by omega)))];congr 2;simp only [IntKind.bits];omega
theorem wn9 {x y:Int} (hy:0<=y/\y<=32):ya4 .u32 x y=(x*2^y.toNat)%4294967296:=by
 unfold ya4;rw [ze2];congr 3;simp only [IntKind.bits];omega
def zf3 (nw:Bool):Nat:=if nw then 32 else 64
theorem yk0 (nw:Bool):g9 nw+1=2^zf3 nw:=by cases nw<;>decide
theorem yu7 (nw:Bool):zf3 nw=32\/zf3 nw=64:=by cases nw<;>simp [zf3]
def yx3 (nw:Bool) (p:Int) (s:Nat):Int:=((kj5 (zf3 nw) p.toNat s (decide (g9 nw<2*p)):Nat):Int)
def shN (nw:Bool) (q:Int):Nat:=(q%(zf3 nw:Int)).toNat
theorem jf6 (nw:Bool) (q:Int):shN nw q<zf3 nw:=by unfold shN;rcases yu7 nw with h|h<;>rw [h]<;>omega
def ve6 (nw:Bool) (op p q:Int):Option Int:=
 if op=1 then some ((p+q)%(g9 nw+1)) else if op=2 then some ((p-q)%(g9 nw+1)) else if op=3 then some ((p*q)%(g9 nw+1))
 else if op=4 then (if q=0 then none else some (p/q)) else if op=5 then (if q=0 then none else some (p%q))
 else if op=6 then some ((p.toNat&&&q.toNat:Nat):Int) else if op=7 then some ((p.toNat|||q.toNat:Nat):Int) else if op=8 then some ((p.toNat^^^q.toNat:Nat):Int)
 else if op=9 then some ((p*2^shN nw q)%(g9 nw+1)) else if op=10 then some (p/2^shN nw q) else if op=11 then some (yx3 nw p (shN nw q))
 else if op=12 then some q else some ((0-p)%(g9 nw+1))
def qu8 (nw:Bool) (p:Int):Int:=if nw then p%4294967296 else p
theorem vo4 {nw:Bool} {p:Int} (h:u9 p):0<=qu8 nw p/\qu8 nw p<=g9 nw:=by
 cases nw with
 |true=>show 0<=p%4294967296/\p%4294967296<=4294967295;omega
 |false=>exact h
def kj0 (o:Option Int):Int×Int:=match o with|some v=>(v,0)|none=>(0,113)
theorem vs8 (nw:Bool) {a:Nat} (ha:a<2^zf3 nw):a.testBit (zf3 nw-1)=decide (g9 nw<2*(a:Int)):=by
 cases nw with
 |true=>rw [show zf3 true-1=31 from rfl,qh1 (z:=31) ha,show g9 true=4294967295 from rfl];rw [Bool.eq_iff_iff,decide_eq_true_eq,decide_eq_true_eq];omega
 |false=>rw [show zf3 false-1=63 from rfl,qh1 (z:=63) ha,show g9 false=18446744073709551615 from rfl];rw [Bool.eq_iff_iff,decide_eq_true_eq,decide_eq_true_eq];omega
theorem qi2 (nw:Bool) {q:Int} (_h:0<=q):q%(zf3 nw:Int)=((shN nw q:Nat):Int):=by unfold shN;rcases yu7 nw with h|h<;>rw [h]<;>omega
theorem jw3 {op:Int} (hop:1<=op/\op<=13) {nw:Bool} {p q:Int} (hp:u9 p) (hq:u9 q):zv2 op nw p q=kj0 (ve6 nw op (qu8 nw p) (qu8 nw q)):=by
 have hh:op=1\/op=2\/op=3\/op=4\/op=5\/op=6\/op=7\/op=8\/op=9\/op=10\/op=11\/op=12\/op=13:=by omega
 cases nw with
 |true=>
  have hx:qp4 (p%4294967296):=by omega
  have hy:qp4 (q%4294967296):=by omega
  show je5 op 32 (IntKind.u32.wrap p) (IntKind.u32.wrap q)=kj0 (ve6 true op (p%4294967296) (q%4294967296));rw [ze2,ze2];generalize p%4294967296=x at *;generalize q%4294967296=y at *;have hy32:y%32=((shN true y:Nat):Int):=qi2 true hy.1;have hlt:shN true y<32:=jf6 true y;have hd:0<=x/y/\x/y<=x:=⟨Int.ediv_nonneg hx.1 hy.1,Int.ediv_le_self _ hx.1⟩;rcases hh with rfl|rfl|rfl|rfl|rfl|rfl|rfl|rfl|rfl|rfl|rfl|rfl|rfl
  ·show (IntKind.u32.wrap (x+y),(0:Int))=((x+y)%(4294967295+1),0);rw [ze2];rfl
  ·show (IntKind.u32.wrap (x-y),(0:Int))=((x-y)%(4294967295+1),0);rw [ze2];rfl
  ·show (IntKind.u32.wrap (x*y),(0:Int))=((x*y)%(4294967295+1),0);rw [ze2];rfl
  ·by_cases h0:y=0
   ·subst h0;rfl
   ·show (if (y==0)=true then ((0:Int),(113:Int)) else (IntKind.u32.wrap (x.tdiv y),0))=kj0 (if y=0 then none else some (x/y));rw [if_neg (by simpa using h0),if_neg h0,ze2,Int.tdiv_eq_ediv_of_nonneg hx.1];show _=(x/y,(0:Int));congr 1;omega
  ·by_cases h0:y=0
   ·subst h0;rfl
   ·show (if (y==0)=true then ((0:Int),(113:Int)) else (x.tmod y,0))=kj0 (if y=0 then none else some (x%y));rw [if_neg (by simpa using h0),if_neg h0,Int.tmod_eq_emod_of_nonneg hx.1];rfl
  ·show (zb1 .u32 x y,(0:Int))=(((x.toNat&&&y.toNat:Nat):Int),0);rw [wu6 hx hy]
  ·show (bOr .u32 x y,(0:Int))=(((x.toNat|||y.toNat:Nat):Int),0);rw [us6 hx hy]
  ·show (jc2 .u32 x y,(0:Int))=(((x.toNat^^^y.toNat:Nat):Int),0);rw [uh5 hx hy]
  ·show (ya4 .u32 x (y.tmod 32),(0:Int))=((x*2^shN true y)%(4294967295+1),0);rw [Int.tmod_eq_emod_of_nonneg hy.1,hy32,wn9 (by omega)];rfl
  ·show (zc0 .u32 x (y.tmod 32),(0:Int))=(x/2^shN true y,0);rw [Int.tmod_eq_emod_of_nonneg hy.1,hy32,wr3 (by omega)];rfl
  ·show (IntKind.u32.wrap (zc0 .i32 (IntKind.i32.wrap x) (y.tmod 32)),(0:Int))=(yx3 true x (shN true y),0);obtain ⟨a,rfl⟩:=Int.eq_ofNat_of_zero_le hx.1;rw [Int.tmod_eq_emod_of_nonneg hy.1,hy32,up6 (by omega) hlt];unfold yx3;rw [<-vs8 true (a:=a) (show a<2^32 by omega)];rfl
  ·rfl
  ·show (IntKind.u32.wrap (0-x),(0:Int))=((0-x)%(4294967295+1),0);rw [ze2];rfl
 |false=>
  show jq7 op 64 p q=kj0 (ve6 false op p q);have hx:=hp;have hy:=hq;have hy64:q%64=((shN false q:Nat):Int):=qi2 false hy.1;have hlt:shN false q<64:=jf6 false q;have hd:0<=p/q/\p/q<=p:=⟨Int.ediv_nonneg hx.1 hy.1,Int.ediv_le_self _ hx.1⟩;rcases hh with rfl|rfl|rfl|rfl|rfl|rfl|rfl|rfl|rfl|rfl|rfl|rfl|rfl
  ·show (IntKind.u64.wrap (p+q),(0:Int))=((p+q)%(18446744073709551615+1),0);rw [za4];rfl
  ·show (IntKind.u64.wrap (p-q),(0:Int))=((p-q)%(18446744073709551615+1),0);rw [za4];rfl
  ·show (IntKind.u64.wrap (p*q),(0:Int))=((p*q)%(18446744073709551615+1),0);rw [za4];rfl
  ·by_cases h0:q=0
   ·subst h0;rfl
   ·show (if (q==0)=true then ((0:Int),(113:Int)) else (IntKind.u64.wrap (p.tdiv q),0))=kj0 (if q=0 then none else some (p/q));rw [if_neg (by simpa using h0),if_neg h0,za4,Int.tdiv_eq_ediv_of_nonneg hx.1];show _=(p/q,(0:Int));congr 1;omega
  ·by_cases h0:q=0
   ·subst h0;rfl
   ·show (if (q==0)=true then ((0:Int),(113:Int)) else (p.tmod q,0))=kj0 (if q=0 then none else some (p%q));rw [if_neg (by simpa using h0),if_neg h0,Int.tmod_eq_emod_of_nonneg hx.1];rfl
  ·show (zb1 .u64 p q,(0:Int))=(((p.toNat&&&q.toNat:Nat):Int),0);rw [yd4 hx hy]
  ·show (bOr .u64 p q,(0:Int))=(((p.toNat|||q.toNat:Nat):Int),0);rw [gi9 hx hy]
  ·show (jc2 .u64 p q,(0:Int))=(((p.toNat^^^q.toNat:Nat):Int),0);rw [gc3 hx hy]
  ·show (ya4 .u64 p (q.tmod 64),(0:Int))=((p*2^shN false q)%(18446744073709551615+1),0);rw [Int.tmod_eq_emod_of_nonneg hy.1,hy64,vm0 (by omega)];rfl
  ·show (zc0 .u64 p (q.tmod 64),(0:Int))=(p/2^shN false q,0);rw [Int.tmod_eq_emod_of_nonneg hy.1,hy64,zn1 (by omega)];rfl
  ·show (IntKind.u64.wrap (zc0 .i64 (IntKind.i64.wrap p) (q.tmod 64)),(0:Int))=(yx3 false p (shN false q),0);obtain ⟨a,rfl⟩:=Int.eq_ofNat_of_zero_le hx.1;rw [Int.tmod_eq_emod_of_nonneg hy.1,hy64,uq5 (by omega) hlt];unfold yx3;rw [<-vs8 false (a:=a) (show a<2^64 by omega)];rfl
  ·rfl
  ·show (IntKind.u64.wrap (0-p),(0:Int))=((0-p)%(18446744073709551615+1),0);rw [za4];rfl
def yr6 (p q:Int):Int:=vd5 ((p.toNat|||q.toNat:Nat):Int)
def vk4 (nw:Bool) (op:Int) (u v:q9):Option q9:=
 if op=1 then (if v.Hi<=g9 nw-u.Hi\/v.Lo>g9 nw-u.Lo then some ⟨(u.Lo+v.Lo)%(g9 nw+1),(u.Hi+v.Hi)%(g9 nw+1)⟩ else none)
 else if op=2 then (if u.Lo>=v.Hi\/u.Hi<v.Lo then some ⟨(u.Lo-v.Hi)%(g9 nw+1),(u.Hi-v.Lo)%(g9 nw+1)⟩ else none)
 else if op=3 then (if u.Hi*v.Hi<=g9 nw then some ⟨u.Lo*v.Lo,u.Hi*v.Hi⟩ else none)
 else if op=4 then some ⟨u.Lo/max v.Hi 1,u.Hi/max v.Lo 1⟩
 else if op=5 then some (if u.Hi<max v.Lo 1 then u else ⟨0,min u.Hi (max v.Hi 1-1)⟩)
 else if op=6 then some (if u.Lo=u.Hi/\v.Lo=v.Hi then ⟨((u.Lo.toNat&&&v.Lo.toNat:Nat):Int),((u.Lo.toNat&&&v.Lo.toNat:Nat):Int)⟩ else ⟨0,min u.Hi v.Hi⟩)
 else if op=7 then some (if u.Lo=u.Hi/\v.Lo=v.Hi then ⟨((u.Lo.toNat|||v.Lo.toNat:Nat):Int),((u.Lo.toNat|||v.Lo.toNat:Nat):Int)⟩ else ⟨max u.Lo v.Lo,yr6 u.Hi v.Hi⟩)
 else if op=8 then some (if u.Lo=u.Hi/\v.Lo=v.Hi then ⟨((u.Lo.toNat^^^v.Lo.toNat:Nat):Int),((u.Lo.toNat^^^v.Lo.toNat:Nat):Int)⟩ else ⟨0,yr6 u.Hi v.Hi⟩)
 else if op=9 then (if v.Lo=v.Hi/\u.Hi*2^shN nw v.Lo<=g9 nw then some ⟨u.Lo*2^shN nw v.Lo,u.Hi*2^shN nw v.Lo⟩ else none)
 else if op=10 then some (if v.Lo=v.Hi then ⟨u.Lo/2^shN nw v.Lo,u.Hi/2^shN nw v.Lo⟩ else if v.Hi>=zf3 nw then ⟨0,u.Hi⟩ else ⟨u.Lo/2^v.Hi.toNat,u.Hi/2^v.Lo.toNat⟩)
 else if op=11 then (if v.Lo=v.Hi/\(g9 nw<2*u.Lo↔g9 nw<2*u.Hi) then some ⟨yx3 nw u.Lo (shN nw v.Lo),yx3 nw u.Hi (shN nw v.Lo)⟩ else none)
 else if op=12 then some v
 else (if u.Hi=0 then some u else if u.Lo>0 then some ⟨(0-u.Hi)%(g9 nw+1),(0-u.Lo)%(g9 nw+1)⟩ else none)
theorem qe5 {α:Type} {c:Bool} {p:Prop} [Decidable p] (h:c=decide p) (x y:α) (hxy:p->x=y):(yg6 (zf1 c) none fun _=>some x)=if p then some y else none:=by
 rw [vw7,h];by_cases hp:p
 ·simp [hp,hxy hp]
 ·simp [hp]
theorem jq4 {nw:Bool} (a b:q9) (x y:Int):qat (wk nw a b) (IntKind.u64.wrap x) (IntKind.u64.wrap y)=⟨x%(g9 nw+1),y%(g9 nw+1)⟩:=by
 have key: ∀x:Int,zb1 .u64 (IntKind.u64.wrap x) (g9 nw)=x%(g9 nw+1):=by
  intro x;cases nw with
  |true=>show zb1 .u64 _ 4294967295=x%4294967296;rw [yg5 (zk9 x),za4];omega
  |false=>show zb1 .u64 _ 18446744073709551615=x%18446744073709551616;rw [go1 (zk9 x),za4]
 show (⟨_,_⟩:q9)=_;rw [show (wk nw a b).most=g9 nw from rfl,key,key]
theorem vu6 {nw:Bool} {p q:Int} (hp:0<=p/\p<=g9 nw) (hq:0<=q/\q<=g9 nw):qbk (bOr .u64 p q)=yr6 p q:=by
 have hm:=zw4 nw;have hw:u9 (bOr .u64 p q):=zk9 _;rw [gm8 hw,gi9 ⟨hp.1,by omega⟩ ⟨hq.1,by omega⟩];rfl
theorem vu4 {nw:Bool} {x y:Int} (hx:0<=x/\x<=g9 nw) (hy:0<=y/\y<=g9 nw):(zv2 11 nw x y).1=yx3 nw x (shN nw y):=by
 have hm:=zw4 nw;have e: ∀z:Int,(0<=z/\z<=g9 nw)->qu8 nw z=z:=by
  intro z hz;cases nw with
  |true=>show z%4294967296=z;have:g9 true=4294967295:=rfl;omega
  |false=>rfl
 rw [jw3 (by omega) ⟨hx.1,by omega⟩ ⟨hy.1,by omega⟩,e x hx,e y hy];rfl
theorem ka1 {op:Int} (hop:1<=op/\op<=13) {nw:Bool} {u v:q9} (hu:SpOk nw u) (hv:SpOk nw v):zc3 op (wk nw u v)=vk4 nw op u v:=by
 have hu1:=hu.lo;have hu2:=hu.le;have hu3:=hu.hi;have hv1:=hv.lo;have hv2:=hv.le;have hv3:=hv.hi;have hm:=zw4 nw;have iu:=hu.u;have iv:=hv.u;have hh:op=1\/op=2\/op=3\/op=4\/op=5\/op=6\/op=7\/op=8\/op=9\/op=10\/op=11\/op=12\/op=13:=by omega
 rcases hh with rfl|rfl|rfl|rfl|rfl|rfl|rfl|rfl|rfl|rfl|rfl|rfl|rfl
 ·refine qe5 (p:=v.Hi<=g9 nw-u.Hi\/v.Lo>g9 nw-u.Lo) ?_ _ _ fun _=>jq4 u v _ _;show (decide (v.Hi<=IntKind.u64.wrap (g9 nw-u.Hi))||decide (v.Lo>IntKind.u64.wrap (g9 nw-u.Lo)))=_;rw [za4,za4,Int.emod_eq_of_lt (by omega) (by omega),Int.emod_eq_of_lt (by omega) (by omega)];simp
 ·refine qe5 (p:=u.Lo>=v.Hi\/u.Hi<v.Lo) ?_ _ _ fun _=>jq4 u v _ _;show (decide (u.Lo>=v.Hi)||decide (u.Hi<v.Lo))=_;simp
 ·refine qe5 (p:=u.Hi*v.Hi<=g9 nw) ?_ _ _ fun h=>?_
  ·show (((yb4 u.Hi v.Hi).1==0)&&decide ((yb4 u.Hi v.Hi).2<=g9 nw))=_;exact kq1 ⟨by omega,hu3⟩ ⟨by omega,hv3⟩
  ·show (⟨IntKind.u64.wrap (u.Lo*v.Lo),(yb4 u.Hi v.Hi).2⟩:q9)=_;have h1:0<=u.Lo*v.Lo:=Int.mul_nonneg hu1 hv1;have h2:u.Lo*v.Lo<=u.Hi*v.Hi:=Int.mul_le_mul hu2 hv2 hv1 (by omega);rw [wf1,za4,Int.emod_eq_of_lt h1 (by omega),Int.emod_eq_of_lt (by omega) (by omega)]
 ·show some (⟨IntKind.u64.wrap (u.Lo.tdiv (zk5 v.Hi 1)),IntKind.u64.wrap (u.Hi.tdiv (zk5 v.Lo 1))⟩:q9)=some ⟨u.Lo/max v.Hi 1,u.Hi/max v.Lo 1⟩;have d: ∀x y:Int,0<=x->x<=g9 nw->IntKind.u64.wrap (x.tdiv (zk5 y 1))=x/max y 1:=by
   intro x y h1 h2;rw [zo7,Int.tdiv_eq_ediv_of_nonneg h1,za4];have h3:0<=x/max y 1:=Int.ediv_nonneg h1 (by omega);have h4:x/max y 1<=x:=Int.ediv_le_self _ h1;exact Int.emod_eq_of_lt h3 (by omega)
  rw [d _ _ hu1 (by omega),d _ _ (by omega) hu3]
 ·show some (if decide (u.Hi<zk5 v.Lo 1)=true then u else (⟨0,yj2 u.Hi (IntKind.u64.wrap (zk5 v.Hi 1-1))⟩:q9))=some (if u.Hi<max v.Lo 1 then u else ⟨0,min u.Hi (max v.Hi 1-1)⟩);rw [zo7,zo7,yg8,za4,Int.emod_eq_of_lt (by omega) (by omega)];simp only [decide_eq_true_eq]
 ·show some (qbl (wk nw u v))=some (if u.Lo=u.Hi/\v.Lo=v.Hi then _ else _);unfold qbl zc9;simp only [yv4];by_cases h1:u.Lo=u.Hi<;>by_cases h2:v.Lo=v.Hi<;>simp [h1,h2,wk,zo6,yg8];rw [yd4 iu.2 iv.2]
 ·show some (qbm (wk nw u v))=some (if u.Lo=u.Hi/\v.Lo=v.Hi then _ else _);unfold qbm zc9;simp only [yv4];have hf:=vu6 (nw:=nw) ⟨Int.le_trans hu1 hu2,hu3⟩ ⟨Int.le_trans hv1 hv2,hv3⟩;by_cases h1:u.Lo=u.Hi<;>by_cases h2:v.Lo=v.Hi<;>simp [h1,h2,wk,zo6,zo7,hf];rw [gi9 iu.2 iv.2]
 ·show some (qbn (wk nw u v))=some (if u.Lo=u.Hi/\v.Lo=v.Hi then _ else _);unfold qbn zc9;simp only [yv4];have hf:=vu6 (nw:=nw) ⟨Int.le_trans hu1 hu2,hu3⟩ ⟨Int.le_trans hv1 hv2,hv3⟩;by_cases h1:u.Lo=u.Hi<;>by_cases h2:v.Lo=v.Hi<;>simp [h1,h2,wk,zo6,hf];rw [gc3 iu.2 iv.2]
 ·have hsz:(if nw then (32:Int) else 64)=(zf3 nw:Int):=by cases nw<;>rfl
  have hc:v.Lo.tmod (if nw then (32:Int) else 64)=((shN nw v.Lo:Nat):Int):=by rw [Int.tmod_eq_emod_of_nonneg hv1,hsz,qi2 nw hv1]
  have hlt:=jf6 nw v.Lo;have hs64:zf3 nw<=64:=by have:=yu7 nw;omega
  have hpow:(0:Int)<2^shN nw v.Lo:=Int.pow_pos (by omega);have hle: ∀x:Int,x<=zc0 .u64 (g9 nw) ((shN nw v.Lo:Nat):Int)↔x*2^shN nw v.Lo<=g9 nw:=by
   intro x;rw [zn1 (by omega),Z1];exact Int.le_ediv_iff_mul_le hpow
  refine qe5 (p:=v.Lo=v.Hi/\u.Hi*2^shN nw v.Lo<=g9 nw) ?_ _ _ fun h=>?_
  ·show (qm v&&decide (u.Hi<=zc0 .u64 (g9 nw) (v.Lo.tmod (if nw then (32:Int) else 64))))=_;rw [yg7,hc,Bool.eq_iff_iff];simp only [X3,decide_eq_true_eq,hle]
  ·show (⟨ya4 .u64 u.Lo (v.Lo.tmod (if nw then (32:Int) else 64)),ya4 .u64 u.Hi (v.Lo.tmod (if nw then (32:Int) else 64))⟩:q9)=_;rw [hc];have h3:=qk9 (x:=u.Hi) (c:=((shN nw v.Lo:Nat):Int)) (by omega) (by omega) ((hle _).2 h.2);have h4:=qk9 (x:=u.Lo) (c:=((shN nw v.Lo:Nat):Int)) hu1 (by omega) (Int.le_trans hu2 ((hle _).2 h.2));rw [h3.1,h4.1,Z1]
 ·have hsz:(if nw then (32:Int) else 64)=(zf3 nw:Int):=by cases nw<;>rfl
  have hc:v.Lo.tmod (if nw then (32:Int) else 64)=((shN nw v.Lo:Nat):Int):=by rw [Int.tmod_eq_emod_of_nonneg hv1,hsz,qi2 nw hv1]
  have hlt:=jf6 nw v.Lo;have hs64:zf3 nw<=64:=by have:=yu7 nw;omega
  show some (if qm v then (⟨zc0 .u64 u.Lo (v.Hi.tmod (if nw then 32 else 64)),zc0 .u64 u.Hi (v.Lo.tmod (if nw then 32 else 64))⟩:q9) else if decide (v.Hi>=(if nw then (32:Int) else 64)) then ⟨0,u.Hi⟩ else ⟨zc0 .u64 u.Lo v.Hi,zc0 .u64 u.Hi v.Lo⟩)=some (if v.Lo=v.Hi then _ else if v.Hi>=zf3 nw then _ else _);rw [yg7];by_cases h1:v.Lo=v.Hi
  ·simp only [h1,decide_true,if_true];rw [h1] at hc hlt;rw [hc,zn1 (by omega),zn1 (by omega),Z1]
  ·simp only [h1,decide_false,Bool.false_eq_true,if_false];rw [hsz];by_cases h2:v.Hi>=(zf3 nw:Int)
   ·simp only [h2,decide_true,if_true]
   ·simp only [h2,decide_false,Bool.false_eq_true,if_false];rw [zn1 (by omega),zn1 (by omega)]
 ·refine qe5 (p:=v.Lo=v.Hi/\(g9 nw<2*u.Lo↔g9 nw<2*u.Hi)) ?_ _ _ fun _=>?_
  ·show (qm v&& !(qao (wk nw u v) u))=_;rw [yg7,qn6 hu];by_cases h1:v.Lo=v.Hi<;>by_cases h2:g9 nw<2*u.Lo<;>by_cases h3:g9 nw<2*u.Hi<;>simp [h1,h2,h3]
  ·show (⟨(zv2 11 nw u.Lo v.Lo).1,(zv2 11 nw u.Hi v.Lo).1⟩:q9)=_;rw [vu4 ⟨hu1,by omega⟩ ⟨hv1,by omega⟩,vu4 ⟨by omega,hu3⟩ ⟨hv1,by omega⟩]
 ·rfl
 ·show zj6 (wk nw u v)=if u.Hi=0 then some u else if u.Lo>0 then _ else none
  unfold zj6;by_cases h1:u.Hi=0
  ·have h2:((wk nw u v).a.Hi==0)=true:=by simpa [wk] using h1
   rw [h2,if_pos h1];rfl
  ·have h2:((wk nw u v).a.Hi==0)=false:=by simpa [wk] using h1
   rw [h2,if_neg h1];exact qe5 (p:=u.Lo>0) rfl _ _ fun _=>jq4 u v _ _
end Go.Y
namespace Go.Y
open Go.RowKit Go.V Go.X Go.Proofs
end Go.Y
namespace Go.Y
open Go.RowKit Go.V Go.X Go.Proofs
def zg4 (nw:Bool) (p:Int):Bool:=decide (g9 nw<2*p)
def woE (s n:q9):q9:=if s.Lo=s.Hi\/n.Lo≠n.Hi then s else ⟨if s.Lo=n.Lo then s.Lo+1 else s.Lo,if s.Hi=n.Lo then s.Hi-1 else s.Hi⟩
def gtE (u v:q9):Option (q9×q9):=if u.Hi>v.Lo then some (⟨max u.Lo (v.Lo+1),u.Hi⟩,⟨v.Lo,min v.Hi (u.Hi-1)⟩) else none
def geE (u v:q9):Option (q9×q9):=if u.Hi>=v.Lo then some (⟨max u.Lo v.Lo,u.Hi⟩,⟨v.Lo,min v.Hi u.Hi⟩) else none
def jd6 (o:Option (q9×q9)):Option (q9×q9):=o.map fun x=>(x.2,x.1)
def yp9 (op:Int) (u v:q9):Option (q9×q9):=
 if op=17 then (if max u.Lo v.Lo<=min u.Hi v.Hi then some (⟨max u.Lo v.Lo,min u.Hi v.Hi⟩,⟨max u.Lo v.Lo,min u.Hi v.Hi⟩) else none)
 else if op=18 then (if u.Lo=u.Hi/\v.Lo=v.Hi/\u.Lo=v.Lo then none else some (woE u v,woE v u))
 else if op=19 then gtE u v else if op=20 then geE u v else if op=21 then jd6 (gtE v u) else jd6 (geE v u)
def yx6 (nw:Bool) (op:Int) (u v:q9):Option (q9×q9):=
 if zg4 nw u.Lo≠zg4 nw u.Hi\/zg4 nw v.Lo≠zg4 nw v.Hi then some (u,v)
 else if zg4 nw u.Lo=zg4 nw v.Lo then yp9 (op-4) u v
 else if (op=23\/op=24)↔zg4 nw v.Lo=true then some (u,v) else none
def yc8 (yes:Bool) (u v:q9):Option (q9×q9):=
 if yes=false then (if u.Lo=u.Hi/\v.Lo=v.Hi/\u.Lo.toNat&&&v.Lo.toNat≠0 then none else some (u,v))
 else if u.Hi>0/\v.Hi>0/\ ¬(u.Lo=u.Hi/\v.Lo=v.Hi/\u.Lo.toNat&&&v.Lo.toNat=0) then some (⟨max u.Lo 1,u.Hi⟩,⟨max v.Lo 1,v.Hi⟩) else none
def jg7 (op:Int):Int:=if op=17 then 18 else if op=18 then 17 else if op=19 then 22 else if op=20 then 21 else if op=21 then 20 else if op=22 then 19 else if op=23 then 26 else if op=24 then 25 else if op=25 then 24 else 23
def kj1 (nw:Bool) (op:Int) (yes:Bool) (u v:q9):Option (q9×q9):=
 if op=27 then yc8 yes u v else if (if yes=true then op else jg7 op)>=23 then yx6 nw (if yes=true then op else jg7 op) u v else yp9 (if yes=true then op else jg7 op) u v
end Go.Y
namespace Go.Y
open Go.RowKit Go.V Go.X Go.Proofs
def Hs (s:q9) (x:Int):Prop:=s.Lo<=x/\x<=s.Hi
theorem kw3 {a c d:Int} (ha:0<=a) (hc:0<c) (hd:c<=d):a/d<=a/c:=by
 rw [Int.le_ediv_iff_mul_le hc];have h1:0<=a/d:=Int.ediv_nonneg ha (by omega);have h2:a/d*c<=a/d*d:=Int.mul_le_mul_of_nonneg_left hd h1;have h3:a/d*d<=a:=Int.ediv_mul_le a (by omega);omega
theorem jf0 {a b c d:Int} (h0:0<=a) (hab:a<=b) (hc:0<c) (hd:c<=d):a/d<=b/c:=
 Int.le_trans (Int.ediv_le_ediv (by omega) hab) (kw3 (by omega) hc hd)
theorem zo5 (k:Nat):(0:Int)<2^k:=Int.pow_pos (by omega)
theorem qa5 {j k:Nat} (h:j<=k):(2:Int)^j<=2^k:=by
 have:=Nat.pow_le_pow_right (n:=2) (by decide) h;have e: ∀n:Nat,(2:Int)^n=((2^n:Nat):Int):=fun n=>by simp
 rw [e,e];omega
theorem vi9 {n:Int} (hn:0<=n): ∃j:Nat,vd5 n=((2^j:Nat):Int)-1/\n.toNat<2^j/\ ∀k:Nat,n.toNat<2^k->j<=k:=by
 unfold vd5;by_cases h0:n=0
 ·subst h0;exact ⟨0,by simp,by decide,fun k _=>Nat.zero_le k⟩
 ·rw [if_neg h0];refine ⟨Nat.log2 n.toNat+1,rfl,(Nat.log2_lt (by omega)).1 (Nat.lt_succ_self _),fun k hk=>?_⟩;have:=(Nat.log2_lt (n:=n.toNat) (k:=k) (by omega)).2 hk;omega
theorem jl2 {p q:Int}: ∃j:Nat,yr6 p q=((2^j:Nat):Int)-1/\p.toNat<2^j/\q.toNat<2^j/\ ∀k:Nat,p.toNat<2^k->q.toNat<2^k->j<=k:=by
 obtain ⟨j,h1,h2,h3⟩:=vi9 (n:=((p.toNat|||q.toNat:Nat):Int)) (by omega);rw [Z1] at h2 h3;exact ⟨j,h1,Nat.lt_of_le_of_lt Nat.left_le_or h2,Nat.lt_of_le_of_lt Nat.right_le_or h2,fun k hp hq=>h3 k (Nat.or_lt_two_pow hp hq)⟩
theorem qu6 {p q a b:Int} (hp:a<=p) (hq:b<=q) {x:Nat} (hx: ∀k:Nat,a.toNat<2^k->b.toNat<2^k->x<2^k):(x:Int)<=yr6 p q:=by
 obtain ⟨j,h1,h2,h3,_⟩:=jl2 (p:=p) (q:=q);have:=hx j (by omega) (by omega);omega
theorem jy3 {nw:Bool} {p q:Int} (hp:0<=p/\p<=g9 nw) (hq:0<=q/\q<=g9 nw):max p q<=yr6 p q/\yr6 p q<=g9 nw:=by
 obtain ⟨j,h1,h2,h3,h4⟩:=jl2 (p:=p) (q:=q);have hm:=yk0 nw;have e:(2:Int)^zf3 nw=((2^zf3 nw:Nat):Int):=by simp
 have:=Nat.pow_le_pow_right (n:=2) (by decide) (h4 (zf3 nw) (by omega) (by omega));omega
theorem jq1 {nw:Bool} {p:Int} {s:Nat} (hp:0<=p/\p<=g9 nw) (hs:s<zf3 nw):0<=yx3 nw p s/\yx3 nw p s<=g9 nw:=by
 have hm:=yk0 nw;have e:(2:Int)^zf3 nw=((2^zf3 nw:Nat):Int):=by simp
 have:=gy4 (z:=zf3 nw) (a:=p.toNat) (s:=s) (b:=decide (g9 nw<2*p)) (by omega) hs;unfold yx3;omega
theorem yz5 {nw:Bool} {p q:Int} {s:Nat} (hp:0<=p/\p<=q) (hq:q<=g9 nw) (hs:s<zf3 nw) (hb:g9 nw<2*p↔g9 nw<2*q):yx3 nw p s<=yx3 nw q s:=by
 have hm:=yk0 nw;have e:(2:Int)^zf3 nw=((2^zf3 nw:Nat):Int):=by simp
 unfold yx3;rw [yt6 (by omega) hs,yt6 (by omega) hs,show decide (g9 nw<2*p)=decide (g9 nw<2*q) from by rw [Bool.eq_iff_iff,decide_eq_true_eq,decide_eq_true_eq];exact hb];have:=Nat.div_le_div_right (c:=2^s) (show p.toNat<=q.toNat by omega);omega
theorem kn2 {nw:Bool} {op p q x:Int} (hop:1<=op/\op<=13) (hp:0<=p/\p<=g9 nw) (hq:0<=q/\q<=g9 nw) (h:ve6 nw op p q=some x):0<=x/\x<=g9 nw:=by
 have hm:=zw4 nw;have hmp:=yk0 nw;have e:(2:Int)^zf3 nw=((2^zf3 nw:Nat):Int):=by simp
 have hN: ∀z:Int,0<=z%(g9 nw+1)/\z%(g9 nw+1)<=g9 nw:=fun z=>by
  have h1:=Int.emod_nonneg z (show g9 nw+1≠0 by omega);have h2:=Int.emod_lt_of_pos z (show 0<g9 nw+1 by omega);omega
 have hh:op=1\/op=2\/op=3\/op=4\/op=5\/op=6\/op=7\/op=8\/op=9\/op=10\/op=11\/op=12\/op=13:=by omega
 have hpn:p.toNat<2^zf3 nw:=by omega
 have hqn:q.toNat<2^zf3 nw:=by omega
 have hdv: ∀y:Int,0<=y->0<=p/y/\p/y<=p:=fun y hy=>⟨Int.ediv_nonneg hp.1 hy,Int.ediv_le_self _ hp.1⟩;rcases hh with rfl|rfl|rfl|rfl|rfl|rfl|rfl|rfl|rfl|rfl|rfl|rfl|rfl
 ·obtain rfl:_=x:=X5 h;exact hN _
 ·obtain rfl:_=x:=X5 h;exact hN _
 ·obtain rfl:_=x:=X5 h;exact hN _
 ·have h:(if q=0 then none else some (p/q))=some x:=h;split at h
  ·cases h
  ·obtain rfl:_=x:=X5 h;have:=hdv q hq.1;omega
 ·have h:(if q=0 then none else some (p%q))=some x:=h;split at h
  ·cases h
  ·obtain rfl:_=x:=X5 h;have h1:=Int.emod_nonneg p (show q≠0 by omega);have h2:=Int.emod_lt_of_pos p (show 0<q by omega);omega
 ·obtain rfl:((p.toNat&&&q.toNat:Nat):Int)=x:=X5 h;have:p.toNat&&&q.toNat<=p.toNat:=Nat.and_le_left;omega
 ·obtain rfl:((p.toNat|||q.toNat:Nat):Int)=x:=X5 h;have:=Nat.or_lt_two_pow hpn hqn;omega
 ·obtain rfl:((p.toNat^^^q.toNat:Nat):Int)=x:=X5 h;have:=Nat.xor_lt_two_pow hpn hqn;omega
 ·obtain rfl:_=x:=X5 h;exact hN _
 ·obtain rfl:p/2^shN nw q=x:=X5 h;have:=hdv (2^shN nw q) (Int.le_of_lt (zo5 _));omega
 ·obtain rfl:_=x:=X5 h;exact jq1 hp (jf6 nw q)
 ·obtain rfl:q=x:=X5 h;exact hq
 ·obtain rfl:_=x:=X5 h;exact hN _
theorem wc0 {M a b c d p q:Int} (hM:M=4294967295\/M=18446744073709551615) (h0:0<=a/\b<=M/\0<=c/\d<=M) (hp:a<=p/\p<=b) (hq:c<=q/\q<=d) (hc:d<=M-b\/c>M-a):
  (a+c)%(M+1)<=(p+q)%(M+1)/\(p+q)%(M+1)<=(b+d)%(M+1):=by rcases hM with rfl|rfl<;>omega
theorem gm2 {M a b c d p q:Int} (hM:M=4294967295\/M=18446744073709551615) (h0:0<=a/\b<=M/\0<=c/\d<=M) (hp:a<=p/\p<=b) (hq:c<=q/\q<=d) (hc:a>=d\/b<c):
  (a-d)%(M+1)<=(p-q)%(M+1)/\(p-q)%(M+1)<=(b-c)%(M+1):=by rcases hM with rfl|rfl<;>omega
theorem gs3 {M a b p:Int} (hM:M=4294967295\/M=18446744073709551615) (h0:0<a/\b<=M) (hp:a<=p/\p<=b):
  (0-b)%(M+1)<=(0-p)%(M+1)/\(0-p)%(M+1)<=(0-a)%(M+1)/\0<=(0-p)%(M+1)/\(0-p)%(M+1)<=M:=by rcases hM with rfl|rfl<;>omega
theorem qk3 {nw:Bool} {op:Int} (hop:1<=op/\op<=13) {u v r:q9} (hu:SpOk nw u) (hv:SpOk nw v) (hr:vk4 nw op u v=some r):
  SpOk nw r/\ ∀p q x,Hs u p->Hs v q->ve6 nw op p q=some x->Hs r x:=by
 have hu1:=hu.lo;have hu2:=hu.le;have hu3:=hu.hi;have hv1:=hv.lo;have hv2:=hv.le;have hv3:=hv.hi;have hm:=zw4 nw;have hmp:=yk0 nw;have e:(2:Int)^zf3 nw=((2^zf3 nw:Nat):Int):=by simp
 have hh:op=1\/op=2\/op=3\/op=4\/op=5\/op=6\/op=7\/op=8\/op=9\/op=10\/op=11\/op=12\/op=13:=by omega
 have hM:=kq0 nw;rcases hh with rfl|rfl|rfl|rfl|rfl|rfl|rfl|rfl|rfl|rfl|rfl|rfl|rfl
 ·have hr:(if v.Hi<=g9 nw-u.Hi\/v.Lo>g9 nw-u.Lo then some (⟨(u.Lo+v.Lo)%(g9 nw+1),(u.Hi+v.Hi)%(g9 nw+1)⟩:q9) else none)=some r:=hr;split at hr
  ·rename_i hc;obtain rfl:=X5 hr;have key: ∀p q,Hs u p->Hs v q->(u.Lo+v.Lo)%(g9 nw+1)<=(p+q)%(g9 nw+1)/\(p+q)%(g9 nw+1)<=(u.Hi+v.Hi)%(g9 nw+1):=
    fun p q hp hq=>wc0 hM ⟨hu1,hu3,hv1,hv3⟩ hp hq hc
   refine ⟨⟨?_,(Int.le_trans (key u.Lo v.Lo ⟨Int.le_refl _,hu2⟩ ⟨Int.le_refl _,hv2⟩).2 (Int.le_refl _)),?_⟩,fun p q x hp hq hx=>?_⟩
   ·exact Int.emod_nonneg _ (by omega)
   ·have:=Int.emod_lt_of_pos (u.Hi+v.Hi) (show 0<g9 nw+1 by omega);show (u.Hi+v.Hi)%(g9 nw+1)<=g9 nw;omega
   ·obtain rfl:(p+q)%(g9 nw+1)=x:=X5 hx;exact key p q hp hq
  ·cases hr
 ·have hr:(if u.Lo>=v.Hi\/u.Hi<v.Lo then some (⟨(u.Lo-v.Hi)%(g9 nw+1),(u.Hi-v.Lo)%(g9 nw+1)⟩:q9) else none)=some r:=hr;split at hr
  ·rename_i hc;obtain rfl:=X5 hr;have key: ∀p q,Hs u p->Hs v q->(u.Lo-v.Hi)%(g9 nw+1)<=(p-q)%(g9 nw+1)/\(p-q)%(g9 nw+1)<=(u.Hi-v.Lo)%(g9 nw+1):=
    fun p q hp hq=>gm2 hM ⟨hu1,hu3,hv1,hv3⟩ hp hq hc
   refine ⟨⟨?_,(Int.le_trans (key u.Lo v.Hi ⟨Int.le_refl _,hu2⟩ ⟨hv2,Int.le_refl _⟩).2 (Int.le_refl _)),?_⟩,fun p q x hp hq hx=>?_⟩
   ·exact Int.emod_nonneg _ (by omega)
   ·have:=Int.emod_lt_of_pos (u.Hi-v.Lo) (show 0<g9 nw+1 by omega);show (u.Hi-v.Lo)%(g9 nw+1)<=g9 nw;omega
   ·obtain rfl:(p-q)%(g9 nw+1)=x:=X5 hx;exact key p q hp hq
  ·cases hr
 ·have hr:(if u.Hi*v.Hi<=g9 nw then some (⟨u.Lo*v.Lo,u.Hi*v.Hi⟩:q9) else none)=some r:=hr;split at hr
  ·rename_i hc;obtain rfl:=X5 hr;have key: ∀p q,Hs u p->Hs v q->u.Lo*v.Lo<=p*q/\p*q<=u.Hi*v.Hi:=fun p q hp hq=>
    ⟨Int.mul_le_mul hp.1 hq.1 hv1 (by have:=hp.1;omega),Int.mul_le_mul hp.2 hq.2 (by have:=hq.1;omega) (by omega)⟩
   refine ⟨⟨Int.mul_nonneg hu1 hv1,(key u.Lo v.Lo ⟨Int.le_refl _,hu2⟩ ⟨Int.le_refl _,hv2⟩).2,hc⟩,fun p q x hp hq hx=>?_⟩;obtain rfl:(p*q)%(g9 nw+1)=x:=X5 hx;have:=key p q hp hq;have h0:0<=u.Lo*v.Lo:=Int.mul_nonneg hu1 hv1;rw [Int.emod_eq_of_lt (by omega) (by omega)];exact this
  ·cases hr
 ·obtain rfl:(⟨u.Lo/max v.Hi 1,u.Hi/max v.Lo 1⟩:q9)=r:=X5 hr;have h1:0<=u.Lo/max v.Hi 1:=Int.ediv_nonneg hu1 (by omega);have h2:u.Hi/max v.Lo 1<=u.Hi:=Int.ediv_le_self _ (by omega);refine ⟨⟨h1,jf0 hu1 hu2 (by omega) (by omega),by show u.Hi/max v.Lo 1<=_;omega⟩,fun p q x hp hq hx=>?_⟩;have hx:(if q=0 then none else some (p/q))=some x:=hx;split at hx
  ·cases hx
  ·obtain rfl:=X5 hx;have:=hp.1;have:=hp.2;have:=hq.1;have:=hq.2;exact ⟨jf0 hu1 (by omega) (by omega) (by omega),jf0 (by omega) (by omega) (by omega) (by omega)⟩
 ·obtain rfl:(if u.Hi<max v.Lo 1 then u else (⟨0,min u.Hi (max v.Hi 1-1)⟩:q9))=r:=X5 hr;have hval: ∀p q x,Hs u p->Hs v q->ve6 nw 5 p q=some x->0<=x/\x<=p/\x<q/\(p<q->x=p):=by
   intro p q x hp hq hx;have hx:(if q=0 then none else some (p%q))=some x:=hx;split at hx
   ·cases hx
   ·obtain rfl:=X5 hx;have h1:=hp.1;have h2:=hq.1;have h3:=Int.emod_nonneg p (show q≠0 by omega);have h4:=Int.emod_lt_of_pos p (show 0<q by omega);have h5:p%q<=p:=by
     have:=Int.emod_def p q;have h6:0<=q*(p/q):=Int.mul_nonneg (by omega) (Int.ediv_nonneg (by omega) (by omega));omega
    exact ⟨h3,h5,h4,fun h=>Int.emod_eq_of_lt (by omega) h⟩
  split
  ·rename_i hc;refine ⟨hu,fun p q x hp hq hx=>?_⟩;obtain ⟨h1,h2,h3,h4⟩:=hval p q x hp hq hx;have:=hp.2;have:=hq.1;rw [h4 (by omega)];exact hp
  ·refine ⟨⟨Int.le_refl _,by show (0:Int)<=min u.Hi (max v.Hi 1-1);omega,by show min u.Hi (max v.Hi 1-1)<=_;omega⟩,fun p q x hp hq hx=>?_⟩;obtain ⟨h1,h2,h3,h4⟩:=hval p q x hp hq hx;have:=hp.2;have:=hq.2;exact ⟨h1,by show x<=min u.Hi (max v.Hi 1-1);omega⟩
 ·obtain rfl:(if u.Lo=u.Hi/\v.Lo=v.Hi then (⟨((u.Lo.toNat&&&v.Lo.toNat:Nat):Int),((u.Lo.toNat&&&v.Lo.toNat:Nat):Int)⟩:q9) else ⟨0,min u.Hi v.Hi⟩)=r:=X5 hr;have hle: ∀a b:Nat,a&&&b<=a/\a&&&b<=b:=fun a b=>⟨Nat.and_le_left,Nat.and_le_right⟩;split
  ·rename_i hc;have h3:=hle u.Lo.toNat v.Lo.toNat;refine ⟨⟨by show (0:Int)<=((_:Nat):Int);omega,Int.le_refl _,by show ((u.Lo.toNat&&&v.Lo.toNat:Nat):Int)<=_;omega⟩,fun p q x hp hq hx=>?_⟩;obtain rfl:((p.toNat&&&q.toNat:Nat):Int)=x:=X5 hx;have h1:p=u.Lo:=by have:=hp.1;have:=hp.2;omega
   have h2:q=v.Lo:=by have:=hq.1;have:=hq.2;omega
   subst h1;subst h2;exact ⟨Int.le_refl _,Int.le_refl _⟩
  ·refine ⟨⟨Int.le_refl _,by show (0:Int)<=min u.Hi v.Hi;omega,by show min u.Hi v.Hi<=_;omega⟩,fun p q x hp hq hx=>?_⟩;obtain rfl:((p.toNat&&&q.toNat:Nat):Int)=x:=X5 hx;have h3:=hle p.toNat q.toNat;have:=hp.1;have:=hp.2;have:=hq.1;have:=hq.2;exact ⟨by show (0:Int)<=((_:Nat):Int);omega,by show ((p.toNat&&&q.toNat:Nat):Int)<=min u.Hi v.Hi;omega⟩
 ·obtain rfl:(if u.Lo=u.Hi/\v.Lo=v.Hi then (⟨((u.Lo.toNat|||v.Lo.toNat:Nat):Int),((u.Lo.toNat|||v.Lo.toNat:Nat):Int)⟩:q9) else ⟨max u.Lo v.Lo,yr6 u.Hi v.Hi⟩)=r:=X5 hr;have hf:=jy3 (nw:=nw) ⟨Int.le_trans hu1 hu2,hu3⟩ ⟨Int.le_trans hv1 hv2,hv3⟩;split
  ·rename_i hc;have h3:=Nat.or_lt_two_pow (n:=zf3 nw) (show u.Lo.toNat<_ by omega) (show v.Lo.toNat<_ by omega);refine ⟨⟨by show (0:Int)<=((_:Nat):Int);omega,Int.le_refl _,by show ((u.Lo.toNat|||v.Lo.toNat:Nat):Int)<=_;omega⟩,fun p q x hp hq hx=>?_⟩;obtain rfl:((p.toNat|||q.toNat:Nat):Int)=x:=X5 hx;have h1:p=u.Lo:=by have:=hp.1;have:=hp.2;omega
   have h2:q=v.Lo:=by have:=hq.1;have:=hq.2;omega
   subst h1;subst h2;exact ⟨Int.le_refl _,Int.le_refl _⟩
  ·refine ⟨⟨by show (0:Int)<=max u.Lo v.Lo;omega,by show max u.Lo v.Lo<=yr6 u.Hi v.Hi;omega,hf.2⟩,fun p q x hp hq hx=>?_⟩;obtain rfl:((p.toNat|||q.toNat:Nat):Int)=x:=X5 hx;have h3:p.toNat<=p.toNat|||q.toNat:=Nat.left_le_or;have h4:q.toNat<=p.toNat|||q.toNat:=Nat.right_le_or;have:=hp.1;have:=hq.1;exact ⟨by show max u.Lo v.Lo<=((p.toNat|||q.toNat:Nat):Int);omega,qu6 hp.2 hq.2 fun k h1 h2=>Nat.or_lt_two_pow h1 h2⟩
 ·obtain rfl:(if u.Lo=u.Hi/\v.Lo=v.Hi then (⟨((u.Lo.toNat^^^v.Lo.toNat:Nat):Int),((u.Lo.toNat^^^v.Lo.toNat:Nat):Int)⟩:q9) else ⟨0,yr6 u.Hi v.Hi⟩)=r:=X5 hr;have hf:=jy3 (nw:=nw) ⟨Int.le_trans hu1 hu2,hu3⟩ ⟨Int.le_trans hv1 hv2,hv3⟩;split
  ·rename_i hc;have h3:=Nat.xor_lt_two_pow (n:=zf3 nw) (show u.Lo.toNat<_ by omega) (show v.Lo.toNat<_ by omega);refine ⟨⟨by show (0:Int)<=((_:Nat):Int);omega,Int.le_refl _,by show ((u.Lo.toNat^^^v.Lo.toNat:Nat):Int)<=_;omega⟩,fun p q x hp hq hx=>?_⟩;obtain rfl:((p.toNat^^^q.toNat:Nat):Int)=x:=X5 hx;have h1:p=u.Lo:=by have:=hp.1;have:=hp.2;omega
   have h2:q=v.Lo:=by have:=hq.1;have:=hq.2;omega
   subst h1;subst h2;exact ⟨Int.le_refl _,Int.le_refl _⟩
  ·refine ⟨⟨Int.le_refl _,by show (0:Int)<=yr6 u.Hi v.Hi;omega,hf.2⟩,fun p q x hp hq hx=>?_⟩;obtain rfl:((p.toNat^^^q.toNat:Nat):Int)=x:=X5 hx;exact ⟨by show (0:Int)<=((_:Nat):Int);omega,qu6 hp.2 hq.2 fun k h1 h2=>Nat.xor_lt_two_pow h1 h2⟩
 ·have hr:(if v.Lo=v.Hi/\u.Hi*2^shN nw v.Lo<=g9 nw then some (⟨u.Lo*2^shN nw v.Lo,u.Hi*2^shN nw v.Lo⟩:q9) else none)=some r:=hr;split at hr
  ·rename_i hc;obtain rfl:=X5 hr;have hp2:=zo5 (shN nw v.Lo);refine ⟨⟨Int.mul_nonneg hu1 (by omega),Int.mul_le_mul_of_nonneg_right hu2 (by omega),hc.2⟩,fun p q x hp hq hx=>?_⟩;obtain rfl:(p*2^shN nw q)%(g9 nw+1)=x:=X5 hx;have h2:q=v.Lo:=by have:=hq.1;have:=hq.2;omega
   subst h2;have h3:=Int.mul_le_mul_of_nonneg_right hp.1 (show (0:Int)<=2^shN nw v.Lo by omega);have h4:=Int.mul_le_mul_of_nonneg_right hp.2 (show (0:Int)<=2^shN nw v.Lo by omega);have h5:0<=u.Lo*2^shN nw v.Lo:=Int.mul_nonneg hu1 (by omega);rw [Int.emod_eq_of_lt (by omega) (by omega)];exact ⟨h3,h4⟩
  ·cases hr
 ·obtain rfl:(if v.Lo=v.Hi then (⟨u.Lo/2^shN nw v.Lo,u.Hi/2^shN nw v.Lo⟩:q9) else if v.Hi>=zf3 nw then ⟨0,u.Hi⟩ else ⟨u.Lo/2^v.Hi.toNat,u.Hi/2^v.Lo.toNat⟩)=r:=X5 hr;have hdv: ∀(a:Int) (k:Nat),0<=a->0<=a/2^k/\a/2^k<=a:=fun a k ha=>⟨Int.ediv_nonneg ha (Int.le_of_lt (zo5 _)),Int.ediv_le_self _ ha⟩;split
  ·have h1:=hdv u.Lo (shN nw v.Lo) hu1;have h2:=hdv u.Hi (shN nw v.Lo) (by omega);refine ⟨⟨h1.1,Int.ediv_le_ediv (zo5 _) hu2,by show u.Hi/2^shN nw v.Lo<=_;omega⟩,fun p q x hp hq hx=>?_⟩;obtain rfl:p/2^shN nw q=x:=X5 hx;have h2:q=v.Lo:=by have:=hq.1;have:=hq.2;omega
   subst h2;exact ⟨Int.ediv_le_ediv (zo5 _) hp.1,Int.ediv_le_ediv (zo5 _) hp.2⟩
  ·split
   ·refine ⟨⟨Int.le_refl _,by show (0:Int)<=u.Hi;omega,hu3⟩,fun p q x hp hq hx=>?_⟩;obtain rfl:p/2^shN nw q=x:=X5 hx;have:=hdv p (shN nw q) (by have:=hp.1;omega);have:=hp.2;exact ⟨by show (0:Int)<=p/2^shN nw q;omega,by show p/2^shN nw q<=u.Hi;omega⟩
   ·have h1:=hdv u.Lo v.Hi.toNat hu1;have h2:=hdv u.Hi v.Lo.toNat (by omega);refine ⟨⟨h1.1,jf0 hu1 hu2 (zo5 _) (qa5 (by omega)),by show u.Hi/2^v.Lo.toNat<=_;omega⟩,fun p q x hp hq hx=>?_⟩;obtain rfl:p/2^shN nw q=x:=X5 hx;have hq1:=hq.1;have hq2:=hq.2;have hs:shN nw q=q.toNat:=by unfold shN;rw [Int.emod_eq_of_lt (by omega) (by omega)]
    rw [hs];exact ⟨jf0 hu1 hp.1 (zo5 _) (qa5 (by omega)),jf0 (by have:=hp.1;omega) hp.2 (zo5 _) (qa5 (by omega))⟩
 ·have hr:(if v.Lo=v.Hi/\(g9 nw<2*u.Lo↔g9 nw<2*u.Hi) then some (⟨yx3 nw u.Lo (shN nw v.Lo),yx3 nw u.Hi (shN nw v.Lo)⟩:q9) else none)=some r:=hr;split at hr
  ·rename_i hc;obtain rfl:=X5 hr;have hlt:=jf6 nw v.Lo;refine ⟨⟨(jq1 ⟨hu1,by omega⟩ hlt).1,yz5 ⟨hu1,hu2⟩ hu3 hlt hc.2,(jq1 ⟨by omega,hu3⟩ hlt).2⟩,fun p q x hp hq hx=>?_⟩;obtain rfl:yx3 nw p (shN nw q)=x:=X5 hx;have h2:q=v.Lo:=by have:=hq.1;have:=hq.2;omega
   subst h2;have hp1:=hp.1;have hp2:=hp.2;exact ⟨yz5 ⟨hu1,hp1⟩ (by omega) hlt (by omega),yz5 ⟨by omega,hp2⟩ hu3 hlt (by omega)⟩
  ·cases hr
 ·obtain rfl:v=r:=X5 hr;refine ⟨hv,fun p q x hp hq hx=>?_⟩;obtain rfl:q=x:=X5 hx;exact hq
 ·have hr:(if u.Hi=0 then some u else if u.Lo>0 then some (⟨(0-u.Hi)%(g9 nw+1),(0-u.Lo)%(g9 nw+1)⟩:q9) else none)=some r:=hr;have hval: ∀p q x,ve6 nw 13 p q=some x->x=(0-p)%(g9 nw+1):=fun p q x hx=>(X5 hx).symm;split at hr
  ·rename_i hc;obtain rfl:=X5 hr;refine ⟨hu,fun p q x hp hq hx=>?_⟩;have h1:p=0:=by have:=hp.1;have:=hp.2;omega
   rw [hval p q x hx,h1,show (0:Int)-0=0 from rfl,Int.zero_emod];exact ⟨by omega,by omega⟩
  ·split at hr
   ·rename_i hc hc2;obtain rfl:=X5 hr;have key: ∀p,Hs u p->(0-u.Hi)%(g9 nw+1)<=(0-p)%(g9 nw+1)/\(0-p)%(g9 nw+1)<=(0-u.Lo)%(g9 nw+1)/\0<=(0-p)%(g9 nw+1)/\(0-p)%(g9 nw+1)<=g9 nw:=
     fun p hp=>gs3 hM ⟨hc2,hu3⟩ hp
    refine ⟨⟨(key u.Hi ⟨hu2,Int.le_refl _⟩).2.2.1,(key u.Hi ⟨hu2,Int.le_refl _⟩).2.1,(key u.Lo ⟨Int.le_refl _,hu2⟩).2.2.2⟩,fun p q x hp hq hx=>?_⟩;rw [hval p q x hx];exact ⟨(key p hp).1,(key p hp).2.1⟩
   ·cases hr
theorem vn9 {s:q9} {nw:Bool} {p:Int} (h:u9 s.Lo/\u9 s.Hi) (hp:Hs s p):Hs (qf s nw) (qu8 nw p):=by
 cases nw with
 |false=>exact hp
 |true=>
  have h1:=hp.1;have h2:=hp.2;unfold qf;simp only [Bool.not_true,Bool.false_eq_true,if_false,gi8,yg5 h.1,yg5 h.2];show Hs _ (p%4294967296);split
  ·exact ⟨by show (0:Int)<=_;omega,by show p%4294967296<=(4294967295:Int);omega⟩
  ·rename_i hq;have hq:s.Lo/4294967296=s.Hi/4294967296:=by simpa using hq
   exact ⟨by show s.Lo%4294967296<=_;omega,by show _<=s.Hi%4294967296;omega⟩
theorem kk8 {op:Int} (hop:1<=op/\op<=13) {nw:Bool} {a b:q9} (ha:u9 a.Lo/\u9 a.Hi) (hb:u9 b.Lo/\u9 b.Hi) (hla:a.Lo<=a.Hi) (hlb:b.Lo<=b.Hi):
  SpOk nw (span_Do op nw a b)/\ ∀p q,u9 p->u9 q->Hs a p->Hs b q->(zv2 op nw p q).2=0->Hs (span_Do op nw a b) (zv2 op nw p q).1:=by
 have hu:=zv7 (nw:=nw) ha hla;have hv:=zv7 (nw:=nw) hb hlb;rw [zw5,if_pos ⟨hop,hla,hlb⟩,ka1 hop hu hv];have hal: ∀p q,u9 p->u9 q->(zv2 op nw p q).2=0->ve6 nw op (qu8 nw p) (qu8 nw q)=some (zv2 op nw p q).1:=by
  intro p q hp hq h;rw [jw3 hop hp hq] at h⊢;cases hx:ve6 nw op (qu8 nw p) (qu8 nw q) with
  |none=>rw [hx] at h;exact absurd h (by decide)
  |some x=>rfl
 cases hr:vk4 nw op (qf a nw) (qf b nw) with
 |none=>
  refine ⟨⟨Int.le_refl _,(zw4 nw).1,Int.le_refl _⟩,fun p q hp hq _ _ h=>?_⟩;exact kn2 hop (vo4 hp) (vo4 hq) (hal p q hp hq h)
 |some r=>
  obtain ⟨h1,h2⟩:=qk3 hop hu hv hr;exact ⟨h1,fun p q hp hq hap hbq h=>h2 _ _ _ (vn9 ha hap) (vn9 hb hbq) (hal p q hp hq h)⟩
end Go.Y
namespace Go.Y
open Go.RowKit Go.V Go.X
theorem zo4 {R:Type} (c:Bool) (x y:Option R):q7 c x y=if c=true then x else y:=rfl
theorem j8 {R:Type} (x y:Option R):q7 true x y=x:=rfl
theorem j6 {R:Type} (x y:Option R):q7 false x y=y:=rfl
theorem j4 {α β:Type} (a:α) (f:α->Option β):j7 (some a) f=f a:=rfl
theorem zb9 {R:Type} (c:Bool) (x y:R):q7 c (some x) (some y)=some (if c=true then x else y):=by cases c<;>rfl
theorem zv5 (c x:Bool):q7 c (some x) (some false)=some (c&&x):=by cases c<;>rfl
theorem ze0 {x:Int} (h: -9223372036854775808<=x/\x<=9223372036854775807):IntKind.i64.wrap x=x:=by
 unfold IntKind.wrap;simp [IntKind.bits,IntKind.signed];omega
theorem zk9 {x:Int} (h:0<=x/\x<=18446744073709551615):IntKind.u64.wrap x=x:=by
 unfold IntKind.wrap;simp [IntKind.bits,IntKind.signed];omega
theorem loop {α:Type} (f:Nat->Nat->Option α) (c len:Nat) (r:Option α) (hstep: ∀n k,k<len->f (n+c) k=f n (k+1)) (hend: ∀n,f (n+1) len=r): ∀m k n,k+m=len->c*m+1<=n->f n k=r
 |0,k,n,hk,hn=>by
  obtain ⟨n',rfl⟩: ∃n',n=n'+1:=⟨n-1,by omega⟩;have:k=len:=by omega
  subst this;exact hend n'
 |m+1,k,n,hk,hn=>by
  obtain ⟨n',rfl⟩: ∃n',n=n'+c:=⟨n-c,by rw [Nat.mul_succ] at hn;omega⟩;rw [hstep n' k (by omega)];exact loop f c len r hstep hend m (k+1) n' (by omega) (by rw [Nat.mul_succ] at hn;omega)
theorem ve7 {α:Type} (f:Nat->Nat->Option α) (c len:Nat) (r:Option α) (hstep: ∀n k,k<len->f (n+c) k=f n (k+1)) (hend: ∀n,f (n+1) len=r) (n:Nat) (hn:c*len+1<=n):f n 0=r:=loop f c len r hstep hend len 0 n (by omega) hn
theorem wh5 {α:Type} (f:Nat->Nat->Option α) (c len:Nat) (r:Nat->Option α) (hstep: ∀n k,k<len->f (n+c) k=r k\/(f (n+c) k=f n (k+1)/\r k=r (k+1))) (hend: ∀n,f (n+1) len=r len): ∀m k n,k+m=len->c*m+1<=n->f n k=r k
 |0,k,n,hk,hn=>by
  obtain ⟨n',rfl⟩: ∃n',n=n'+1:=⟨n-1,by omega⟩;have:k=len:=by omega
  subst this;exact hend n'
 |m+1,k,n,hk,hn=>by
  obtain ⟨n',rfl⟩: ∃n',n=n'+c:=⟨n-c,by rw [Nat.mul_succ] at hn;omega⟩;rcases hstep n' k (by omega) with h|⟨h1,h2⟩
  ·exact h
  ·rw [h1,h2];exact wh5 f c len r hstep hend m (k+1) n' (by omega) (by rw [Nat.mul_succ] at hn;omega)
theorem nx {k len:Nat} (h:k<len) (hl:len<=1000000000):IntKind.i64.wrap ((k:Int)+1)=((k+1:Nat):Int):=by rw [ze0 (by omega)];omega
end Go.Y
