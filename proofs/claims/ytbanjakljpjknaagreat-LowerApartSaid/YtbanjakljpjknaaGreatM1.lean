import Derived.Test.YtbanjakljpjknaaGreatTb
import Derived.Test.YtbanjakljpjknaaGreatAB
set_option linter.defProp false
namespace Go.Y
open Go.RowKit Go.V Go.X Go.Proofs
abbrev v9:=Go.X.Span
instance:Inhabited v9:=⟨⟨0,0⟩⟩
structure Twork where
 a:v9
 b:v9
 narrow:Bool
 most:Int
 size:Int
def yd5 (a0:Int):v9:=(⟨a0,a0⟩:v9)
def zj6 (a0:Bool):v9:=(if a0 then (⟨(0:Int),(4294967295:Int)⟩:v9) else (⟨(0:Int),(18446744073709551615:Int)⟩:v9))
def za0 (a0:v9):Bool:=decide (a0.Lo<=a0.Hi)
def jx8 (a0:v9) (a1:Int):Bool:=((decide (a0.Lo<=a1))&&(decide (a1<=a0.Hi)))
def ji4 (a0:v9) (a1:v9):Bool:=((decide (a1.Lo<=a0.Lo))&&(decide (a0.Hi<=a1.Hi)))
def zy6 (a0:v9) (a1:v9):v9:=(⟨(yi5 a0.Lo a1.Lo),(zq9 a0.Hi a1.Hi)⟩:v9)
def zh4 (a0:Bool):Option Unit:=(if (!a0) then none else some ())
def qg (a0:v9) (a1:Bool):v9:=(if (!a1) then a0 else (if ((ze0 .u64 a0.Lo (32:Int)) != (ze0 .u64 a0.Hi (32:Int))) then (zd5 (zj6 true) fun x39=>x39) else (⟨(zb4 .u64 a0.Lo (4294967295:Int)),(zb4 .u64 a0.Hi (4294967295:Int))⟩:v9)))
def qt (a0:v9):Bool:=(zd5 (yd5 a0.Lo) fun x13=>((a0.Lo==x13.Lo)&&(a0.Hi==x13.Hi)))
def qao (a0:Bool) (a1:v9) (a2:v9):Twork:=(if a0 then (⟨(qg a1 a0),(qg a2 a0),a0,(4294967295:Int),(32:Int)⟩:Twork) else (⟨(qg a1 a0),(qg a2 a0),a0,(18446744073709551615:Int),(64:Int)⟩:Twork))
def qab (a0:Twork):Bool:=(zd5 (qt a0.a) fun x13=>(x13&&(qt a0.b)))
def qbg (a0:Twork) (a1:Int) (a2:Int):v9:=(⟨(zb4 .u64 a1 a0.most),(zb4 .u64 a2 a0.most)⟩:v9)
def qae (a0:Twork) (a1:Int):Bool:=((zb4 .u64 (ze0 .u64 a1 (IntKind.u64.wrap (a0.size-(1:Int)))) (1:Int))==(1:Int))
def qav (a0:Twork) (a1:v9):Bool:=(zd5 (qae a0 a1.Lo) fun x24=>(zd5 (qae a0 a1.Hi) fun x27=>(x24 != x27)))
def kx6 (c0:Int) (c1:Int):Int:=(IntKind.u32.wrap (c0+c1))
def kx7 (c0:Int) (c1:Int):Int:=(IntKind.u32.wrap (c0-c1))
def kx8 (c0:Int) (c1:Int):Int:=(IntKind.u32.wrap (c0*c1))
def kx9 (c0:Int) (c1:Int):Int:=(IntKind.u32.wrap ((c0).tdiv c1))
def ky0 (c0:Int) (c1:Int):Int:=((c0).tmod c1)
def ky1 (c0:Int) (c1:Int):Int:=(zb4 .u32 c0 c1)
def ky2 (c0:Int) (c1:Int):Int:=(bOr .u32 c0 c1)
def ky3 (c0:Int) (c1:Int):Int:=(qw0 .u32 c0 c1)
def ky4 (c0:Int) (c1:Int) (c2:Int):Int:=(qi7 .u32 c0 ((c1).tmod c2))
def kh0 (c0:Int) (c1:Int) (c2:Int):Int:=(ze0 .u32 c0 ((c1).tmod c2))
def yq4 (c0:Int) (c1:Int) (c2:Int):Int:=(IntKind.u32.wrap (ze0 .i32 (IntKind.i32.wrap c0) ((c1).tmod c2)))
def kh1 (c0:Int):Int:=c0
def kh2 (c0:Int):Int:=(IntKind.u32.wrap (0-c0))
def qb1 (a0:Int) (a1:Int) (a2:Int) (a3:Int):(Int×Int):=(if (((a0==(4:Int))||(a0==(5:Int)))&&(a3==(0:Int))) then ((0:Int),(113:Int)) else (if (a0==(1:Int)) then (zd5 (kx6 a2 a3) fun x129=>(x129,(0:Int))) else (if (a0==(2:Int)) then (zd5 (kx7 a2 a3) fun x145=>(x145,(0:Int))) else (if (a0==(3:Int)) then (zd5 (kx8 a2 a3) fun x161=>(x161,(0:Int))) else (if (a0==(4:Int)) then (zd5 (kx9 a2 a3) fun x177=>(x177,(0:Int))) else (if (a0==(5:Int)) then (zd5 (ky0 a2 a3) fun x193=>(x193,(0:Int))) else (if (a0==(6:Int)) then (zd5 (ky1 a2 a3) fun x209=>(x209,(0:Int))) else (if (a0==(7:Int)) then (zd5 (ky2 a2 a3) fun x225=>(x225,(0:Int))) else (if (a0==(8:Int)) then (zd5 (ky3 a2 a3) fun x241=>(x241,(0:Int))) else (if (a0==(9:Int)) then (zd5 (ky4 a2 a3 a1) fun x258=>(x258,(0:Int))) else (if (a0==(10:Int)) then (zd5 (kh0 a2 a3 a1) fun x275=>(x275,(0:Int))) else (if (a0==(11:Int)) then (zd5 (yq4 a2 a3 a1) fun x292=>(x292,(0:Int))) else (if (a0==(12:Int)) then (zd5 (kh1 a3) fun x307=>(x307,(0:Int))) else (if (a0==(13:Int)) then (zd5 (kh2 a2) fun x322=>(x322,(0:Int))) else ((0:Int),(2:Int))))))))))))))))
def ky5 (c0:Int) (c1:Int):Int:=(IntKind.u64.wrap (c0+c1))
def ky6 (c0:Int) (c1:Int):Int:=(IntKind.u64.wrap (c0-c1))
def ky7 (c0:Int) (c1:Int):Int:=(IntKind.u64.wrap (c0*c1))
def ky8 (c0:Int) (c1:Int):Int:=(IntKind.u64.wrap ((c0).tdiv c1))
def ky9 (c0:Int) (c1:Int):Int:=((c0).tmod c1)
def kz0 (c0:Int) (c1:Int):Int:=(zb4 .u64 c0 c1)
def kz1 (c0:Int) (c1:Int):Int:=(bOr .u64 c0 c1)
def kz2 (c0:Int) (c1:Int):Int:=(qw0 .u64 c0 c1)
def kz3 (c0:Int) (c1:Int) (c2:Int):Int:=(qi7 .u64 c0 ((c1).tmod c2))
def kh3 (c0:Int) (c1:Int) (c2:Int):Int:=(ze0 .u64 c0 ((c1).tmod c2))
def kh4 (c0:Int) (c1:Int) (c2:Int):Int:=(IntKind.u64.wrap (ze0 .i64 (IntKind.i64.wrap c0) ((c1).tmod c2)))
def kh5 (c0:Int):Int:=c0
def kh6 (c0:Int):Int:=(IntKind.u64.wrap (0-c0))
def qs0 (a0:Int) (a1:Int) (a2:Int) (a3:Int):(Int×Int):=(if (((a0==(4:Int))||(a0==(5:Int)))&&(a3==(0:Int))) then ((0:Int),(113:Int)) else (if (a0==(1:Int)) then (zd5 (ky5 a2 a3) fun x129=>(x129,(0:Int))) else (if (a0==(2:Int)) then (zd5 (ky6 a2 a3) fun x145=>(x145,(0:Int))) else (if (a0==(3:Int)) then (zd5 (ky7 a2 a3) fun x161=>(x161,(0:Int))) else (if (a0==(4:Int)) then (zd5 (ky8 a2 a3) fun x177=>(x177,(0:Int))) else (if (a0==(5:Int)) then (zd5 (ky9 a2 a3) fun x193=>(x193,(0:Int))) else (if (a0==(6:Int)) then (zd5 (kz0 a2 a3) fun x209=>(x209,(0:Int))) else (if (a0==(7:Int)) then (zd5 (kz1 a2 a3) fun x225=>(x225,(0:Int))) else (if (a0==(8:Int)) then (zd5 (kz2 a2 a3) fun x241=>(x241,(0:Int))) else (if (a0==(9:Int)) then (zd5 (kz3 a2 a3 a1) fun x258=>(x258,(0:Int))) else (if (a0==(10:Int)) then (zd5 (kh3 a2 a3 a1) fun x275=>(x275,(0:Int))) else (if (a0==(11:Int)) then (zd5 (kh4 a2 a3 a1) fun x292=>(x292,(0:Int))) else (if (a0==(12:Int)) then (zd5 (kh5 a3) fun x307=>(x307,(0:Int))) else (if (a0==(13:Int)) then (zd5 (kh6 a2) fun x322=>(x322,(0:Int))) else ((0:Int),(2:Int))))))))))))))))
def jy3 (a0:Int) (a1:Bool) (a2:Int) (a3:Int):(Int×Int):=(if a1 then (zd5 (qb1 a0 (32:Int) (IntKind.u32.wrap a2) (IntKind.u32.wrap a3)) fun x7=>((x7.1),x7.2)) else (zd5 (qs0 a0 (64:Int) a2 a3) fun x19=>(x19.1,x19.2)))
def zs0 (a0:Twork):Option v9:=(ym3 (zh4 ((decide (a0.b.Hi<=(IntKind.u64.wrap (a0.most-a0.a.Hi))))||(decide (a0.b.Lo>(IntKind.u64.wrap (a0.most-a0.a.Lo)))))) (none) fun _=>(zd5 (qbg a0 (IntKind.u64.wrap (a0.a.Lo+a0.b.Lo)) (IntKind.u64.wrap (a0.a.Hi+a0.b.Hi))) fun x46=>some x46))
def zs4 (a0:Twork):Option v9:=(ym3 (zh4 ((decide (a0.a.Lo>=a0.b.Hi))||(decide (a0.a.Hi<a0.b.Lo)))) (none) fun _=>(zd5 (qbg a0 (IntKind.u64.wrap (a0.a.Lo-a0.b.Hi)) (IntKind.u64.wrap (a0.a.Hi-a0.b.Lo))) fun x46=>some x46))
def qcb (a0:Twork):v9:=(⟨(IntKind.u64.wrap ((a0.a.Lo).tdiv (zq9 a0.b.Hi (1:Int)))),(IntKind.u64.wrap ((a0.a.Hi).tdiv (zq9 a0.b.Lo (1:Int))))⟩:v9)
def qbw (a0:Twork):v9:=(if decide (a0.a.Hi<(zq9 a0.b.Lo (1:Int))) then a0.a else (⟨(0:Int),(yi5 a0.a.Hi (IntKind.u64.wrap ((zq9 a0.b.Hi (1:Int))-(1:Int))))⟩:v9))
def qbv (a0:Twork):v9:=(zd5 (qab a0) fun x25=>(if x25 then (zd5 (yd5 (zb4 .u64 a0.a.Lo a0.b.Lo)) fun x36=>x36) else (⟨(0:Int),(yi5 a0.a.Hi a0.b.Hi)⟩:v9)))
def qcc (a0:Twork):v9:=a0.b
def zn3 (a0:Twork):Option v9:=(if (a0.a.Hi==(0:Int)) then some a0.a else (ym3 (zh4 (decide (a0.a.Lo>(0:Int)))) (none) fun _=>(zd5 (qbg a0 (IntKind.u64.wrap (0-a0.a.Hi)) (IntKind.u64.wrap (0-a0.a.Lo))) fun x49=>some x49)))
def zs3 (a0:Twork):Option v9:=(zd5 (qt a0.b) fun x26=>(ym3 (zh4 (x26&&(decide (a0.a.Hi<=(ze0 .u64 a0.most ((a0.b.Lo).tmod a0.size)))))) (none) fun _=>some (⟨(qi7 .u64 a0.a.Lo ((a0.b.Lo).tmod a0.size)),(qi7 .u64 a0.a.Hi ((a0.b.Lo).tmod a0.size))⟩:v9)))
def jl7 (a0:Twork) (v100:Int) (v101:Int):v9:=(⟨(ze0 .u64 a0.a.Lo v100),(ze0 .u64 a0.a.Hi v101)⟩:v9)
def qal (a0:Twork):v9:=(zd5 (qt a0.b) fun x36=>(if x36 then (jl7 a0 ((a0.b.Hi).tmod a0.size) ((a0.b.Lo).tmod a0.size)) else (if decide (a0.b.Hi>=a0.size) then (⟨(0:Int),a0.a.Hi⟩:v9) else (jl7 a0 a0.b.Hi a0.b.Lo))))
def zs2 (a0:Twork):Option v9:=(zd5 (qt a0.b) fun x24=>(ym3 (zh4 (x24&&(!(qav a0 a0.a)))) (none) fun _=>(zd5 (jy3 (11:Int) a0.narrow a0.a.Lo a0.b.Lo) fun x58=>(zd5 (jy3 (11:Int) a0.narrow a0.a.Hi a0.b.Lo) fun x68=>some (⟨x58.1,x68.1⟩:v9)))))
def tab0:List Int:= [0,1,2,2,3,3,3,3,4,4,4,4,4,4,4,4,5,5,5,5,5,5,5,5,5,5,5,5,5,5,5,5,6,6,6,6,6,6,6,6,6,6,6,6,6,6,6,6,6,6,6,6,6,6,6,6,6,6,6,6,6,6,6,6,7,7,7,7,7,7,7,7,7,7,7,7,7,7,7,7,7,7,7,7,7,7,7,7,7,7,7,7,7,7,7,7,7,7,7,7,7,7,7,7,7,7,7,7,7,7,7,7,7,7,7,7,7,7,7,7,7,7,7,7,7,7,7,7,8,8,8,8,8,8,8,8,8,8,8,8,8,8,8,8,8,8,8,8,8,8,8,8,8,8,8,8,8,8,8,8,8,8,8,8,8,8,8,8,8,8,8,8,8,8,8,8,8,8,8,8,8,8,8,8,8,8,8,8,8,8,8,8,8,8,8,8,8,8,8,8,8,8,8,8,8,8,8,8,8,8,8,8,8,8,8,8,8,8,8,8,8,8,8,8,8,8,8,8,8,8,8,8,8,8,8,8,8,8,8,8,8,8,8,8,8,8,8,8,8,8,8,8,8,8,8,8]
def ve2 (a0:Int):Int:=(if decide (a0>=(4294967296:Int)) then (if decide ((ze0 .u64 a0 (32:Int))>=(65536:Int)) then (if decide ((ze0 .u64 (ze0 .u64 a0 (32:Int)) (16:Int))>=(256:Int)) then ((56:Int)+((tab0.getD (IntKind.u8.wrap (ze0 .u64 (ze0 .u64 (ze0 .u64 a0 (32:Int)) (16:Int)) (8:Int))).toNat 0))) else ((48:Int)+((tab0.getD (IntKind.u8.wrap (ze0 .u64 (ze0 .u64 a0 (32:Int)) (16:Int))).toNat 0)))) else (if decide ((ze0 .u64 a0 (32:Int))>=(256:Int)) then ((40:Int)+((tab0.getD (IntKind.u8.wrap (ze0 .u64 (ze0 .u64 a0 (32:Int)) (8:Int))).toNat 0))) else ((32:Int)+((tab0.getD (IntKind.u8.wrap (ze0 .u64 a0 (32:Int))).toNat 0))))) else (if decide (a0>=(65536:Int)) then (if decide ((ze0 .u64 a0 (16:Int))>=(256:Int)) then ((24:Int)+((tab0.getD (IntKind.u8.wrap (ze0 .u64 (ze0 .u64 a0 (16:Int)) (8:Int))).toNat 0))) else ((16:Int)+((tab0.getD (IntKind.u8.wrap (ze0 .u64 a0 (16:Int))).toNat 0)))) else (if decide (a0>=(256:Int)) then ((8:Int)+((tab0.getD (IntKind.u8.wrap (ze0 .u64 a0 (8:Int))).toNat 0))) else ((0:Int)+((tab0.getD (IntKind.u8.wrap a0).toNat 0))))))
def qn7 (a0:Int) (a1:Int):(Int×Int):=((IntKind.u64.wrap ((IntKind.u64.wrap ((IntKind.u64.wrap ((ze0 .u64 a0 (32:Int))*(ze0 .u64 a1 (32:Int))))+(ze0 .u64 (IntKind.u64.wrap ((IntKind.u64.wrap ((ze0 .u64 a0 (32:Int))*(zb4 .u64 a1 (4294967295:Int))))+(ze0 .u64 (IntKind.u64.wrap ((zb4 .u64 a0 (4294967295:Int))*(zb4 .u64 a1 (4294967295:Int)))) (32:Int)))) (32:Int))))+(ze0 .u64 (IntKind.u64.wrap ((zb4 .u64 (IntKind.u64.wrap ((IntKind.u64.wrap ((ze0 .u64 a0 (32:Int))*(zb4 .u64 a1 (4294967295:Int))))+(ze0 .u64 (IntKind.u64.wrap ((zb4 .u64 a0 (4294967295:Int))*(zb4 .u64 a1 (4294967295:Int)))) (32:Int)))) (4294967295:Int))+(IntKind.u64.wrap ((zb4 .u64 a0 (4294967295:Int))*(ze0 .u64 a1 (32:Int)))))) (32:Int)))),(IntKind.u64.wrap (a0*a1)))
def qbq (a0:Int):Int:=(zd5 (ve2 a0) fun x3=>(IntKind.u64.wrap ((qi7 .u64 (1:Int) x3)-(1:Int))))
def qbx (a0:Twork):v9:=(zd5 (qab a0) fun x25=>(if x25 then (zd5 (yd5 (bOr .u64 a0.a.Lo a0.b.Lo)) fun x36=>x36) else (⟨(zq9 a0.a.Lo a0.b.Lo),(qbq (bOr .u64 a0.a.Hi a0.b.Hi))⟩:v9)))
def qby (a0:Twork):v9:=(zd5 (qab a0) fun x25=>(if x25 then (zd5 (yd5 (qw0 .u64 a0.a.Lo a0.b.Lo)) fun x36=>x36) else (zd5 (qbq (bOr .u64 a0.a.Hi a0.b.Hi)) fun x53=>(⟨(0:Int),x53⟩:v9))))
def zs1 (a0:Twork):Option v9:=(zd5 (qn7 a0.a.Hi a0.b.Hi) fun x24=>(ym3 (zh4 ((x24.1==(0:Int))&&(decide (x24.2<=a0.most)))) (none) fun _=>some (⟨(IntKind.u64.wrap (a0.a.Lo*a0.b.Lo)),x24.2⟩:v9)))
def jx5 (x:Int):Bool:=(x==(1:Int))||(x==(2:Int))||(x==(3:Int))||(x==(4:Int))||(x==(5:Int))||(x==(6:Int))||(x==(7:Int))||(x==(8:Int))||(x==(9:Int))||(x==(10:Int))||(x==(11:Int))||(x==(12:Int))||(x==(13:Int))
def span_Do (a0:Int) (a1:Bool) (a2:v9) (a3:v9):v9:=(if (((!(jx5 a0))||(!(za0 a2)))||(!(za0 a3))) then (zd5 (zj6 a1) fun x84=>x84) else (zd5 (qao a1 a2 a3) fun x104=>(if (a0==(1:Int)) then (ym3 (zs0 x104) ((zj6 a1)) fun x115=>x115) else (if (a0==(2:Int)) then (ym3 (zs4 x104) ((zj6 a1)) fun x140=>x140) else (if (a0==(3:Int)) then (ym3 (zs1 x104) ((zj6 a1)) fun x165=>x165) else (if (a0==(4:Int)) then (zd5 (qcb x104) fun x190=>x190) else (if (a0==(5:Int)) then (zd5 (qbw x104) fun x208=>x208) else (if (a0==(6:Int)) then (zd5 (qbv x104) fun x226=>x226) else (if (a0==(7:Int)) then (zd5 (qbx x104) fun x244=>x244) else (if (a0==(8:Int)) then (zd5 (qby x104) fun x262=>x262) else (if (a0==(9:Int)) then (ym3 (zs3 x104) ((zj6 a1)) fun x280=>x280) else (if (a0==(10:Int)) then (zd5 (qal x104) fun x305=>x305) else (if (a0==(11:Int)) then (ym3 (zs2 x104) ((zj6 a1)) fun x323=>x323) else (if (a0==(12:Int)) then (zd5 (qcc x104) fun x348=>x348) else (if (a0==(13:Int)) then (ym3 (zn3 x104) ((zj6 a1)) fun x366=>x366) else default)))))))))))))))
end Go.Y
namespace Go.Y
open Go.RowKit Go.V Go.X Go.Proofs
def bv64 {x:Int} (h:za5 x):(BitVec.ofInt IntKind.u64.bits x).toNat=x.toNat:=by
 rw [BitVec.toNat_ofInt];simp only [IntKind.bits];omega
def qn8 {x y:Int} (hx:za5 x) (hy:za5 y):zb4 .u64 x y=((x.toNat&&&y.toNat:Nat):Int):=by
 unfold zb4;rw [BitVec.toNat_and,bv64 hx,bv64 hy,zz9];have:x.toNat&&&y.toNat<=x.toNat:=Nat.and_le_left;omega
def vq6 {x y:Int} (hy:0<=y/\y<=64):ze0 .u64 x y=x/2^y.toNat:=by
 unfold ze0;rw [Int.fdiv_eq_ediv_of_nonneg _ (by exact Int.le_of_lt (Int.pow_pos (by omega)))];congr 2;simp only [IntKind.bits];omega
def zh9 (nw:Bool):Int:=if nw then 4294967295 else 18446744073709551615
structure SpOk (nw:Bool) (s:v9):Prop where
 lo:0<=s.Lo
 le:s.Lo<=s.Hi
 hi:s.Hi<=zh9 nw
def SpOk.u (nw:Bool) {s:v9} (h:SpOk nw s):za5 s.Lo/\za5 s.Hi:=by
 have h1:=h.lo;have h2:=h.le;have h3:=h.hi;unfold zh9 at h3;split at h3<;>omega
def vr8 {x:Int} (h:za5 x):zb4 .u64 x 4294967295=x%4294967296:=by
 rw [qn8 h (by omega),show (4294967295:Int).toNat=2^32-1 from rfl,Nat.and_two_pow_sub_one_eq_mod];omega
def zbh1 {x:Int}:ze0 .u64 x 32=x/4294967296:=by rw [vq6 (by omega)];rfl
def zr3 {s:v9} {nw:Bool} (h:za5 s.Lo/\za5 s.Hi) (hle:s.Lo<=s.Hi):SpOk nw (qg s nw):=by
 cases nw with
 |false=>exact ⟨h.1.1,hle,h.2.2⟩
 |true=>
  unfold qg;simp only [W7,M5,if_false,zbh1,vr8 h.1,vr8 h.2];split
  ·exact ⟨by decide,by decide,by decide⟩
  ·rename_i hq;have hq:s.Lo/4294967296=s.Hi/4294967296:=by simpa using hq
   refine ⟨?_,?_,?_⟩
   ·show 0<=s.Lo%4294967296;omega
   ·grind
   ·show s.Hi%4294967296<=4294967295;omega
def jq0 (s:v9):qt s=decide (s.Lo=s.Hi):=by
 show ((s.Lo==s.Lo)&&(s.Hi==s.Lo))=_
 grind
def kr4 (w:Twork):qab w=(decide (w.a.Lo=w.a.Hi)&&decide (w.b.Lo=w.b.Hi)):=by
 show (qt w.a&&qt w.b)=_;rw [jq0,jq0]
def wk (nw:Bool) (a b:v9):Twork:=⟨a,b,nw,zh9 nw,if nw then 32 else 64⟩
def wb1 (nw:Bool) (a b:v9):qao nw a b=wk nw (qg a nw) (qg b nw):=by
 cases nw<;>rfl
def vm0 (nw:Bool):zj6 nw=⟨0,zh9 nw⟩:=by cases nw<;>rfl
def vu3 (nw:Bool):za5 (zh9 nw):=by cases nw<;>decide
def jt6 {nw:Bool} {a b:v9} {x:Int} (hx:0<=x/\x<=zh9 nw):qae (wk nw a b) x=decide (zh9 nw<2*x):=by
 cases nw with
 |true=>
  have h2:x<=4294967295:=hx.2;have e:((zb4 .u64 (ze0 .u64 x 31) 1)==1)=decide (zh9 true<2*x):=by
   rw [vq6 (by omega),show (2:Int)^(31:Int).toNat=2147483648 from rfl,qn8 (by omega) (by omega)];rw [show (1:Int).toNat=1 from rfl,Nat.and_one_is_mod];show _=decide (4294967295<2*x)
   grind
  exact e
 |false=>
  have h2:x<=18446744073709551615:=hx.2;have e:((zb4 .u64 (ze0 .u64 x 63) 1)==1)=decide (zh9 false<2*x):=by
   rw [vq6 (by omega),show (2:Int)^(63:Int).toNat=9223372036854775808 from rfl,qn8 (by omega) (by omega)];rw [show (1:Int).toNat=1 from rfl,Nat.and_one_is_mod];show _=decide (18446744073709551615<2*x)
   grind
  exact e
def ku9 {nw:Bool} {a b s:v9} (hs:SpOk nw s):qav (wk nw a b) s=(decide (zh9 nw<2*s.Lo) != decide (zh9 nw<2*s.Hi)):=by
 show (qae (wk nw a b) s.Lo != qae (wk nw a b) s.Hi)=_;have h1:=hs.lo;have h2:=hs.le;have h3:=hs.hi;rw [jt6 ⟨h1,by omega⟩,jt6 ⟨by omega,h3⟩]
def zc4 (op:Int) (w:Twork):Option v9:=
 if op=1 then zs0 w else if op=2 then zs4 w else if op=3 then zs1 w else if op=4 then some (qcb w) else if op=5 then some (qbw w)
 else if op=6 then some (qbv w) else if op=7 then some (qbx w) else if op=8 then some (qby w) else if op=9 then zs3 w else if op=10 then some (qal w)
 else if op=11 then zs2 w else if op=12 then some (qcc w) else zn3 w
def kt8 (op:Int):jx5 op=decide (1<=op/\op<=13):=by
 unfold jx5;rw [M7];simp only [J2,beq_iff_eq,decide_eq_true_eq];omega
def yv8 (op:Int) (nw:Bool) (a b:v9):span_Do op nw a b=if (1<=op/\op<=13)/\a.Lo<=a.Hi/\b.Lo<=b.Hi then (zc4 op (wk nw (qg a nw) (qg b nw))).getD ⟨0,zh9 nw⟩ else ⟨0,zh9 nw⟩:=by
 rw [span_Do.eq_1];simp only [kt8,za0,zd5,vm0,wb1];by_cases h:(1<=op/\op<=13)/\a.Lo<=a.Hi/\b.Lo<=b.Hi
 ·rw [if_pos h,if_neg (by simp [h])];unfold zc4;generalize wk nw (qg a nw) (qg b nw)=w;have hh:op=1\/op=2\/op=3\/op=4\/op=5\/op=6\/op=7\/op=8\/op=9\/op=10\/op=11\/op=12\/op=13:=by omega
  rcases hh with rfl|rfl|rfl|rfl|rfl|rfl|rfl|rfl|rfl|rfl|rfl|rfl|rfl
  all_goals first|rfl|(simp only [show ∀o:Option v9,ym3 o (⟨0,zh9 nw⟩:v9) (fun x=>x)=o.getD ⟨0,zh9 nw⟩ from fun o=>by cases o<;>rfl];rfl)
 ·grind
end Go.Y
namespace Go.Y
open Go.RowKit Go.V Go.X Go.Proofs
end Go.Y
namespace Go.Y
open Go.RowKit Go.V Go.X Go.Proofs
end Go.Y
namespace Go.Y
open Go.RowKit Go.V Go.X Go.Proofs
def zh1 (nw:Bool) (p:Int):Bool:=decide (zh9 nw<2*p)
def woE (s n:v9):v9:=if s.Lo=s.Hi\/n.Lo≠n.Hi then s else ⟨if s.Lo=n.Lo then s.Lo+1 else s.Lo,if s.Hi=n.Lo then s.Hi-1 else s.Hi⟩
def gtE (u v:v9):Option (v9×v9):=if u.Hi>v.Lo then some (⟨max u.Lo (v.Lo+1),u.Hi⟩,⟨v.Lo,min v.Hi (u.Hi-1)⟩) else none
def geE (u v:v9):Option (v9×v9):=if u.Hi>=v.Lo then some (⟨max u.Lo v.Lo,u.Hi⟩,⟨v.Lo,min v.Hi u.Hi⟩) else none
def qt2 (o:Option (v9×v9)):Option (v9×v9):=o.map fun x=>(x.2,x.1)
def yc3 (op:Int) (u v:v9):Option (v9×v9):=
 if op=17 then (if max u.Lo v.Lo<=min u.Hi v.Hi then some (⟨max u.Lo v.Lo,min u.Hi v.Hi⟩,⟨max u.Lo v.Lo,min u.Hi v.Hi⟩) else none)
 else if op=18 then (if u.Lo=u.Hi/\v.Lo=v.Hi/\u.Lo=v.Lo then none else some (woE u v,woE v u))
 else if op=19 then gtE u v else if op=20 then geE u v else if op=21 then qt2 (gtE v u) else qt2 (geE v u)
def yt9 (nw:Bool) (op:Int) (u v:v9):Option (v9×v9):=
 if zh1 nw u.Lo≠zh1 nw u.Hi\/zh1 nw v.Lo≠zh1 nw v.Hi then some (u,v)
 else if zh1 nw u.Lo=zh1 nw v.Lo then yc3 (op-4) u v
 else if (op=23\/op=24)↔zh1 nw v.Lo=true then some (u,v) else none
def yd3 (yes:Bool) (u v:v9):Option (v9×v9):=
 if yes=false then (if u.Lo=u.Hi/\v.Lo=v.Hi/\u.Lo.toNat&&&v.Lo.toNat≠0 then none else some (u,v))
 else if u.Hi>0/\v.Hi>0/\ ¬(u.Lo=u.Hi/\v.Lo=v.Hi/\u.Lo.toNat&&&v.Lo.toNat=0) then some (⟨max u.Lo 1,u.Hi⟩,⟨max v.Lo 1,v.Hi⟩) else none
def ym2 (op:Int):Int:=if op=17 then 18 else if op=18 then 17 else if op=19 then 22 else if op=20 then 21 else if op=21 then 20 else if op=22 then 19 else if op=23 then 26 else if op=24 then 25 else if op=25 then 24 else 23
def qd7 (nw:Bool) (op:Int) (yes:Bool) (u v:v9):Option (v9×v9):=
 if op=27 then yd3 yes u v else if (if yes=true then op else ym2 op)>=23 then yt9 nw (if yes=true then op else ym2 op) u v else yc3 (if yes=true then op else ym2 op) u v
end Go.Y
namespace Go.Y
open Go.RowKit Go.V Go.X Go.Proofs
end Go.Y
namespace Go.Y
open Go.RowKit Go.V Go.X
def zu5 {R} (c:Bool) (x y:Option R):j9 c x y=if c=true then x else y:=rfl
def j7 {R} (x y:Option R):j9 true x y=x:=rfl
def j5 {R} (x y:Option R):j9 false x y=y:=rfl
def j4 {b c} (a:b) (f:b->Option c):j6 (some a) f=f a:=rfl
def zc3 {R} (c:Bool) (x y:R):j9 c (some x) (some y)=some (if c=true then x else y):=by cases c<;>rfl
def zx9 (c x):j9 c (some x) (some false)=some (c&&x):=by cases c<;>rfl
def zg7 {x} (h: -9223372036854775808<=x/\x<=9223372036854775807):IntKind.i64.wrap x=x:=by
 unfold IntKind.wrap;simp [IntKind.bits,IntKind.signed];omega
def zc8 {x} (h:0<=x/\x<=18446744073709551615):IntKind.u64.wrap x=x:=by
 unfold IntKind.wrap;simp [IntKind.bits,IntKind.signed];omega
def loop {g} (f:Nat->Nat->Option g) (c len:Nat) (r:Option g) (a: ∀n k,k<len->f (n+c) k=f n (k+1)) (b: ∀n,f (n+1) len=r): ∀m k n,k+m=len->c*m+1<=n->f n k=r
 |0,k,n,h,e=>by
  obtain ⟨d,rfl⟩: ∃d,n=d+1:=⟨n-1,by omega⟩;have:k=len:=by omega
  subst this;exact b d
 |m+1,k,n,h,e=>by
  obtain ⟨d,rfl⟩: ∃d,n=d+c:=⟨n-c,by rw [Nat.mul_succ] at e;omega⟩;rw [a d k (by omega)];exact loop f c len r a b m (k+1) d (by omega) (by rw [Nat.mul_succ] at e;omega)
def jj6 {d} (f:Nat->Nat->Option d) (c len:Nat) (r:Option d) (a: ∀n k,k<len->f (n+c) k=f n (k+1)) (b: ∀n,f (n+1) len=r) (n:Nat) (e:c*len+1<=n):f n 0=r:=loop f c len r a b len 0 n (by omega) e
def wl5 {g} (f:Nat->Nat->Option g) (c len:Nat) (r:Nat->Option g) (a: ∀n k,k<len->f (n+c) k=r k\/(f (n+c) k=f n (k+1)/\r k=r (k+1))) (b: ∀n,f (n+1) len=r len): ∀m k n,k+m=len->c*m+1<=n->f n k=r k
 |0,k,n,i,e=>by
  obtain ⟨d,rfl⟩: ∃d,n=d+1:=⟨n-1,by omega⟩;have:k=len:=by omega
  subst this;exact b d
 |m+1,k,n,i,e=>by
  obtain ⟨d,rfl⟩: ∃d,n=d+c:=⟨n-c,by rw [Nat.mul_succ] at e;omega⟩;rcases a d k (by omega) with h|⟨j,l⟩
  ·exact h
  ·rw [j,l];exact wl5 f c len r a b m (k+1) d (by omega) (by rw [Nat.mul_succ] at e;omega)
def nx {k len:Nat} (h:k<len) (a:len<=1000000000):IntKind.i64.wrap ((k:Int)+1)=((k+1:Nat):Int):=by rw [zg7 (by omega)];omega
end Go.Y
