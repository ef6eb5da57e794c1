import Derived.Test.YthhhfnfgmijggaaGreatJb
set_option linter.defProp false
namespace Go.X
open Go.RowKit Go.V Go.Proofs Tryz
noncomputable section
def ww3:KF:=⟨eN,0,[],[],f15,⟨[],[(0,.list (.user 2))]⟩,[],[.b2]⟩
def qdr (n:Nat):Option (List Ins):=tF ww3 n ()
def uw8 (n):qdr n=some ([(⟨12,false,0,0,true,0,0,0⟩:Ins),(⟨20,false,2,0,true,1,14,0⟩:Ins),(⟨28,false,0,0,false,0,0,0⟩:Ins),(⟨14,false,0,1,false,12,0,2⟩:Ins),(⟨28,false,0,0,false,0,0,0⟩:Ins)]:List Ins):=by kernel_rfl
def uw9:=okF ww3 func15
def gz1:KF:=⟨cF uw9 (cG wv5 (cF gp3 eN)),0,[],[([O,I,I,I],qt [1,3,45])],f7,z0,[],[.a9]⟩
def qbw (n:Nat):Option (Bool):=tF gz1 n ()
def jl4 (n:Nat) (a:Bool) (b:List Place) (c:List Ins):Option (Bool):=uF gz1 n [O,I,I,I] ⟨[(1,.own 0),(3,.own 1),(45,cb a)],[.row 37 (.user 4) b,.row 42 (.user 2) c]⟩
def ur4 (n):qbw n=z6 (qdr v3) fun d=>z6 (qd v3 d) fun b=>z6 (qdr v3) fun c=>if 0<=0/\0<=1/\1<=(c.length:Int) then (if (0+(List.take 1 (List.drop 0 c)).length)*56<=140737488355328 then (z6 (qdr v3) fun a=>if 0<=3/\3<=(a.length:Int)/\(a.length:Int)<=(a.length:Int) then (if ((([]:List Ins)++(List.take 1 (List.drop 0 c))).length+(List.take (((a.length:Int).toNat)-3) (List.drop 3 a)).length)*56<=140737488355328 then (z9 (b.2.2.1.Err != 0) (jl4 n true b.2.1 ((([]:List Ins)++(List.take 1 (List.drop 0 c)))++(List.take (((a.length:Int).toNat)-3) (List.drop 3 a)))) (z9 ((b.2.1.length:Int) != 5) (jl4 n true b.2.1 ((([]:List Ins)++(List.take 1 (List.drop 0 c)))++(List.take (((a.length:Int).toNat)-3) (List.drop 3 a)))) (if 0<=3/\3<(b.2.1.length:Int) then (z9 (((b.2.1.getD 3 j8).Least) != 14) (jl4 n true b.2.1 ((([]:List Ins)++(List.take 1 (List.drop 0 c)))++(List.take (((a.length:Int).toNat)-3) (List.drop 3 a)))) (if 0<=2/\2<(b.2.1.length:Int) then (z9 (((b.2.1.getD 2 j8).Least) != 0) (jl4 n true b.2.1 ((([]:List Ins)++(List.take 1 (List.drop 0 c)))++(List.take (((a.length:Int).toNat)-3) (List.drop 3 a)))) (if 0<=4/\4<(b.2.1.length:Int) then (jl4 n ((((b.2.1.getD 4 j8).Regs).length:Int) != 11) b.2.1 ((([]:List Ins)++(List.take 1 (List.drop 0 c)))++(List.take (((a.length:Int).toNat)-3) (List.drop 3 a)))) else none)) else none)) else none))) else none) else none) else none) else none:=by kernel_rfl
def ki6 (n b a c):jl4 (n+1) b a c=z9 b (some false) (z6 (qdf v3 c) fun d=>z9 ((d.Err==(112:Int))&&(d.At==(1:Int))) (if 0<=(4:Int)/\(4:Int)<((a.length:Nat):Int) then (if 0<=(0:Int)/\(0:Int)<((((a.getD 4 j8).Regs).length:Nat):Int) then (some ((((((a.getD 4 j8).Regs).getD 0 j7).Kind)==(1:Int))&&((((((a.getD 4 j8).Regs).getD 0 j7).In_Lo)==(0:Int))&&(((((a.getD 4 j8).Regs).getD 0 j7).In_Hi)==(65535:Int))))) else none) else none) (some false)):=by kernel_rfl
def ur5:=okF gz1 func7
def ua3:KF:=⟨eN,0,[],[],f13,z0,[.a1,.a1],[.a1]⟩
def qfr (n:Nat) (x0 x1:Int):Option (Int):=tF ua3 n (x0,x1)
def zae3 (n:Nat) (x0 x1):qfr n x0 x1=z9 (decide (x1<(1:Int))) (some (0:Int)) (if x1=0 then none else (z9 (decide ((x0.tmod x1)<(0:Int))) (some (IntKind.i64.wrap ((x0.tmod x1)+x1))) (some (x0.tmod x1)))):=by kernel_rfl
def zae4:=okF ua3 func13
def wm2:KF:=⟨cF ur5 (cF gp3 (cF zaq1 (cF zae4 eN))),0,[],[([O,I,I],qt [0,1,2,24]),([O,I,O,I,I,I],qt [0,1,2,7]),([O,I,O,O,I,O,O,I,O,I,I,I],qt [0,1,2,7,46])],f6,z0,[.b2,.c1,.a1],[.a9]⟩
def qu (n:Nat) (x0:List Ins) (x1:List Int) (x2:Int):Option (Bool):=tF wm2 n (x0,x1,x2)
def kq5 (n:Nat) (s0:List Ins) (s1:List Int) (s2:Int) (s24:Bool):Option (Bool):=uF wm2 n [O,I,I] ⟨[(0,.cell ⟨.list (.user 2),s0⟩),(1,.cell ⟨.list (.int .u8),s1⟩),(2,ci s2),(24,cb s24)],[]⟩
def vj9 (n:Nat) (s0:List Ins) (s1:List Int) (s2 s7:Int):Option (Bool):=uF wm2 n [O,I,O,I,I,I] ⟨[(0,.cell ⟨.list (.user 2),s0⟩),(1,.cell ⟨.list (.int .u8),s1⟩),(2,ci s2),(7,ci s7)],[]⟩
def kq6 (n:Nat) (s0:List Ins) (s1:List Int) (s2 s7:Int) (s46:Bool):Option (Bool):=uF wm2 n [O,I,O,O,I,O,O,I,O,I,I,I] ⟨[(0,.cell ⟨.list (.user 2),s0⟩),(1,.cell ⟨.list (.int .u8),s1⟩),(2,ci s2),(7,ci s7),(46,cb s46)],[]⟩
def zaq3 (n:Nat) (x0 x1 x2):qu n x0 x1 x2=z6 (qbw v3) fun y1=>z9 (!y1) (some false) (z9 (decide (((x0.length:Nat):Int)>(200:Int))) (kq5 n x0 x1 x2 true) (z9 (decide (((x1.length:Nat):Int)>(3000:Int))) (kq5 n x0 x1 x2 true) (z6 (qdf v3 x0) fun y2=>kq5 n x0 x1 x2 (y2.Err != (0:Int))))):=by kernel_rfl
def ja4 (n:Nat) (s0 s1 s2 s24):kq5 (n+1) s0 s1 s2 s24=z9 s24 (some true) (vj9 n s0 s1 s2 (0:Int)):=by kernel_rfl
def va5 (n:Nat) (s0 s1 s2 s7):vj9 (n+1) s0 s1 s2 s7=z9 (decide (s7<(2:Int))) (z6 (qr v3 s0 s1) fun y1=>z9 (y1.Err != (0:Int)) (kq6 n s0 s1 s2 s7 true) (z9 (decide (y1.Steps<(1:Int))) (kq6 n s0 s1 s2 s7 true) (kq6 n s0 s1 s2 s7 (decide (y1.Steps>((s0.length:Nat):Int)))))) (some true):=by kernel_rfl
def gd2 (n:Nat) (s0 s1 s2 s7 s46):kq6 (n+1) s0 s1 s2 s7 s46=z9 s46 (some false) (z6 (qfr v3 s2 (IntKind.i64.wrap (((s1.length:Nat):Int)+(1:Int)))) fun y1=>if 0<=(0:Int)/\(0:Int)<=y1/\y1<=((s1.length:Nat):Int) then (vj9 n s0 (List.take (y1.toNat-0) (List.drop 0 s1)) s2 (IntKind.i64.wrap (s7+(1:Int)))) else none):=by kernel_rfl
def qu_ok:=okF wm2 func6
end
end Go.X
