import Derived.Test.YthhhfnfgmijggaaGreatId
set_option linter.defProp false
namespace Go.X
open Go.RowKit Go.V Go.Proofs Tryz
noncomputable section
def wz0:KF:=⟨eN,0,[],[],f15,⟨[],[(0,.list (.user 2))]⟩,[],[.b1]⟩
def qdn (n:Nat):Option (List Ins):=tF wz0 n ()
def uv4 (n):qdn n=some ([(⟨12,false,0,0,true,0,0,0⟩:Ins),(⟨20,false,2,0,true,1,14,0⟩:Ins),(⟨28,false,0,0,false,0,0,0⟩:Ins),(⟨14,false,0,1,false,12,0,2⟩:Ins),(⟨28,false,0,0,false,0,0,0⟩:Ins)]:List Ins):=by kernel_rfl
def ut3:=okF wz0 func15
def gw4:KF:=⟨cF ut3 (cG wb5 (cF uo5 eN)),0,[],[([O,I,I,I],qt [1,3,45])],f7,z0,[],[.a8]⟩
def qbx (n:Nat):Option (Bool):=tF gw4 n ()
def jj2 (n:Nat) (a:Bool) (b:List Place) (c:List Ins):Option (Bool):=uF gw4 n [O,I,I,I] ⟨[(1,.own 0),(3,.own 1),(45,cb a)],[.row 37 (.user 4) b,.row 42 (.user 2) c]⟩
def ul0 (n):qbx n=z8 (qdn v3) fun d=>z8 (qf v3 d) fun b=>z8 (qdn v3) fun c=>if 0<=0/\0<=1/\1<=(c.length:Int) then (if (0+(List.take 1 (List.drop 0 c)).length)*56<=140737488355328 then (z8 (qdn v3) fun a=>if 0<=3/\3<=(a.length:Int)/\(a.length:Int)<=(a.length:Int) then (if ((([]:List Ins)++(List.take 1 (List.drop 0 c))).length+(List.take (((a.length:Int).toNat)-3) (List.drop 3 a)).length)*56<=140737488355328 then (j4 (b.2.2.1.Err != 0) (jj2 n true b.2.1 ((([]:List Ins)++(List.take 1 (List.drop 0 c)))++(List.take (((a.length:Int).toNat)-3) (List.drop 3 a)))) (j4 ((b.2.1.length:Int) != 5) (jj2 n true b.2.1 ((([]:List Ins)++(List.take 1 (List.drop 0 c)))++(List.take (((a.length:Int).toNat)-3) (List.drop 3 a)))) (if 0<=3/\3<(b.2.1.length:Int) then (j4 (((b.2.1.getD 3 j8).Least) != 14) (jj2 n true b.2.1 ((([]:List Ins)++(List.take 1 (List.drop 0 c)))++(List.take (((a.length:Int).toNat)-3) (List.drop 3 a)))) (if 0<=2/\2<(b.2.1.length:Int) then (j4 (((b.2.1.getD 2 j8).Least) != 0) (jj2 n true b.2.1 ((([]:List Ins)++(List.take 1 (List.drop 0 c)))++(List.take (((a.length:Int).toNat)-3) (List.drop 3 a)))) (if 0<=4/\4<(b.2.1.length:Int) then (jj2 n ((((b.2.1.getD 4 j8).Regs).length:Int) != 11) b.2.1 ((([]:List Ins)++(List.take 1 (List.drop 0 c)))++(List.take (((a.length:Int).toNat)-3) (List.drop 3 a)))) else none)) else none)) else none))) else none) else none) else none) else none:=by kernel_rfl
def kf4 (n b a c):jj2 (n+1) b a c=j4 b (some false) (z8 (qfi v3 c) fun d=>j4 ((d.Err==(112:Int))&&(d.At==(1:Int))) (if 0<=(4:Int)/\(4:Int)<((a.length:Nat):Int) then (if 0<=(0:Int)/\(0:Int)<((((a.getD 4 j8).Regs).length:Nat):Int) then (some ((((((a.getD 4 j8).Regs).getD 0 j7).Kind)==(1:Int))&&((((((a.getD 4 j8).Regs).getD 0 j7).In_Lo)==(0:Int))&&(((((a.getD 4 j8).Regs).getD 0 j7).In_Hi)==(65535:Int))))) else none) else none) (some false)):=by kernel_rfl
def uj8:=okF gw4 func7
end
end Go.X
