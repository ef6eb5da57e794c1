import Derived.Test.YtliopfopmhhdeaaGreatPa
set_option linter.defProp false
namespace Go.Y
open Go.RowKit Go.V Go.X
def jz5 {m:Tbl} (hk:keysOk m=true):qt BIG m=some ((((),()),m,()),(zk0 (m.map Prod.fst),())):=by
 rw [ga7,yu6,z6];dsimp only;rw [U6,z1,ks4,ks6,z6];dsimp only;unfold zr0;rw [hk];rfl
def mA:Tbl:= [(7,⟨(List.replicate 40 []).set 1 [98],2⟩)]
def vv6:ze1 (List.replicate 1024 (0:Int))=true:=by
 unfold ze1;rw [Y8];intro x hx;rw [R4 hx];rfl
def jc2:qz BIG=some true:=by
 have h0:yr0 []:=fun x hx=>by cases hx
 have e2:zt2 [] 7 1 2 [98]=(mA,[],0):=by kernel_rfl
 have h2:yr0 mA:=by have:=kg8 h0 (v:=7) (i:=1) (n:=2) (b:= [98]) rfl;rwa [e2] at this
 have e4:zt2 mA 7 1 2 [98]=(mA,[],0):=by kernel_rfl
 have e5:zt2 mA 7 1 2 [99]=(mA,[],7):=by kernel_rfl
 have e6:zt2 mA 7 0 2 [97]=(mA,[],2):=by kernel_rfl
 have e7:zt2 mA 7 0 2 (List.replicate 1024 (0:Int))=([],List.replicate 1024 (0:Int)++ [98],0):=by kernel_rfl
 rw [gb3,kn6,z6];dsimp only;rw [vl5 h0 rfl,z6,e2];dsimp only;rw [jz5 rfl,z6];dsimp only;rw [vl5 h2 rfl,z6,e4];dsimp only;rw [vl5 h2 rfl,z6,e5];dsimp only;rw [vl5 h2 rfl,z6,e6];dsimp only;rw [if_pos (by omega),kr1 h2 vv6,z6,e7];dsimp only;rw [jz5 rfl,z6];have hs:qi BIG (zk0 (List.map Prod.fst mA)) [7]=some true:=by
  obtain ⟨k,e⟩: ∃k:Nat,(BIG:Nat)=k+1+1:=⟨999999998,rfl⟩;have hk:zk0 (List.map Prod.fst mA)= [7]:=by kernel_rfl
  have b1:(((([7]:List Int).length:Nat):Int) != ((([7]:List Int).length:Nat):Int))=false:=by decide
  have b2:decide ((0:Int)<((([7]:List Int).length:Nat):Int))=true:=by decide
  have b3:(([7]:List Int).getD (0:Int).toNat (0:Int) != ([7]:List Int).getD (0:Int).toNat (0:Int))=false:=by decide
  have b4:IntKind.i64.wrap ((0:Int)+1)=1:=by decide
  have b5:decide ((1:Int)<((([7]:List Int).length:Nat):Int))=false:=by decide
  rw [hk,kn0,b1,z1,e,yt1,b2,z2,if_pos (by decide),if_pos (by decide),b3,z1,b4,yt1,b5,z1]
 rw [hs,z6];have hl:((List.replicate 1024 (0:Int)++ [98]).length:Int)=1025:=by rw [X9,Z9];rfl
 rw [hl];have hg:(List.replicate 1024 (0:Int)++ [98]).getD 1024 (0:Int)=98:=by
  rw [Y2,Z2 (by rw [Z9];exact W8 _),Z9];rfl
 rw [hg];rfl
end Go.Y
