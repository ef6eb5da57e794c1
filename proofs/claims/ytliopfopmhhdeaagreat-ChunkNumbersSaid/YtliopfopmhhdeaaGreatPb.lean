import Derived.Test.YtliopfopmhhdeaaGreatPa
set_option linter.defProp false
namespace Go.Y
open Go.RowKit Go.V Go.X
def qc3 {m:Tbl} (hk:keysOk m=true):qx BIG m=some ((((),()),m,()),(zk8 (m.map Prod.fst),())):=by
 rw [gi5,yw7,z7];dsimp only;rw [U5,z2,kz6,kz8,z7];dsimp only;unfold zs0;rw [hk];rfl
def mA:Tbl:= [(7,⟨(List.replicate 40 []).set 1 [98],2⟩)]
def ka2:zd1 (List.replicate 1024 (0:Int))=true:=by
 unfold zd1;rw [Y8];intro x hx;rw [T8 hx];rfl
def yf4:qw BIG=some true:=by
 have h0:yt3 []:=fun x hx=>by cases hx
 have e2:zu1 [] 7 1 2 [98]=(mA,[],0):=by kernel_rfl
 have h2:yt3 mA:=by have:=km5 h0 (v:=7) (i:=1) (n:=2) (b:= [98]) rfl;rwa [e2] at this
 have e4:zu1 mA 7 1 2 [98]=(mA,[],0):=by kernel_rfl
 have e5:zu1 mA 7 1 2 [99]=(mA,[],7):=by kernel_rfl
 have e6:zu1 mA 7 0 2 [97]=(mA,[],2):=by kernel_rfl
 have e7:zu1 mA 7 0 2 (List.replicate 1024 (0:Int))=([],List.replicate 1024 (0:Int)++ [98],0):=by kernel_rfl
 rw [gi4,ku3,z7];dsimp only;rw [vp0 h0 rfl,z7,e2];dsimp only;rw [qc3 rfl,z7];dsimp only;rw [vp0 h2 rfl,z7,e4];dsimp only;rw [vp0 h2 rfl,z7,e5];dsimp only;rw [vp0 h2 rfl,z7,e6];dsimp only;rw [if_pos (by omega),kx7 h2 ka2,z7,e7];dsimp only;rw [qc3 rfl,z7];have hs:qk BIG (zk8 (List.map Prod.fst mA)) [7]=some true:=by
  obtain ⟨k,e⟩: ∃k:Nat,(BIG:Nat)=k+1+1:=⟨999999998,rfl⟩;have hk:zk8 (List.map Prod.fst mA)= [7]:=by kernel_rfl
  have b1:(((([7]:List Int).length:Nat):Int) != ((([7]:List Int).length:Nat):Int))=false:=by decide
  have b2:decide ((0:Int)<((([7]:List Int).length:Nat):Int))=true:=by decide
  have b3:(([7]:List Int).getD (0:Int).toNat (0:Int) != ([7]:List Int).getD (0:Int).toNat (0:Int))=false:=by decide
  have b4:IntKind.i64.wrap ((0:Int)+1)=1:=by decide
  have b5:decide ((1:Int)<((([7]:List Int).length:Nat):Int))=false:=by decide
  rw [hk,kt6,b1,z2,e,yv4,b2,z6,if_pos (by decide),if_pos (by decide),b3,z2,b4,yv4,b5,z2]
 rw [hs,z7];have hl:((List.replicate 1024 (0:Int)++ [98]).length:Int)=1025:=by rw [X9,Z9];rfl
 rw [hl];have hg:(List.replicate 1024 (0:Int)++ [98]).getD 1024 (0:Int)=98:=by
  rw [Y2,Z2 (by rw [Z9];exact W8 _),Z9];rfl
 rw [hg];rfl
end Go.Y
