import Derived.Test.YtliopfopmhhdeaaGreatPa
set_option linter.defProp false
namespace Go.Y
open Go.RowKit Go.V Go.X
def vl8 {m:Tbl} (hk:jf6 m=true):qq BIG m=some ((((),()),m,()),(zu6 (m.map Prod.fst),())):=by
 rw [kl8,jp1,j7];dsimp only;rw [J3,z2,km6,km8,j7];dsimp only;unfold zo8;rw [hk];rfl
def mA:Tbl:= [(7,⟨(List.replicate 40 []).set 1 [98],2⟩)]
def vj2:zo1 (List.replicate 1024 (0:Int))=true:=by
 unfold zo1;rw [Y8];intro x hx;rw [List.eq_of_mem_replicate hx];rfl
def qd5:qr BIG=some true:=by
 have h0:jh2 []:=fun x hx=>by cases hx
 have e2:yr0 [] 7 1 2 [98]=(mA,[],0):=by kernel_rfl
 have h2:jh2 mA:=by have:=vv4 h0 (v:=7) (i:=1) (n:=2) (b:= [98]) rfl;rwa [e2] at this
 have e4:yr0 mA 7 1 2 [98]=(mA,[],0):=by kernel_rfl
 have e5:yr0 mA 7 1 2 [99]=(mA,[],7):=by kernel_rfl
 have e6:yr0 mA 7 0 2 [97]=(mA,[],2):=by kernel_rfl
 have e7:yr0 mA 7 0 2 (List.replicate 1024 (0:Int))=([],List.replicate 1024 (0:Int)++ [98],0):=by kernel_rfl
 rw [km0,km4,j7];dsimp only;rw [va1 h0 rfl,j7,e2];dsimp only;rw [vl8 rfl,j7];dsimp only;rw [va1 h2 rfl,j7,e4];dsimp only;rw [va1 h2 rfl,j7,e5];dsimp only;rw [va1 h2 rfl,j7,e6];dsimp only;rw [if_pos (by omega),ke2 h2 vj2,j7,e7];dsimp only;rw [vl8 rfl,j7];have hs:ql BIG (zu6 (List.map Prod.fst mA)) [7]=some true:=by
  obtain ⟨k,e⟩: ∃k:Nat,(BIG:Nat)=k+1+1:=⟨999999998,rfl⟩;have hk:zu6 (List.map Prod.fst mA)= [7]:=by kernel_rfl
  have b1:(((([7]:List Int).length:Nat):Int) != ((([7]:List Int).length:Nat):Int))=false:=by decide
  have b2:decide ((0:Int)<((([7]:List Int).length:Nat):Int))=true:=by decide
  have b3:(([7]:List Int).getD (0:Int).toNat (0:Int) != ([7]:List Int).getD (0:Int).toNat (0:Int))=false:=by decide
  have b4:IntKind.i64.wrap ((0:Int)+1)=1:=by decide
  have b5:decide ((1:Int)<((([7]:List Int).length:Nat):Int))=false:=by decide
  rw [hk,kl1,b1,z2,e,qa4,b2,v6,if_pos (by decide),if_pos (by decide),b3,z2,b4,qa4,b5,z2]
 rw [hs,j7];have hl:((List.replicate 1024 (0:Int)++ [98]).length:Int)=1025:=by rw [X9,Z9];rfl
 rw [hl];have hg:(List.replicate 1024 (0:Int)++ [98]).getD 1024 (0:Int)=98:=by
  rw [Y2,Z2 (by rw [Z9];exact W8 _),Z9];rfl
 rw [hg];rfl
end Go.Y
