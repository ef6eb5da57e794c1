import Derived.Test.YtampgjnliepkiaaGreatTb
set_option linter.defProp false
namespace Go.X
open Go.RowKit Go.V Go.Proofs Tryz IntKind
noncomputable section
variable (n:Nat) (aA:Int) (cA:List Int) (rA:Registry) (sA:Held) (aB:Int) (rB:Registry) (sB:Held) (cC:List Int) (aD:Int) (hM hU:List Held)
def wv4:Ctx TT:=ctZ [] 0 []
def gr7:=zn0 wv4 [] f50 ⟨[],[]⟩ yt5 [jq5]
def qav:tZ2:=gr7 n (aA,aB)
def qf2:qav n aA aB=some (i64.wrap ((i64.wrap (1000003*(i64.wrap (aA+7))))+aB)):=by kernel_rfl
def qav_sp:FnSpec TT:=spY gr7
def vc7:zn7 50 qav_sp:=okY v7 func50
def wt9:Ctx TT:=ctZ [(50,qav_sp.toCall)] 0 []
def gp5:=zn0 wt9 [] f90 ⟨[],[]⟩ yt5 [.val (.int .u8)]
def qag:tZ2:=gp5 n (aA,aB)
def vc3:qag n aA aB=q9 (qav BIG aA aB) fun y1=>some (u8.wrap (je4 .u64 (u64.wrap ((u64.wrap y1)*11400714819323198485)) 56)):=by kernel_rfl
def qag_sp:FnSpec TT:=spY gp5
def qe6:zn7 90 qag_sp:=okY (za0 (q8 vc7) v7) func90
def ui7:Ctx TT:=ctZ [] 0 []
def vj1:List (Pos×Cut):= [(zc0 58,⟨[0,1,5],[],false,[],0,false⟩)]
def ui8:=zn0 ui7 vj1 f19 ⟨[],[]⟩ jo1 zn9
def ql:tZ1:=ui8 n (cA,cC)
noncomputable abbrev uo8:=yx3 ui7 vj1 f19 ⟨[],[]⟩ jo1 zn9
def jh6:tZ1:=uo8 n 58 ⟨[(0,.cell ⟨.list (.int .u8),cA⟩),(1,.cell ⟨.list (.int .u8),cC⟩),(5,ci aD)],[]⟩
def uc6:ql n cA cC=j9 ((cA.length:Int) != (cC.length:Int)) (some false) (jh6 n cA cC 0):=by kernel_rfl
def qp7:jh6 (n+1) cA cC aD=j9 (decide (aD<(cA.length:Int))) (if 0<=aD/\aD<(cA.length:Int) then (if 0<=aD/\aD<(cC.length:Int) then (j9 ((cA.getD aD.toNat 0) != (cC.getD aD.toNat 0)) (some false) (jh6 n cA cC (i64.wrap (aD+1)))) else none) else none) (some true):=by kernel_rfl
def ql_sp:FnSpec TT:=spY ui8
def vz5:zn7 19 ql_sp:=okY v7 func19
def wv9:Ctx TT:=ctZ [(19,ql_sp.toCall)] 0 []
def gs0:=zn0 wv9 [] f58 ⟨[],[]⟩ [.val (.user 1),.val (.user 1)] zn9
def qba:tZ1:=gs0 n (sA,sB)
def kt2:qba n sA sB=j9 (sA.Version==sB.Version) (q9 (ql BIG sA.Data sB.Data) fun y1=>some y1) (some false):=by kernel_rfl
def qba_sp:FnSpec TT:=spY gs0
def vc9:zn7 58 qba_sp:=okY (za0 (q8 vz5) v7) func58
def ua3:Ctx TT:=⟨qt3,[(58,qba_sp.toCall)],0,[(6,1)],yv9,gb5,qm6⟩
def kj1:List (Pos×Cut):= [(zc0 58,⟨[0,1,5],[],false,[],1,false⟩)]
def gw5:=zn0 ua3 kj1 f39 ⟨[],[]⟩ [.val (.list (.user 1)),.val (.list (.user 1))] zn9
def qda:tZ1:=gw5 n (hM,hU)
def qda_sp:FnSpec TT:=spY gw5
def wn0:zn7 39 qda_sp:=okY (za0 (q8 vc9) v7) func39
def ul2:Ctx TT:=ctZ [] 0 []
def vk0:List (Pos×Cut):= [(zc0 58,⟨[0,1,5],[],false,[],0,false⟩)]
def ul3:=zn0 ul2 vk0 f40 ⟨[],[]⟩ kq3 zn9
def qw:tZ1:=ul3 n (cA,cC)
noncomputable abbrev up2:=yx3 ul2 vk0 f40 ⟨[],[]⟩ kq3 zn9
def jr6:tZ1:=up2 n 58 ⟨[(0,.cell ⟨.list (.int .i64),cA⟩),(1,.cell ⟨.list (.int .i64),cC⟩),(5,ci aD)],[]⟩
def ue1:qw n cA cC=j9 ((cA.length:Int) != (cC.length:Int)) (some false) (jr6 n cA cC 0):=by kernel_rfl
def qq9:jr6 (n+1) cA cC aD=j9 (decide (aD<(cA.length:Int))) (if 0<=aD/\aD<(cA.length:Int) then (if 0<=aD/\aD<(cC.length:Int) then (j9 ((cA.getD aD.toNat 0) != (cC.getD aD.toNat 0)) (some false) (jr6 n cA cC (i64.wrap (aD+1)))) else none) else none) (some true):=by kernel_rfl
def qw_sp:FnSpec TT:=spY ul3
def gy4:zn7 40 qw_sp:=okY v7 func40
def wx6:Ctx TT:=⟨qt3,[(39,qda_sp.toCall),(40,qw_sp.toCall)],0,[],yv9,gb5,qm6⟩
def gu0:=zn0 wx6 [] f14 ⟨[],[]⟩ [.val (.user 2),.val (.user 2)] zn9
def qbw:tZ1:=gu0 n (rA,rB)
def wi6:qbw n rA rB=q9 (qda BIG rA.Held rB.Held) fun y1=>j9 y1 (j9 (rA.Active==rB.Active) (j9 (rA.Before==rB.Before) (j9 (rA.Rollout==rB.Rollout) (q9 (qw BIG rA.Yes rB.Yes) fun y2=>j9 y2 (some (rA.No==rB.No)) (some false)) (some false)) (some false)) (some false)) (some false):=by kernel_rfl
def wi8:FnSpec TT:=spY gu0
def wi7:zn7 14 wi8:=okY (za0 (q8 wn0) (za0 (q8 gy4) v7)) func14
end
end Go.X
