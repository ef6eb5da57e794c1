import Derived.Test.YtampgjnliepkiaaGreatIs
set_option linter.defProp false
namespace Go.X
open Go.RowKit Go.V Go.Proofs Tryz IntKind
noncomputable section
variable (n:Nat) (o8:List Entry) (aA:Int) (cA:List Int) (dA:Bool) (pA:Bundle) (aB aC:Int) (cC:List Int) (dC:Bool) (aD:Int) (cD:List Int) (aE:Int) (cE:List Int) (aF:Int) (cF cG cJ:List Int)
def wu7:Ctx TT:=ctZ [] 0 []
def ki0:List (Pos×Cut):= [(zc0 58,⟨[0,3,4],[(3,5,.int .u8)],false,[],0,false⟩)]
def gq7:=zn0 wu7 ki0 f121 ⟨[],[]⟩ [yh9] yi3
def qao:tZ0:=gq7 n aA
def qao_sp:FnSpec TT:=spY gq7
def ks5:zn7 121 qao_sp:=okY v7 func121
def wv5:Ctx TT:=ctZ [(121,qao_sp.toCall)] 0 []
def gr8:=zn0 wv5 [] f89 ⟨[],[]⟩ yq9 yi3
def qax:tZ0:=gr8 n cA
def qf3:qax n cA=q9 (qao BIG (cA.length:Int)) fun y1=>if (y1.length+cA.length)*1<=140737488355328 then (some (y1++cA)) else none:=by kernel_rfl
def qax_sp:FnSpec TT:=spY gr8
def ks8:zn7 89 qax_sp:=okY (za0 (q8 ks5) v7) func89
def wv6:Ctx TT:=ctZ [(121,qao_sp.toCall),(89,qax_sp.toCall)] 0 [(1,1)]
def gr9:=zn0 wv6 [] f86 ⟨[],[]⟩ vx3 yi3
def qaz:tZ0:=gr9 n pA
def kt0:qaz n pA=q9 (qao BIG pA.Version) fun y1=>q9 (qax BIG pA.Code) fun y2=>if (y1.length+y2.length)*1<=140737488355328 then (some (y1++y2)) else none:=by kernel_rfl
def qaz_sp:FnSpec TT:=spY gr9
def vc8:zn7 86 qaz_sp:=okY (za0 (q8 ks5) (za0 (q8 ks8) v7)) func86
def gq8:Ctx TT:=ctZ [] 0 []
def qo0:List (Pos×Cut):= [(zc0 26,⟨[0,3],[],false,[],0,false⟩)]
def gq9:=zn0 gq8 qo0 f150 ⟨[],[]⟩ [jf2] zn9
def qap:tZ1:=gq9 n aA
noncomputable abbrev wu8:=yx3 gq8 qo0 f150 ⟨[],[]⟩ [jf2] zn9
def qe9:tZ1:=wu8 n 26 ⟨[(0,yq1 aA),(3,yq1 aB)],[]⟩
def we5:qap n aA=qe9 n aA 2:=by kernel_rfl
def vs4:qe9 (n+1) aA aB=j9 (decide ((u64.wrap (aB*aB))<=aA)) (if aB=0 then none else (j9 ((aA.tmod aB)==0) (some false) (qe9 n aA (u64.wrap (aB+1))))) (some (decide (aA>1))):=by kernel_rfl
def qap_sp:FnSpec TT:=spY gq9
def we6:zn7 150 qap_sp:=okY v7 func150
def ui9:Ctx TT:=ctZ [] 0 []
def vj2:List (Pos×Cut):= [(zc0 58,⟨[0,1,5,6],[],false,[],0,false⟩),(zc0 14922,⟨[0,1,5,6,7,8],[],false,[],0,false⟩)]
def uj0:=zn0 ui9 vj2 f168 ⟨[],[]⟩ qd1 qd2
def qm:tZ0:=uj0 n (cA,cC)
noncomputable abbrev uj1:=yx3 ui9 vj2 f168 ⟨[],[]⟩ qd1 qd2
def qf8:tZ0:=uj1 n 58 ⟨[(0,.cell ⟨.list (.int .u64),cA⟩),(1,.cell ⟨.list (.int .u64),cC⟩),(5,.own 0),(6,ci aD)],[.row 148 (.int .u64) cE]⟩
def qy0:tZ0:=uj1 n 14922 ⟨[(0,.cell ⟨.list (.int .u64),cA⟩),(1,.cell ⟨.list (.int .u64),cC⟩),(5,.own 0),(6,ci aD),(7,yq1 aE),(8,ci aF)],[.row 148 (.int .u64) cG]⟩
def uc7:qm n cA cC=if 0<=i64.wrap ((cA.length:Int)+(cC.length:Int))/\i64.wrap ((cA.length:Int)+(cC.length:Int))<=i64.wrap ((cA.length:Int)+(cC.length:Int))/\8*((i64.wrap ((cA.length:Int)+(cC.length:Int))).toNat)<=281474976710656/\i64.wrap ((cA.length:Int)+(cC.length:Int))<=9223372036854775807 then (qf8 n cA cC 0 (List.replicate ((i64.wrap ((cA.length:Int)+(cC.length:Int))).toNat) 0)) else none:=by kernel_rfl
def qp8:qf8 (n+1) cA cC aD cE=j9 (decide (aD<(cA.length:Int))) (qy0 n cA cC aD 0 0 cE) (some cE):=by kernel_rfl
def qp9:qy0 (n+1) cA cC aD aE aF cG=j9 (decide (aF<(cC.length:Int))) (if 0<=i64.wrap (aD+aF)/\i64.wrap (aD+aF)<(cG.length:Int) then (if 0<=aD/\aD<(cA.length:Int) then (if 0<=aF/\aF<(cC.length:Int) then (if 0<=i64.wrap (aD+aF)/\i64.wrap (aD+aF)<(cG.length:Int) then (qy0 n cA cC aD (je4 .u64 (u64.wrap ((u64.wrap ((cG.getD ((i64.wrap (aD+aF)).toNat) 0)+(u64.wrap ((cA.getD aD.toNat 0)*(cC.getD aF.toNat 0)))))+aE)) 32) (i64.wrap (aF+1)) (cG.set ((i64.wrap (aD+aF)).toNat) (zo9 .u64 (u64.wrap ((u64.wrap ((cG.getD ((i64.wrap (aD+aF)).toNat) 0)+(u64.wrap ((cA.getD aD.toNat 0)*(cC.getD aF.toNat 0)))))+aE)) 4294967295))) else none) else none) else none) else none) (if 0<=i64.wrap (aD+(cC.length:Int))/\i64.wrap (aD+(cC.length:Int))<(cG.length:Int) then (qf8 n cA cC (i64.wrap (aD+1)) (cG.set ((i64.wrap (aD+(cC.length:Int))).toNat) aE)) else none):=by kernel_rfl
def qm_sp:FnSpec TT:=spY uj0
def uc8:zn7 168 qm_sp:=okY v7 func168
def uh9:Ctx TT:=ctZ [] 0 []
def vi8:List (Pos×Cut):= [(zc0 26,⟨[0,1,5],[],false,[],0,false⟩),(zc0 841,⟨[0,1,5,6,7],[],false,[],0,false⟩),(zc0 1683,⟨[0,1,5,6,7],[],false,[],0,false⟩)]
def ui0:=zn0 uh9 vi8 f169 ⟨[],[]⟩ qd1 zn9
def qi:tZ1:=ui0 n (cA,cC)
noncomputable abbrev wq0:=yx3 uh9 vi8 f169 ⟨[],[]⟩ qd1 zn9
def vz4:tZ1:=wq0 n 26 ⟨[(0,.cell ⟨.list (.int .u64),cA⟩),(1,.cell ⟨.list (.int .u64),cC⟩),(5,ci aD)],[]⟩
def vz2:tZ1:=wq0 n 841 ⟨[(0,.cell ⟨.list (.int .u64),cA⟩),(1,.cell ⟨.list (.int .u64),cC⟩),(5,ci aD),(6,yq1 aE),(7,yq1 aF)],[]⟩
def vz3:tZ1:=wq0 n 1683 ⟨[(0,.cell ⟨.list (.int .u64),cA⟩),(1,.cell ⟨.list (.int .u64),cC⟩),(5,ci aD),(6,yq1 aE),(7,yq1 aF)],[]⟩
def uc1:qi n cA cC=vz4 n cA cC (i64.wrap ((kp3 (cA.length:Int) (cC.length:Int))-1)):=by kernel_rfl
def qp4:vz4 (n+1) cA cC aD=j9 (decide (aD>=0)) (j9 (decide (aD<(cA.length:Int))) (if 0<=aD/\aD<(cA.length:Int) then (vz2 n cA cC aD (cA.getD aD.toNat 0) 0) else none) (vz2 n cA cC aD 0 0)) (some false):=by kernel_rfl
def kk0:vz2 (n+1) cA cC aD aE aF=j9 (decide (aD<(cC.length:Int))) (if 0<=aD/\aD<(cC.length:Int) then (vz3 n cA cC aD aE (cC.getD aD.toNat 0)) else none) (vz3 n cA cC aD aE aF):=by kernel_rfl
def kk1:vz3 (n+1) cA cC aD aE aF=j9 (aE != aF) (some (decide (aE>aF))) (vz4 n cA cC (i64.wrap (aD-1))):=by kernel_rfl
def qi_sp:FnSpec TT:=spY ui0
def uc2:zn7 169 qi_sp:=okY v7 func169
def uh2:Ctx TT:=ctZ [(168,qm_sp.toCall),(169,qi_sp.toCall)] 0 []
def vi5:List (Pos×Cut):= [(zc0 250,⟨[1,5,6,7],[],false,[],0,false⟩),(zc0 1001,⟨[1,5,6,7],[],false,[],0,false⟩),(zc0 256314,⟨[1,5,6,7,8,9,10,11],[],false,[],0,false⟩)]
def uh3:=zn0 uh2 vi5 f151 ⟨[],[]⟩ [jf2,yh9] vx4
def qf:tZ2:=uh3 n (aA,aB)
noncomputable abbrev gx9:=yx3 uh2 vi5 f151 ⟨[],[]⟩ [jf2,yh9] vx4
def vz0:tZ2:=gx9 n 250 ⟨[(1,ci aA),(5,.own 0),(6,yq1 aB),(7,ci aC)],[.row 148 (.int .u64) cD]⟩
def gx8:tZ2:=gx9 n 256314 ⟨[(1,ci aA),(5,.own 0),(6,yq1 aB),(7,ci aC),(8,yq1 aD),(9,.own 1),(10,.own 1),(11,ci aE)],[.row 148 (.int .u64) cF,.row 148 (.int .u64) cG]⟩
def qf6:tZ2:=gx9 n 256314 ⟨[(1,ci aA),(5,.own 0),(6,yq1 aB),(7,ci aC),(8,yq1 aD),(9,.own 1),(10,.own 2),(11,ci aE)],[.row 148 (.int .u64) cF,.row 148 (.int .u64) cG,.row 148 (.int .u64) cJ]⟩
def qf5:tZ2:=gx9 n 1001 ⟨[(1,ci aA),(5,.own 0),(6,yq1 aB),(7,ci aC)],[.row 148 (.int .u64) cD]⟩
def ub5:qf n aA aB=if 0<=aB/\aB<=aB/\8*aB.toNat<=281474976710656/\aB<=9223372036854775807 then (if ((List.replicate aB.toNat (0:Int)).length+1)*8<=140737488355328 then (vz0 n aB 0 36 ((List.replicate aB.toNat (0:Int))++([aA]:List Int))) else none) else none:=by kernel_rfl
def qp2:vz0 (n+1) aA aB aC cD=j9 (decide (aC>=0)) (if u64.wrap aC<0 then none else (gx8 n aA aB aC (bOr .u64 aB (yg4 .u64 1 (u64.wrap aC))) 1 cD ([zo9 .u64 (bOr .u64 aB (yg4 .u64 1 (u64.wrap aC))) 4294967295,je4 .u64 (bOr .u64 aB (yg4 .u64 1 (u64.wrap aC))) (32:Int)]:List Int))) (some (zo9 .u64 aB 4294967295)):=by kernel_rfl
def kj8:gx8 (n+1) aA aB aC aD aE cF cG=j9 (decide (aE<aA)) (q9 (qm BIG cG cG) fun y1=>qf6 n aA aB aC aD (i64.wrap (aE+1)) cF cG y1) (q9 (qi BIG cG cF) fun y2=>j9 (!y2) (qf5 n aA aD aC cF) (qf5 n aA aB aC cF)):=by kernel_rfl
def jv8:qf6 (n+1) aA aB aC aD aE cF cG cJ=j9 (decide (aE<aA)) (q9 (qm BIG cJ cG) fun y1=>qf6 n aA aB aC aD (i64.wrap (aE+1)) cF cG y1) (q9 (qi BIG cJ cF) fun y2=>j9 (!y2) (qf5 n aA aD aC cF) (qf5 n aA aB aC cF)):=by kernel_rfl
def kj7:qf5 (n+1) aA aB aC cD=vz0 n aA aB (i64.wrap (aC-1)) cD:=by kernel_rfl
def qf_sp:FnSpec TT:=spY uh3
def ub6:zn7 151 qf_sp:=okY (za0 (q8 uc8) (za0 (q8 uc2) v7)) func151
def uj7:Ctx TT:=ctZ [(150,qap_sp.toCall),(151,qf_sp.toCall)] 0 []
def vj5:List (Pos×Cut):= [(zc0 58,⟨[0,1,5,6],[(5,148,.int .u64)],false,[],0,false⟩),(zc0 233,⟨[0,1,5,6],[],false,[],0,false⟩)]
def uj8:=zn0 uj7 vj5 f117 ⟨[],[]⟩ yt5 qd2
def qp:tZ0:=uj8 n (aA,aB)
noncomputable abbrev uj9:=yx3 uj7 vj5 f117 ⟨[],[]⟩ yt5 qd2
def vz9:tZ0:=uj9 n 58 ⟨[(0,ci aA),(1,ci aB),(5,.own 0),(6,yq1 aC)],[.row 148 (.int .u64) cD]⟩
def vz8:tZ0:=uj9 n 233 ⟨[(0,ci aA),(1,ci aB),(5,.own 0),(6,yq1 aC)],[.row 148 (.int .u64) cD]⟩
def ud1:qp n aA aB=vz9 n aA aB 2 ([]:List Int):=by kernel_rfl
def qq2:vz9 (n+1) aA aB aC cD=j9 (decide ((cD.length:Int)<aA)) (q9 (qap BIG aC) fun y1=>j9 y1 (q9 (qf BIG aC aB) fun y2=>if (cD.length+1)*8<=140737488355328 then (vz8 n aA aB aC (cD++([y2]:List Int))) else none) (vz8 n aA aB aC cD)) (some cD):=by kernel_rfl
def kk3:vz8 (n+1) aA aB aC cD=vz9 n aA aB (u64.wrap (aC+1)) cD:=by kernel_rfl
def qp_sp:FnSpec TT:=spY uj8
def ud2:zn7 117 qp_sp:=okY (za0 (q8 we6) (za0 (q8 ub6) v7)) func117
def uk0:Ctx TT:=ctZ [] 0 []
def vj6:List (Pos×Cut):= [(zc0 28,⟨[0,3],[],false,[],0,false⟩),(zc0 250,⟨[3,4,5],[],false,[],0,false⟩)]
def uk1:=zn0 uk0 vj6 f118 ⟨[],[]⟩ yq9 yi3
def qq:tZ0:=uk1 n cA
noncomputable abbrev uk2:=yx3 uk0 vj6 f118 ⟨[],[]⟩ yq9 yi3
def ka0:tZ0:=uk2 n 28 ⟨[(0,.cell ⟨.list (.int .u8),cA⟩),(3,.own 0)],[.row 5 (.int .u8) cC]⟩
def qy2:tZ0:=uk2 n 250 ⟨[(3,.own 0),(4,yq1 aA),(5,ci aB)],[.row 5 (.int .u8) cC]⟩
def ud3:qq n cA=if (0+cA.length)*1<=140737488355328 then (if ((([]:List Int)++cA).length+1)*1<=140737488355328 then (ka0 n cA ((([]:List Int)++cA)++([(128:Int)]:List Int))) else none) else none:=by kernel_rfl
def qq3:ka0 (n+1) cA cC=j9 (((cC.length:Int).tmod 64) != 56) (if (cC.length+1)*1<=140737488355328 then (ka0 n cA (cC++([(0:Int)]:List Int))) else none) (qy2 n (u64.wrap ((u64.wrap (cA.length:Int))*8)) 7 cC):=by kernel_rfl
def qq4:qy2 (n+1) aA aB cC=j9 (decide (aB>=0)) (if u64.wrap (i64.wrap (8*aB))<0 then none else (if (cC.length+1)*1<=140737488355328 then (qy2 n aA (i64.wrap (aB-1)) (cC++([u8.wrap (je4 .u64 aA (u64.wrap (i64.wrap (8*aB))))]:List Int))) else none)) (some cC):=by kernel_rfl
def qq_sp:FnSpec TT:=spY uk1
def ud4:zn7 118 qq_sp:=okY v7 func118
def wu9:Ctx TT:=ctZ [] 0 []
def gr0:=zn0 wu9 [] f120 ⟨[],[]⟩ [jf2,jf2] vx4
def qaq:tZ2:=gr0 n (aA,aB)
def we7:qaq n aA aB=if aB<0 then none else (if u64.wrap (32-aB)<0 then none else (some (zo9 .u64 (bOr .u64 (je4 .u64 aA aB) (yg4 .u64 aA (u64.wrap (32-aB)))) 4294967295))):=by kernel_rfl
def qaq_sp:FnSpec TT:=spY gr0
def ks6:zn7 120 qaq_sp:=okY v7 func120
def wx2:Ctx TT:=ctZ [] 0 []
def gt6:=zn0 wx2 [] f152 ⟨[],[]⟩ [jf2,jf2] vx4
def qbr:tZ2:=gt6 n (aA,aB)
def wh7:qbr n aA aB=if aB<0 then none else (some (je4 .u64 aA aB)):=by kernel_rfl
def qbr_sp:FnSpec TT:=spY gt6
def wh8:zn7 152 qbr_sp:=okY v7 func152
def uj2:Ctx TT:=ctZ [(120,qaq_sp.toCall),(152,qbr_sp.toCall)] 0 [(6,1),(13,1)]
def vj3:List (Pos×Cut):= [(zc0 58,⟨[0,3,4],[(3,148,.int .u64)],false,[],0,false⟩),(zc0 122,⟨[3,6],[],false,[],0,false⟩)]
def uj3:=zn0 uj2 vj3 f119 ⟨[],[]⟩ yq9 qd2
def qn:tZ0:=uj3 n cA
noncomputable abbrev uj4:=yx3 uj2 vj3 f119 ⟨[],[]⟩ yq9 qd2
def qy1:tZ0:=uj4 n 58 ⟨[(0,.cell ⟨.list (.int .u8),cA⟩),(3,.own 0),(4,ci aB)],[.row 148 (.int .u64) cC]⟩
def jr5:tZ0:=uj4 n 122 ⟨[(3,.own 0),(6,ci aA)],[.row 148 (.int .u64) cC]⟩
def uc9:qn n cA=qy1 n cA 0 ([]:List Int):=by kernel_rfl
def qq0:qy1 (n+1) cA aB cC=j9 (decide (aB<16)) (if 0<=i64.wrap (4*aB)/\i64.wrap (4*aB)<=i64.wrap ((i64.wrap (4*aB))+4)/\i64.wrap ((i64.wrap (4*aB))+4)<=(cA.length:Int) then (if 0<=(0:Int)/\0<(((List.take (((i64.wrap ((i64.wrap (4*aB))+4)).toNat)-((i64.wrap (4*aB)).toNat)) (List.drop ((i64.wrap (4*aB)).toNat) cA)).length:Nat):Int) then (if 0<=(1:Int)/\1<(((List.take (((i64.wrap ((i64.wrap (4*aB))+4)).toNat)-((i64.wrap (4*aB)).toNat)) (List.drop ((i64.wrap (4*aB)).toNat) cA)).length:Nat):Int) then (if 0<=(2:Int)/\2<(((List.take (((i64.wrap ((i64.wrap (4*aB))+4)).toNat)-((i64.wrap (4*aB)).toNat)) (List.drop ((i64.wrap (4*aB)).toNat) cA)).length:Nat):Int) then (if 0<=(3:Int)/\3<(((List.take (((i64.wrap ((i64.wrap (4*aB))+4)).toNat)-((i64.wrap (4*aB)).toNat)) (List.drop ((i64.wrap (4*aB)).toNat) cA)).length:Nat):Int) then (if (cC.length+1)*8<=140737488355328 then (qy1 n cA (i64.wrap (aB+1)) (cC++([bOr .u64 (bOr .u64 (bOr .u64 (yg4 .u64 (u64.wrap ((List.take (((i64.wrap ((i64.wrap (4*aB))+4)).toNat)-((i64.wrap (4*aB)).toNat)) (List.drop ((i64.wrap (4*aB)).toNat) cA)).getD 0 0)) 24) (yg4 .u64 (u64.wrap ((List.take (((i64.wrap ((i64.wrap (4*aB))+4)).toNat)-((i64.wrap (4*aB)).toNat)) (List.drop ((i64.wrap (4*aB)).toNat) cA)).getD 1 0)) 16)) (yg4 .u64 (u64.wrap ((List.take (((i64.wrap ((i64.wrap (4*aB))+4)).toNat)-((i64.wrap (4*aB)).toNat)) (List.drop ((i64.wrap (4*aB)).toNat) cA)).getD 2 0)) 8)) (u64.wrap ((List.take (((i64.wrap ((i64.wrap (4*aB))+4)).toNat)-((i64.wrap (4*aB)).toNat)) (List.drop ((i64.wrap (4*aB)).toNat) cA)).getD 3 0))]:List Int))) else none) else none) else none) else none) else none) else none) (jr5 n 16 cC):=by kernel_rfl
def qq1:jr5 (n+1) aA cC=j9 (decide (aA<64)) (if 0<=i64.wrap (aA-15)/\i64.wrap (aA-15)<(cC.length:Int) then (if 0<=i64.wrap (aA-2)/\i64.wrap (aA-2)<(cC.length:Int) then (q9 (qaq BIG (cC.getD ((i64.wrap (aA-15)).toNat) 0) 7) fun y1=>q9 (qaq BIG (cC.getD ((i64.wrap (aA-15)).toNat) 0) 18) fun y2=>q9 (qbr BIG (cC.getD ((i64.wrap (aA-15)).toNat) 0) 3) fun y3=>q9 (qaq BIG (cC.getD ((i64.wrap (aA-2)).toNat) 0) 17) fun y4=>q9 (qaq BIG (cC.getD ((i64.wrap (aA-2)).toNat) 0) 19) fun y5=>q9 (qbr BIG (cC.getD ((i64.wrap (aA-2)).toNat) 0) 10) fun y6=>if 0<=i64.wrap (aA-16)/\i64.wrap (aA-16)<(cC.length:Int) then (if 0<=i64.wrap (aA-7)/\i64.wrap (aA-7)<(cC.length:Int) then (if (cC.length+1)*8<=140737488355328 then (jr5 n (i64.wrap (aA+1)) (cC++([zo9 .u64 (u64.wrap ((u64.wrap ((u64.wrap ((cC.getD ((i64.wrap (aA-16)).toNat) 0)+(zt9 .u64 (zt9 .u64 y1 y2) y3)))+(cC.getD ((i64.wrap (aA-7)).toNat) 0)))+(zt9 .u64 (zt9 .u64 y4 y5) y6))) (4294967295:Int)]:List Int))) else none) else none) else none) else none) else none) (some cC):=by kernel_rfl
def qn_sp:FnSpec TT:=spY uj3
def ud0:zn7 119 qn_sp:=okY (za0 (q8 ks6) (za0 (q8 wh8) v7)) func119
def qa_C:Ctx TT:=ctZ [(117,qp_sp.toCall),(118,qq_sp.toCall),(119,qn_sp.toCall),(120,qaq_sp.toCall)] 0 [(22,1),(27,1)]
def wc6:zb2 TT prog qa_C.E:=za0 (q8 ud2) (za0 (q8 ud4) (za0 (q8 ud0) (za0 (q8 ks6) v7)))
def qa4:List (Pos×Cut):= [(zc0 250,⟨[3,4,5,6],[],false,[],0,false⟩),(zc0 128154,⟨[3,4,5,6,7,8,9],[],false,[],0,false⟩),(zc0 128158,⟨[3,4,5,6,8,16],[],false,[],0,false⟩),(zc0 1018,⟨[3,17,18],[(17,5,.int .u8)],false,[],0,false⟩)]
def qa:tZ0:=gz6 TT prog qa_C qa4 f85 (za4 f85) ⟨[],[]⟩ [.val (.list (.int .u8))] [.own 5 (.int .u8)] n cA
noncomputable abbrev go7:=yx3 qa_C qa4 f85 ⟨[],[]⟩ yq9 yi3
def qe5:tZ0:=go7 n 250 ⟨[(3,.own 0),(4,.own 1),(5,.own 2),(6,ci aA)],[.row 148 (.int .u64) cC,.row 148 (.int .u64) cD,.row 5 (.int .u8) cE]⟩
def qx7:tZ0:=go7 n 128154 ⟨[(3,.own 0),(4,.own 1),(5,.own 2),(6,ci aA),(7,.own 3),(8,.own 4),(9,ci aB)],[.row 148 (.int .u64) cC,.row 148 (.int .u64) cD,.row 5 (.int .u8) cE,.row 148 (.int .u64) cF,.row 148 (.int .u64) cG]⟩
def qx8:tZ0:=go7 n 1018 ⟨[(3,.own 0),(17,.own 1),(18,ci aA)],[.row 148 (.int .u64) cC,.row 5 (.int .u8) cD]⟩
def jr3:tZ0:=go7 n 128158 ⟨[(3,.own 0),(4,.own 1),(5,.own 2),(6,ci aA),(8,.own 3),(16,ci aB)],[.row 148 (.int .u64) cC,.row 148 (.int .u64) cD,.row 5 (.int .u8) cE,.row 148 (.int .u64) cF]⟩
def wt2:qa n cA=q9 (qp BIG 8 2) fun y1=>q9 (qp BIG 64 3) fun y2=>q9 (qq BIG cA) fun y3=>qe5 n 0 y1 y2 y3:=by kernel_rfl
def qm9:qe5 (n+1) aA cC cD cE=j9 (decide (aA<(cE.length:Int))) (if 0<=aA/\aA<=i64.wrap (aA+64)/\i64.wrap (aA+64)<=(cE.length:Int) then (if aA.toNat+(((i64.wrap (aA+64)).toNat)-aA.toNat)<=cE.length then (q9 (qn BIG (List.take (((i64.wrap (aA+64)).toNat)-aA.toNat) (List.drop aA.toNat cE))) fun y1=>if (0+cC.length)*8<=140737488355328 then (qx7 n aA 0 cC cD cE y1 (([]:List Int)++cC)) else none) else none) else none) (qx8 n 0 cC ([]:List Int)):=by kernel_rfl
def qn0:qx7 (n+1) aA aB cC cD cE cF cG=j9 (decide (aB<64)) (if 0<=(4:Int)/\4<(cG.length:Int) then (if 0<=(0:Int)/\0<(cG.length:Int) then (if 0<=(5:Int)/\5<(cG.length:Int) then (if 0<=(6:Int)/\6<(cG.length:Int) then (if 0<=(1:Int)/\1<(cG.length:Int) then (if 0<=(2:Int)/\2<(cG.length:Int) then (if 0<=(1:Int)/\1<(cG.length:Int) then (if 0<=(2:Int)/\2<(cG.length:Int) then (if 0<=(7:Int)/\7<(cG.length:Int) then (q9 (qaq BIG (cG.getD 4 0) 6) fun y1=>q9 (qaq BIG (cG.getD 4 0) 11) fun y2=>q9 (qaq BIG (cG.getD 4 0) 25) fun y3=>if 0<=aB/\aB<(cD.length:Int) then (if 0<=aB/\aB<(cF.length:Int) then (q9 (qaq BIG (cG.getD 0 0) 2) fun y4=>q9 (qaq BIG (cG.getD 0 0) 13) fun y5=>q9 (qaq BIG (cG.getD 0 0) 22) fun y6=>if 0<=(0:Int)/\(0:Int)<=7/\7<=(cG.length:Int) then (if 7<=cG.length then (if (1+(List.take 7 (List.drop 0 cG)).length)*8<=140737488355328 then (if 0<=(4:Int)/\4<(((([zo9 .u64 (u64.wrap ((u64.wrap ((u64.wrap ((u64.wrap ((u64.wrap ((cG.getD 7 0)+(zt9 .u64 (zt9 .u64 y1 y2) y3)))+(bOr .u64 (zo9 .u64 (cG.getD 4 0) (cG.getD 5 0)) (zo9 .u64 (zt9 .u64 4294967295 (cG.getD 4 0)) (cG.getD 6 0)))))+(cD.getD aB.toNat 0)))+(cF.getD aB.toNat 0)))+(u64.wrap ((zt9 .u64 (zt9 .u64 y4 y5) y6)+(bOr .u64 (bOr .u64 (zo9 .u64 (cG.getD 0 0) (cG.getD 1 0)) (zo9 .u64 (cG.getD 0 0) (cG.getD 2 0))) (zo9 .u64 (cG.getD 1 0) (cG.getD 2 0))))))) (4294967295:Int)]:List Int)++(List.take 7 (List.drop 0 cG))).length:Nat):Int) then (if 0<=(4:Int)/\4<(((([zo9 .u64 (u64.wrap ((u64.wrap ((u64.wrap ((u64.wrap ((u64.wrap ((cG.getD 7 0)+(zt9 .u64 (zt9 .u64 y1 y2) y3)))+(bOr .u64 (zo9 .u64 (cG.getD 4 0) (cG.getD 5 0)) (zo9 .u64 (zt9 .u64 4294967295 (cG.getD 4 0)) (cG.getD 6 0)))))+(cD.getD aB.toNat 0)))+(cF.getD aB.toNat 0)))+(u64.wrap ((zt9 .u64 (zt9 .u64 y4 y5) y6)+(bOr .u64 (bOr .u64 (zo9 .u64 (cG.getD 0 0) (cG.getD 1 0)) (zo9 .u64 (cG.getD 0 0) (cG.getD 2 0))) (zo9 .u64 (cG.getD 1 0) (cG.getD 2 0))))))) (4294967295:Int)]:List Int)++(List.take 7 (List.drop 0 cG))).length:Nat):Int) then (qx7 n aA (i64.wrap (aB+1)) cC cD cE cF ((([zo9 .u64 (u64.wrap ((u64.wrap ((u64.wrap ((u64.wrap ((u64.wrap ((cG.getD 7 0)+(zt9 .u64 (zt9 .u64 y1 y2) y3)))+(bOr .u64 (zo9 .u64 (cG.getD 4 0) (cG.getD 5 0)) (zo9 .u64 (zt9 .u64 4294967295 (cG.getD 4 0)) (cG.getD 6 0)))))+(cD.getD aB.toNat 0)))+(cF.getD aB.toNat 0)))+(u64.wrap ((zt9 .u64 (zt9 .u64 y4 y5) y6)+(bOr .u64 (bOr .u64 (zo9 .u64 (cG.getD 0 0) (cG.getD 1 0)) (zo9 .u64 (cG.getD 0 0) (cG.getD 2 0))) (zo9 .u64 (cG.getD 1 0) (cG.getD 2 0))))))) (4294967295:Int)]:List Int)++(List.take 7 (List.drop 0 cG))).set 4 (zo9 .u64 (u64.wrap (((([zo9 .u64 (u64.wrap ((u64.wrap ((u64.wrap ((u64.wrap ((u64.wrap ((cG.getD 7 0)+(zt9 .u64 (zt9 .u64 y1 y2) y3)))+(bOr .u64 (zo9 .u64 (cG.getD 4 0) (cG.getD 5 0)) (zo9 .u64 (zt9 .u64 4294967295 (cG.getD 4 0)) (cG.getD 6 0)))))+(cD.getD aB.toNat 0)))+(cF.getD aB.toNat 0)))+(u64.wrap ((zt9 .u64 (zt9 .u64 y4 y5) y6)+(bOr .u64 (bOr .u64 (zo9 .u64 (cG.getD 0 0) (cG.getD 1 0)) (zo9 .u64 (cG.getD 0 0) (cG.getD 2 0))) (zo9 .u64 (cG.getD 1 0) (cG.getD 2 0))))))) (4294967295:Int)]:List Int)++(List.take 7 (List.drop 0 cG))).getD 4 0)+(u64.wrap ((u64.wrap ((u64.wrap ((u64.wrap ((cG.getD 7 0)+(zt9 .u64 (zt9 .u64 y1 y2) y3)))+(bOr .u64 (zo9 .u64 (cG.getD 4 0) (cG.getD 5 0)) (zo9 .u64 (zt9 .u64 4294967295 (cG.getD 4 0)) (cG.getD 6 0)))))+(cD.getD aB.toNat 0)))+(cF.getD aB.toNat 0))))) 4294967295))) else none) else none) else none) else none) else none) else none) else none) else none) else none) else none) else none) else none) else none) else none) else none) else none) (jr3 n aA 0 cC cD cE cG):=by kernel_rfl
def qn2:qx8 (n+1) aA cC cD=j9 (decide (aA<8)) (if 0<=aA/\aA<(cC.length:Int) then (if 0<=aA/\aA<(cC.length:Int) then (if 0<=aA/\aA<(cC.length:Int) then (if 0<=aA/\aA<(cC.length:Int) then (if (cD.length+4)*1<=140737488355328 then (qx8 n (i64.wrap (aA+1)) cC (cD++([u8.wrap (je4 .u64 (cC.getD aA.toNat 0) 24),u8.wrap (je4 .u64 (cC.getD aA.toNat 0) 16),u8.wrap (je4 .u64 (cC.getD aA.toNat 0) 8),u8.wrap (cC.getD aA.toNat 0)]:List Int))) else none) else none) else none) else none) else none) (some cD):=by kernel_rfl
def qn1:jr3 (n+1) aA aB cC cD cE cF=j9 (decide (aB<8)) (if 0<=aB/\aB<(cC.length:Int) then (if 0<=aB/\aB<(cF.length:Int) then (if 0<=aB/\aB<(cC.length:Int) then (jr3 n aA (i64.wrap (aB+1)) (cC.set aB.toNat (zo9 .u64 (u64.wrap ((cC.getD aB.toNat 0)+(cF.getD aB.toNat 0))) 4294967295)) cD cE cF) else none) else none) else none) (qe5 n (i64.wrap (aA+64)) cC cD cE):=by kernel_rfl
def go6: ∃f:(List Int)->Option (List Int),f=qa BIG:=⟨_,rfl⟩
def zs8:(List Int)->Option (List Int):=Classical.choose go6
def ys7:zs8=qa BIG:=S7 go6
def qa_sp:FnSpec TT:=⟨yq9,yi3,fun x=>zs8 x⟩
def vy1:jy2 TT prog 85 qa_sp:=jy9 (C:=qa_C) (by kernel_rfl) wc6 func85 (show f85.body=some (za4 f85) by kernel_rfl) (by kernel_rfl) (by kernel_rfl) (cuts:=qa4) fun x y h=>⟨BIG,(congrArg (fun f=>f x) ys7).symm.trans h⟩
def uh4:Ctx TT:=ctZ [(85,qa_sp.toCall)] 0 []
def vi6:List (Pos×Cut):= [([true,true],⟨[1,5],[],false,[],0,false⟩),(zc0 250,⟨[1,5,6,7],[],false,[],0,false⟩),(zc0 4004,⟨[1,5,6,7],[],false,[],0,false⟩)]
def uh5:=zn0 uh4 vi6 f122 ⟨[],[]⟩ [yh8,.val (.int .u8)] yi3
def qg:tZ0:=uh5 n (cA,aB)
noncomputable abbrev gy0:=yx3 uh4 vi6 f122 ⟨[],[]⟩ [yh8,.val (.int .u8)] yi3
def ub7:tZ0:=gy0 n 7 ⟨[(1,cu8 aA),(5,.own 0)],[.row 5 (.int .u8) cC]⟩
def kv2:tZ0:=gy0 n 7 ⟨[(1,cu8 aA),(5,.cell ⟨.list (.int .u8),cC⟩)],[]⟩
def jp1:tZ0:=gy0 n 250 ⟨[(1,cu8 aA),(5,.cell ⟨.list (.int .u8),cC⟩),(6,.own 0),(7,ci aD)],[.row 5 (.int .u8) cE]⟩
def qf7:tZ0:=gy0 n 4004 ⟨[(1,cu8 aA),(5,.cell ⟨.list (.int .u8),cC⟩),(6,.own 0),(7,ci aD)],[.row 5 (.int .u8) cE]⟩
def ub8:qg n cA aB=j9 (decide ((cA.length:Int)>64)) (q9 (zs8 cA) fun y1=>ub7 n aB y1) (kv2 n aB cA):=by kernel_rfl
def vs9:kv2 (n+1) aA cC=if 0<=(64:Int)/\(64:Int)<=64/\1*64<=281474976710656/\(64:Int)<=9223372036854775807 then (jp1 n aA cC 0 (List.replicate 64 (0:Int))) else none:=by kernel_rfl
def jv9:jp1 (n+1) aA cC aD cE=j9 (decide (aD<64)) (j9 (decide (aD<(cC.length:Int))) (if 0<=aD/\aD<(cC.length:Int) then (if 0<=aD/\aD<(cE.length:Int) then (qf7 n aA cC aD (cE.set aD.toNat (cC.getD aD.toNat 0))) else none) else none) (qf7 n aA cC aD cE)) (some cE):=by kernel_rfl
def vt0:qf7 (n+1) aA cC aD cE=if 0<=aD/\aD<(cE.length:Int) then (if 0<=aD/\aD<(cE.length:Int) then (jp1 n aA cC (i64.wrap (aD+1)) (cE.set aD.toNat (zt9 .u8 (cE.getD aD.toNat 0) aA))) else none) else none:=by kernel_rfl
def qg_sp:FnSpec TT:=spY uh5
def ub9:zn7 122 qg_sp:=okY (za0 (q8 vy1) v7) func122
def ww8:Ctx TT:=ctZ [(122,qg_sp.toCall),(85,qa_sp.toCall)] 0 []
def gt0:=zn0 ww8 [] f87 ⟨[],[]⟩ jo1 yi3
def qbl:tZ0:=gt0 n (cA,cC)
def wg7:qbl n cA cC=q9 (qg BIG cA 54) fun y1=>if (y1.length+cC.length)*1<=140737488355328 then (q9 (zs8 (y1++cC)) fun y2=>q9 (qg BIG cA 92) fun y3=>if (y3.length+y2.length)*1<=140737488355328 then (q9 (zs8 (y3++y2)) fun y4=>some y4) else none) else none:=by kernel_rfl
def qbl_sp:FnSpec TT:=spY gt0
def ku0:zn7 87 qbl_sp:=okY (za0 (q8 ub9) (za0 (q8 vy1) v7)) func87
def uj5:Ctx TT:=ctZ [] 0 []
def vj4:List (Pos×Cut):= [(zc0 12,⟨[1,3],[],false,[],0,false⟩)]
def uj6:=zn0 uj5 vj4 f88 ⟨[],[]⟩ vx3 [jq5]
def qo:tZ2:=uj6 n pA
noncomputable abbrev uo9:=yx3 uj5 vj4 f88 ⟨[],[]⟩ vx3 [jq5]
def vz6:tZ2:=uo9 n 12 ⟨[(1,.ptr 0 0),(3,cb dA)],[.blk 103 [ci aB,.cell ⟨.list (.int .u8),cC⟩,.cell ⟨.list (.int .u8),cD⟩,.cell ⟨.list (.int .u8),cE⟩]]⟩
def ky3:qo n pA=j9 (decide (pA.Version<1)) (vz6 n true pA.Version pA.Code pA.Digest pA.Tag) (vz6 n (decide (pA.Version>1073741824)) pA.Version pA.Code pA.Digest pA.Tag):=by kernel_rfl
def jm3:vz6 (n+1) dA aB cC cD cE=j9 dA (some 2) (j9 (decide ((cC.length:Int)>32768)) (some 3) (j9 ((cD.length:Int) != 32) (some 4) (j9 ((cE.length:Int) != 32) (some 4) (some 0)))):=by kernel_rfl
def qo_sp:FnSpec TT:=spY uj6
def vz7:zn7 88 qo_sp:=okY v7 func88
def qaw_C:Ctx TT:=ctZ [(86,qaz_sp.toCall),(85,qa_sp.toCall),(87,qbl_sp.toCall),(88,qo_sp.toCall)] 0 []
def gg6:zb2 TT prog qaw_C.E:=za0 (q8 vc8) (za0 (q8 vy1) (za0 (q8 ku0) (za0 (q8 vz7) v7)))
def qaw:tZ3:=gz6 TT prog qaw_C [] f47 (za4 f47) ⟨[],[(0,.user 3)]⟩ [.val (.list (.int .u8)),.val (.int .i64),.val (.list (.int .u8))] [.val (.user 3),.val (.int .i64)] n (cA,aB,cC)
def ks7: ∃f:(List Int)->Int->(List Int)->Option (Bundle×Int),f=qaw BIG:=⟨_,rfl⟩
def ji0:(List Int)->Int->(List Int)->Option (Bundle×Int):=Classical.choose ks7
def jp3:ji0=qaw BIG:=S7 ks7
def qaw_sp:FnSpec TT:=⟨[yh8,yh9,yh8],kx1,fun x=>ji0 x.1 x.2.1 x.2.2⟩
def wf6:jy2 TT prog 47 qaw_sp:=jy9 (C:=qaw_C) (by kernel_rfl) gg6 func47 (show f47.body=some (za4 f47) by kernel_rfl) (by kernel_rfl) (by kernel_rfl) (cuts:= []) fun x y h=>⟨BIG,(congrArg (fun f=>f x.1 x.2.1 x.2.2) jp3).symm.trans h⟩
def qbf_C:Ctx TT:=ctZ [(86,qaz_sp.toCall),(85,qa_sp.toCall),(87,qbl_sp.toCall),(88,qo_sp.toCall)] 1 []
def gg8:zb2 TT prog qbf_C.E:=za0 (q8 vc8) (za0 (q8 vy1) (za0 (q8 ku0) (za0 (q8 vz7) v7)))
def qbf:Option ((List Int×Unit)×(Bundle×Int×Unit)):=gk5 TT prog qbf_C [] f47 (za4 f47) ⟨[],[],[],[(0,.user 3)],[]⟩ [.val (.list (.int .u8)),.val (.int .i64),.row 5 (.int .u8)] [.row 5 (.int .u8)] [.val (.user 3),.val (.int .i64)] n (cA,aB,cC,())
def kt4:qbf n cA aB cC=if (0+cC.length)*1<=140737488355328 then (q9 (qaz BIG (⟨aB,([]:List Int)++cC,([]:List Int),([]:List Int)⟩:Bundle)) fun y1=>q9 (zs8 y1) fun y2=>q9 (qbl BIG cA y2) fun y3=>q9 (qo BIG (⟨aB,([]:List Int)++cC,y2,y3⟩:Bundle)) fun y4=>j9 (y4 != 0) (some ((cC,()),((⟨(0:Int),([]:List Int),([]:List Int),([]:List Int)⟩:Bundle),y4,()))) (some ((cC,()),((⟨aB,([]:List Int)++cC,y2,y3⟩:Bundle),0,())))) else none:=by kernel_rfl
def kt5: ∃f:(List Int)->Int->(List Int)->Option ((List Int×Unit)×(Bundle×Int×Unit)),f=qbf BIG:=⟨_,rfl⟩
def yy0:(List Int)->Int->(List Int)->Option ((List Int×Unit)×(Bundle×Int×Unit)):=Classical.choose kt5
def yr5:yy0=qbf BIG:=S7 kt5
def qbf_sp:GSpec TT:=⟨[jn5,yq2,yv1],[zq6],[.val (.user 3),yq2],fun x=>yy0 x.1 x.2.1 x.2.2.1⟩
def wg1:GOk TT prog 47 qbf_sp:=qc4 (C:=qbf_C) (cuts:= []) (by kernel_rfl) gg8 func47 (show f47.body=some (za4 f47) by kernel_rfl) (by kernel_rfl) (by kernel_rfl) (by kernel_rfl) fun x y h=>⟨BIG,(congrArg (fun f=>f x.1 x.2.1 x.2.2.1) yr5).symm.trans h⟩
def ww9:Ctx TT:=ctZ [(88,qo_sp.toCall),(86,qaz_sp.toCall),(89,qax_sp.toCall)] 0 [(4,1)]
def gt1:=zn0 ww9 [] f48 ⟨[],[]⟩ vx3 [.own 5 (.int .u8),jq5]
def qbm:Option (List Int×Int):=gt1 n pA
def ku1:qbm n pA=q9 (qo BIG pA) fun y1=>j9 (y1 != 0) (some (([]:List Int),y1)) (q9 (qaz BIG pA) fun y2=>q9 (qax BIG pA.Digest) fun y3=>if (y2.length+y3.length)*1<=140737488355328 then (q9 (qax BIG pA.Tag) fun y4=>if ((y2++y3).length+y4.length)*1<=140737488355328 then (some ((y2++y3)++y4,0)) else none) else none):=by kernel_rfl
def qbm_sp:FnSpec TT:=spY gt1
def wg8:zn7 48 qbm_sp:=okY (za0 (q8 vz7) (za0 (q8 vc8) (za0 (q8 ks8) v7))) func48
def ww7:Ctx TT:=ctZ [(47,qbf_sp.toCall (qaw_sp.toCall)),(48,qbm_sp.toCall)] 0 []
def gs9:=zn0 ww7 [] f21 ⟨[],[]⟩ [yh9] yi3
def qbk:tZ0:=gs9 n aA
def kt9:qbk n aA=q9 (yy0 ([(107:Int)]:List Int) aA ([(28:Int),0,0,0,0,0,0,(0:Int)]:List Int)) fun y1=>q9 (qbm BIG y1.2.1) fun y2=>some y2.1:=by kernel_rfl
def qbk_sp:FnSpec TT:=spY gs9
def wg6:zn7 21 qbk_sp:=okY (za0 (q7 wg1 (q8 wf6)) (za0 (q8 wg8) v7)) func21
def uk4:Ctx TT:=ctZ [] 0 []
def vj7:List (Pos×Cut):= [(zc0 58,⟨[0,3,4],[],false,[],0,false⟩),(zc0 232,⟨[0,3,4,12],[],false,[],0,false⟩)]
def uk5:=zn0 uk4 vj7 f5 ⟨[],[]⟩ [.val (.list (.user 0))] zn9
def qs:tZ1:=uk5 n o8
noncomputable abbrev uk6:=yx3 uk4 vj7 f5 ⟨[],[]⟩ [.val (.list (.user 0))] zn9
def ka3:tZ1:=uk6 n 58 ⟨[(0,.cell ⟨.list (.user 0),o8⟩),(3,ci aA),(4,ci aB)],[]⟩
def ka2:tZ1:=uk6 n 232 ⟨[(0,.cell ⟨.list (.user 0),o8⟩),(3,ci aA),(4,ci aB),(12,cb dC)],[]⟩
def ud6:qs n o8=ka3 n o8 0 0:=by kernel_rfl
def qq6:ka3 (n+1) o8 aA aB=j9 (decide (aB<(o8.length:Int))) (ka2 n o8 aA aB (decide (aA<6000))) (ka2 n o8 aA aB false):=by kernel_rfl
def qq5:ka2 (n+1) o8 aA aB dC=j9 dC (if 0<=aB/\aB<(o8.length:Int) then (ka3 n o8 (i64.wrap ((i64.wrap (aA+1))+(gd5 ((((o8.getD aB.toNat jd0).Data).length:Nat):Int) 6000))) (i64.wrap (aB+1))) else none) (j9 (decide ((o8.length:Int)<=100)) (some (decide (aA<6000))) (some false)):=by kernel_rfl
def qs_sp:FnSpec TT:=spY uk5
def ud7:zn7 5 qs_sp:=okY v7 func5
end
end Go.X
