import Derived.Test.YtbanjakljpjknaaGreatIa
set_option linter.defProp false
namespace Go.X
open Go.RowKit Go.V Go.Proofs Tryz IntKind
noncomputable section
variable (n:Nat) (d1 d3:List Bool) (r8:Nat) (t9:Known) (aA:Int) (cA:Bool) (pA:Span) (rA:Nat) (tA:Known) (aB:Int) (dB:List Bool) (pB:Span) (aC:Int) (cC:Bool) (dC:List Bool) (aD:Int) (cD:Bool) (dD:List Bool) (aE aG aH:Int) (dH:List Bool) (aI aJ aK aL aM aN aO aP aQ aR:Int)
def zay1:Ctx TT:=⟨za3,[],0,[],v7,za4,za2⟩
def wx1:=ze2 zay1 [] f110 ⟨[],[(0,.list (.bool))]⟩ [] vn7
def qeg:tZ9:=wx1 n ()
def zaa5 (n:Nat):qeg n=if 0<=(512:Int)/\(512:Int)<=512/\1*512<=281474976710656/\(512:Int)<=9223372036854775807 then (some (List.replicate 512 false)) else none:=by kernel_rfl
def qeg_sp:FnSpec TT:=spY wx1
def zaa6:ze3 110 qeg_sp:=okY q8 func110
def qbp_C:Ctx TT:=⟨za3,[],0,[],v7,za4,za2⟩
def wd8:zb1 TT prog qbp_C.E:=q8
def qbp:gp1:=yc4 TT prog qbp_C [] f210 (k7 f210) ⟨[],[],[],[],[]⟩ qp6 [] [.lpk (.bool) 0 0] (.ifc 27 (.val (.int .i64))) n (d1,())
def gl9:qbp n d1=j9 ((d1.length:Int) != 512) (some ((),.inr (2,()))) (if 512<=d1.length then (some ((),.inl (d1,()))) else none):=by kernel_rfl
def qbp_sp:PSpec TT:=⟨qp6,[],[.lpk (.bool) 0 0],.ifc 27 (.val (.int .i64)),fun x=>qbp g9 x.1⟩
def vq0:POk TT prog 210 qbp_sp:=zg5 (C:=qbp_C) (cuts:= []) (by kernel_rfl) wd8 func210 (show f210.body=some (k7 f210) by kernel_rfl) (by kernel_rfl) (by kernel_rfl) (by kernel_rfl) fun x y h=>⟨g9,h⟩
def ql_C:Ctx TT:=⟨za3,[],0,[],v7,za4,za2⟩
def zaj7:zb1 TT prog ql_C.E:=q8
def qm4:List (Pos×Cut):= [([true],⟨[0,1,2],[],false,[],0,false⟩),(zb3 26,⟨[0,1,2,9],[],false,[],0,false⟩),([true,true],⟨[0,1,2],[],false,[],0,false⟩),(zb3 14,⟨[0,1,2,21],[],false,[],0,false⟩)]
def ql:gp1:=yc4 TT prog ql_C qm4 f211 (k7 f211) ⟨[],[],[],[],[]⟩ gi9 [] qp6 (.ifc 27 (.val (.int .i64))) n (d1,aA,aB,())
noncomputable abbrev ud3:=yu6 TT prog ql_C qm4 f211 (k7 f211) ⟨[],[],[],[],[]⟩ [] [.val (.list (.bool))] (.ifc 27 (.val (.int .i64)))
def qs5:gp1:=ud3 n [false,true,false,true] ⟨[(0,.lptr (.bool) d1 0 0),(1,ci aA),(2,ci aB),(9,cb cC)],[]⟩
def ud0:gp1:=ud3 n [true] ⟨[(0,.lptr (.bool) d1 0 0),(1,ci aA),(2,ci aB)],[]⟩
def gt1:gp1:=ud3 n [false,true,true] ⟨[(0,.lptr (.bool) d1 0 0),(1,ci aA),(2,ci aB),(21,cb cC)],[]⟩
def ud1:gp1:=ud3 n [true,true] ⟨[(0,.lptr (.bool) d1 0 0),(1,ci aA),(2,ci aB)],[]⟩
def zbe9:ql n d1 aA aB=j9 (aB==1) (qs5 n d1 aA aB (aB==1)) (j9 (aB==2) (qs5 n d1 aA aB (aB==2)) (j9 (aB==4) (qs5 n d1 aA aB (aB==4)) (qs5 n d1 aA aB (aB==8)))):=by kernel_rfl
def gc0:qs5 (n+1) d1 aA aB cC=j9 cC (ud0 n d1 aA aB) (some ((),.inr (2,()))):=by kernel_rfl
def gb9:ud0 (n+1) d1 aA aB=j9 (decide (aA<(-512:Int))) (gt1 n d1 aA aB true) (gt1 n d1 aA aB (decide (aA>(i64.wrap (0-aB))))):=by kernel_rfl
def jx0:gt1 (n+1) d1 aA aB cC=j9 cC (some ((),.inr (112,()))) (ud1 n d1 aA aB):=by kernel_rfl
def gc1:ud1 (n+1) d1 aA aB=if 512<=d1.length then (if 0<=i64.wrap (512+aA)/\i64.wrap (512+aA)<=512/\(512:Int)<=512 then (if 0<=(0:Int)/\0<=aB/\aB<=(((List.take ((512:Int).toNat-(i64.wrap (512+aA)).toNat) (List.drop ((i64.wrap (512+aA)).toNat) d1)).length:Nat):Int) then (some ((),.inl (List.take (aB.toNat-0) (List.drop 0 (List.take ((512:Int).toNat-(i64.wrap (512+aA)).toNat) (List.drop ((i64.wrap (512+aA)).toNat) d1))),()))) else none) else none) else none:=by kernel_rfl
def ql_sp:PSpec TT:=⟨gi9,[],qp6,.ifc 27 (.val (.int .i64)),fun x=>ql g9 x.1 x.2.1 x.2.2.1⟩
def ud2:POk TT prog 211 ql_sp:=zg5 (C:=ql_C) (cuts:=qm4) (by kernel_rfl) zaj7 func211 (show f211.body=some (k7 f211) by kernel_rfl) (by kernel_rfl) (by kernel_rfl) (by kernel_rfl) fun x y h=>⟨g9,h⟩
def qac_C:Ctx TT:=⟨za3,[(210,qbp_sp.toCall (v4 TT)),(211,ql_sp.toCall (v4 TT))],3,[(1,1)],v7,za4,za2⟩
def wb7:zb1 TT prog qac_C.E:=v8 (za6 vq0 (j8 210)) (v8 (za6 ud2 (j8 211)) q8)
def jv3:List (Pos×Cut):= [(zb3 26,⟨[10,11,12],[],false,[],0,false⟩),(zb3 211,⟨[10,11,12],[],false,[],0,false⟩)]
def qac:tZ11:=yc4 TT prog qac_C jv3 f209 (k7 f209) ⟨[],[],[],[],[]⟩ qp7 jl0 ye0 (.ifc 27 (.val (.int .i64))) n ((d1,()),(aA,()),(aB,()),())
noncomputable abbrev wn3:=yu6 TT prog qac_C jv3 f209 (k7 f209) ⟨[],[],[],[],[]⟩ [.blk 63 [.val (.list (.bool))],.blk 2 [.val (.int .i64)],.blk 3 [.val (.int .i64)]] [.val (.bool)] (.ifc 27 (.val (.int .i64)))
def yl8:tZ11:=wn3 n [false,true,false,true] ⟨[(10,.cell ⟨.list (.bool),d1⟩),(11,ci aA),(12,ci aB)],[.blk 63 [.cell ⟨.list (.bool),dC⟩],.blk 2 [ci aD],.blk 3 [ci aE]]⟩
def gk7:tZ11:=wn3 n [true,true,false,false,true,false,true] ⟨[(10,.cell ⟨.list (.bool),d1⟩),(11,ci aA),(12,ci aB)],[.blk 63 [.cell ⟨.list (.bool),dC⟩],.blk 2 [ci aD],.blk 3 [ci aE]]⟩
def uj7:qac n d1 aA aB=j6 (qbp g9 d1) fun y1=>match y1.2 with| .inl z1=>(j6 (ql g9 z1.1 aA aB) fun y2=>match y2.2 with| .inl z2=>(yl8 n z2.1 (z2.1.length:Int) 0 d1 aA aB)| .inr e2=>(some (((d1,()),(aA,()),(aB,()),()),.inr (e2.1,()))))| .inr e1=>(some (((d1,()),(aA,()),(aB,()),()),.inr (e1.1,()))):=by kernel_rfl
def qh2:yl8 (n+1) d1 aA aB dC aD aE=j9 (decide (aB<aA)) (if 0<=aB/\aB<(d1.length:Int) then (j9 (!(d1.getD aB.toNat false)) (some (((dC,()),(aD,()),(aE,()),()),.inr (110,()))) (gk7 n d1 aA aB dC aD aE)) else none) (some (((dC,()),(aD,()),(aE,()),()),.inl (true,()))):=by kernel_rfl
def kf0:gk7 (n+1) d1 aA aB dC aD aE=yl8 n d1 aA (i64.wrap (aB+1)) dC aD aE:=by kernel_rfl
def qac_sp:PSpec TT:=⟨qp7,jl0,ye0,.ifc 27 (.val (.int .i64)),fun x=>qac g9 x.1.1 x.2.1.1 x.2.2.1.1⟩
def uj8:POk TT prog 209 qac_sp:=zg5 (C:=qac_C) (cuts:=jv3) (by kernel_rfl) wb7 func209 (show f209.body=some (k7 f209) by kernel_rfl) (by kernel_rfl) (by kernel_rfl) (by kernel_rfl) fun x y h=>⟨g9,h⟩
def qgc_C:Ctx TT:=⟨za3,[],1,[],v7,za4,za2⟩
def wf7:zb1 TT prog qgc_C.E:=q8
def qgc:ue9:=yq9 prog qgc_C f242 (k7 f242) [.ptr 0 27 [.val (.int .i64)]] (.rw 1) [.blk 27 [.val (.int .i64)]] ((aA,()),(),())
def zai0:qgc aA=some ((aA,()),()):=by kernel_rfl
def vw3:DSpec TT:=⟨[.ptr 0 27 [.val (.int .i64)]],.rw 1,[.blk 27 [.val (.int .i64)]],fun x=>qgc x.1.1⟩
def wf6:DOk TT prog 242 vw3:=yf7 (C:=qgc_C) (by kernel_rfl) wf7 func242 (show f242.body=some (k7 f242) by kernel_rfl) (by kernel_rfl) (by kernel_rfl) (by kernel_rfl) (by kernel_rfl) fun x y h=>h
def qfq_C:Ctx TT:=⟨za3,[],1,[],v7,za4,za2⟩
def wf1:zb1 TT prog qfq_C.E:=q8
def qfq:ue9:=yq9 prog qfq_C f242 (k7 f242) [.ptr 0 27 [.val (.int .i64)]] (.ifc 27 (.val (.int .i64))) [.blk 27 [.val (.int .i64)]] ((aA,()),aB,())
def go1:qfq aA aB=some ((aB,()),()):=by kernel_rfl
def vw0:DSpec TT:=⟨[.ptr 0 27 [.val (.int .i64)]],.ifc 27 (.val (.int .i64)),[.blk 27 [.val (.int .i64)]],fun x=>qfq x.1.1 x.2.1⟩
def wf0:DOk TT prog 242 vw0:=yf7 (C:=qfq_C) (by kernel_rfl) wf1 func242 (show f242.body=some (k7 f242) by kernel_rfl) (by kernel_rfl) (by kernel_rfl) (by kernel_rfl) (by kernel_rfl) fun x y h=>h
def qcs_C:Ctx TT:=⟨za3,[(209,qac_sp.toCall (v4 TT))],3,[],v7,za4,za2⟩
def we3:zb1 TT prog qcs_C.E:=v8 (za6 uj8 (j8 209)) q8
def wt3:DefP TT:=⟨1,4,[4,0,2,3],4,242,[(3,0)],vw3,vw0⟩
def qcs:Option (((List Bool×Unit)×(Int×Unit)×(Int×Unit)×Unit)×(Bool×Int×Unit)):=kq0 prog qcs_C [] f208 (k7 f208) ⟨[],[],[],[],[]⟩ [.fn 209 [] [.ptr 0 63 [.val (.list (.bool))],.ptr 0 2 [.val (.int .i64)],.ptr 0 3 [.val (.int .i64)]]] [.blk 63 [.val (.list (.bool))],.blk 2 [.val (.int .i64)],.blk 3 [.val (.int .i64)]] [.val (.bool),.val (.int .i64)] wt3 n (((),((d1,()),(aA,()),(aB,()),())),())
def ut4:qcs n d1 aA aB=j6 (qac g9 d1 aA aB) fun y1=>match y1.2 with| .inl z1=>(j6 (qgc 0) fun y2=>some (((y1.1.1.1,()),(y1.1.2.1.1,()),(y1.1.2.2.1.1,()),()),(z1.1,y2.1.1,())))| .inr e1=>(j6 (qfq 0 e1.1) fun y3=>some (((y1.1.1.1,()),(y1.1.2.1.1,()),(y1.1.2.2.1.1,()),()),(false,y3.1.1,()))):=by kernel_rfl
def qcs_sp:GSpec TT:=⟨[.fn 209 [] [.ptr 0 63 [.val (.list (.bool))],.ptr 0 2 [.val (.int .i64)],.ptr 0 3 [.val (.int .i64)]]],jl0,[yo7,ze9],fun x=>qcs g9 x.1.2.1.1 x.1.2.2.1.1 x.1.2.2.2.1.1⟩
def ut5:GOk TT prog 208 qcs_sp:=ys2 (C:=qcs_C) (cuts:= []) (D:=wt3) (by kernel_rfl) we3 func208 (show f208.body=some (k7 f208) by kernel_rfl) (by kernel_rfl) (by kernel_rfl) (by kernel_rfl) wf6 wf0 fun x y h=>⟨g9,h⟩
def zau0:Ctx TT:=⟨za3,[(208,qcs_sp.toCall (v4 TT))],0,[],v7,za4,za2⟩
def wt1:=ze2 zau0 [] f174 ⟨[],[]⟩ [jz2,zi4,zi4] yp5
def qcq:tZ0:=wt1 n (d1,aA,aB)
def ut0:qcq n d1 aA aB=j6 (qcs g9 d1 aA aB) fun y1=>some y1.2.2.1:=by kernel_rfl
def qcq_sp:FnSpec TT:=spY wt1
def ut1:ze3 174 qcq_sp:=okY (v8 (q9 ut5 (j8 208)) q8) func174
def qx_C:Ctx TT:=⟨za3,[(210,qbp_sp.toCall (v4 TT))],2,[(1,1)],v7,za4,za2⟩
def zak1:zb1 TT prog qx_C.E:=v8 (za6 vq0 (j8 210)) q8
def qm6:List (Pos×Cut):= [(zb3 58,⟨[3,4,12],[],false,[],0,false⟩),(zb3 467,⟨[3,4,12],[],false,[],0,false⟩)]
def qx:tZ13:=yc4 TT prog qx_C qm6 f263 (k7 f263) ⟨[],[],[],[],[0]⟩ [jz3,jz3] [yx6,yx6] kl7 (.ifc 27 (.val (.int .i64))) n ((d1,()),(d3,()),())
noncomputable abbrev qx_z:=yu6 TT prog qx_C qm6 f263 (k7 f263) ⟨[],[],[],[],[0]⟩ [.blk 63 [.val (.list (.bool))],.blk 63 [.val (.list (.bool))]] [.row 304 (.bool)] (.ifc 27 (.val (.int .i64)))
def jj8:tZ13:=qx_z n [false,true,false,true,true] ⟨[(3,.ptr 2 0),(4,.lptr (.bool) d1 0 0),(12,ci aA)],[.blk 63 [.cell ⟨.list (.bool),dB⟩],.blk 63 [.cell ⟨.list (.bool),dC⟩],.blk 304 [.arr (.bool) 512 dD]]⟩
def kn8:tZ13:=qx_z n [true,true,false,false,true,false,true,true] ⟨[(3,.ptr 2 0),(4,.lptr (.bool) d1 0 0),(12,ci aA)],[.blk 63 [.cell ⟨.list (.bool),dB⟩],.blk 63 [.cell ⟨.list (.bool),dC⟩],.blk 304 [.arr (.bool) 512 dD]]⟩
def zbg2:qx n d1 d3=j6 (qbp g9 d1) fun y1=>match y1.2 with| .inl z1=>(if 512<=z1.1.length then (j6 (qbp g9 d3) fun y2=>match y2.2 with| .inl z2=>(jj8 n z2.1 0 d1 d3 (List.take 512 (List.drop 0 z1.1)))| .inr e2=>(some (((d1,()),(d3,()),()),.inr (e2.1,())))) else none)| .inr e1=>(some (((d1,()),(d3,()),()),.inr (e1.1,()))):=by kernel_rfl
def vb2:jj8 (n+1) d1 aA dB dC dD=j9 (decide (aA<512)) (if 0<=aA/\aA<512 then (j9 (dD.getD aA.toNat false) (if 0<=aA/\aA<512 then (if 0+aA.toNat<d1.length then (if 0<=aA/\aA<512 then (kn8 n d1 aA dB dC (dD.set aA.toNat (d1.getD (0+aA.toNat) false))) else none) else none) else none) (if 0<=aA/\aA<512 then (kn8 n d1 aA dB dC (dD.set aA.toNat false)) else none)) else none) (some (((dB,()),(dC,()),()),.inl (dD,()))):=by kernel_rfl
def gd3:kn8 (n+1) d1 aA dB dC dD=jj8 n d1 (i64.wrap (aA+1)) dB dC dD:=by kernel_rfl
def qx_sp:PSpec TT:=⟨[jz3,jz3],[yx6,yx6],kl7,.ifc 27 (.val (.int .i64)),fun x=>qx g9 x.1.1 x.2.1.1⟩
def zbg3:POk TT prog 263 qx_sp:=zg5 (C:=qx_C) (cuts:=qm6) (by kernel_rfl) zak1 func263 (show f263.body=some (k7 f263) by kernel_rfl) (by kernel_rfl) (by kernel_rfl) (by kernel_rfl) fun x y h=>⟨g9,h⟩
def qcu_C:Ctx TT:=⟨za3,[],1,[],v7,za4,za2⟩
def we5:zb1 TT prog qcu_C.E:=q8
def qcu:ue9:=yq9 prog qcu_C f245 (k7 f245) [.ptr 0 27 [.val (.int .i64)]] (.rw 1) [.blk 27 [.val (.int .i64)]] ((aA,()),(),())
def gn2:qcu aA=some ((aA,()),()):=by kernel_rfl
def qm0:DSpec TT:=⟨[.ptr 0 27 [.val (.int .i64)]],.rw 1,[.blk 27 [.val (.int .i64)]],fun x=>qcu x.1.1⟩
def vv6:DOk TT prog 245 qm0:=yf7 (C:=qcu_C) (by kernel_rfl) we5 func245 (show f245.body=some (k7 f245) by kernel_rfl) (by kernel_rfl) (by kernel_rfl) (by kernel_rfl) (by kernel_rfl) fun x y h=>h
def qcv_C:Ctx TT:=⟨za3,[],1,[],v7,za4,za2⟩
def we6:zb1 TT prog qcv_C.E:=q8
def qcv:ue9:=yq9 prog qcv_C f245 (k7 f245) [.ptr 0 27 [.val (.int .i64)]] (.ifc 27 (.val (.int .i64))) [.blk 27 [.val (.int .i64)]] ((aA,()),aB,())
def gn3:qcv aA aB=some ((aB,()),()):=by kernel_rfl
def qm1:DSpec TT:=⟨[.ptr 0 27 [.val (.int .i64)]],.ifc 27 (.val (.int .i64)),[.blk 27 [.val (.int .i64)]],fun x=>qcv x.1.1 x.2.1⟩
def vv7:DOk TT prog 245 qm1:=yf7 (C:=qcv_C) (by kernel_rfl) we6 func245 (show f245.body=some (k7 f245) by kernel_rfl) (by kernel_rfl) (by kernel_rfl) (by kernel_rfl) (by kernel_rfl) fun x y h=>h
def qcg_C:Ctx TT:=⟨za3,[(263,qx_sp.toCall (v4 TT))],2,[],v7,za4,za2⟩
def we0:zb1 TT prog qcg_C.E:=v8 (za6 zbg3 (j8 263)) q8
def ws2:DefP TT:=⟨1,4,[4,0,2,3],3,245,[(2,0)],qm0,qm1⟩
def qcg:Option (((List Bool×Unit)×(List Bool×Unit)×Unit)×(List Bool×Int×Unit)):=kq0 prog qcg_C [] f214 (k7 f214) ⟨[(0,304,.bool,true)],[],[],[],[]⟩ [.fn 263 [] [.ptr 0 63 [.val (.list (.bool))],.ptr 0 63 [.val (.list (.bool))]]] [.blk 63 [.val (.list (.bool))],.blk 63 [.val (.list (.bool))]] [.row 304 (.bool),.val (.int .i64)] ws2 n (((),((d1,()),(d3,()),())),())
def ur8:qcg n d1 d3=j6 (qx g9 d1 d3) fun y1=>match y1.2 with| .inl z1=>(j6 (qcu 0) fun y2=>some (((y1.1.1.1,()),(y1.1.2.1.1,()),()),(z1.1,y2.1.1,())))| .inr e1=>(j6 (qcv 0 e1.1) fun y3=>some (((y1.1.1.1,()),(y1.1.2.1.1,()),()),(([]:List Bool),y3.1.1,()))):=by kernel_rfl
def qcg_sp:GSpec TT:=⟨[.fn 263 [] [.ptr 0 63 [.val (.list (.bool))],.ptr 0 63 [.val (.list (.bool))]]],[yx6,yx6],[.row 304 (.bool),ze9],fun x=>qcg g9 x.1.2.1.1 x.1.2.2.1.1⟩
def gm5:GOk TT prog 214 qcg_sp:=ys2 (C:=qcg_C) (cuts:= []) (D:=ws2) (by kernel_rfl) we0 func214 (show f214.body=some (k7 f214) by kernel_rfl) (by kernel_rfl) (by kernel_rfl) (by kernel_rfl) vv6 vv7 fun x y h=>⟨g9,h⟩
def zas3:Ctx TT:=⟨za3,[(214,qcg_sp.toCall (v4 TT))],0,[],v7,za4,za2⟩
def wr5:=ze2 zas3 [] f244 ⟨[],[(0,.list (.bool))]⟩ [jz2,jz2] vn7
def qbz:tZ9:=wr5 n (d1,d3)
def uq8:qbz n d1 d3=j6 (qcg g9 d1 d3) fun y1=>some y1.2.1:=by kernel_rfl
def qbz_sp:FnSpec TT:=spY wr5
def gm1:ze3 244 qbz_sp:=okY (v8 (q9 gm5 (j8 214)) q8) func244
def qo_C:Ctx TT:=⟨za3,[],1,[],v7,za4,za2⟩
def zaj8:zb1 TT prog qo_C.E:=q8
def qm5:List (Pos×Cut):= [([true],⟨[0,1,2],[],false,[],0,false⟩),(zb3 26,⟨[0,1,2,9],[],false,[],0,false⟩),([true,true],⟨[0,1,2],[],false,[],0,false⟩),(zb3 14,⟨[0,1,2,21],[],false,[],0,false⟩)]
def qo:wh7:=yc4 TT prog qo_C qm5 f211 (k7 f211) ⟨[],[],[],[],[]⟩ gj0 [.blk 304 [.arr (.bool) 512]] [.asp 0 0 1 512] (.ifc 27 (.val (.int .i64))) n ((d1,()),aA,aB,())
noncomputable abbrev ud6:=yu6 TT prog qo_C qm5 f211 (k7 f211) ⟨[],[],[],[],[]⟩ [.blk 304 [.arr (.bool) 512]] [.asp 0 0 1 512] (.ifc 27 (.val (.int .i64)))
def qs6:wh7:=ud6 n [false,true,false,true] ⟨[(0,.ptr 0 0),(1,ci aA),(2,ci aB),(9,cb cC)],[.blk 304 [.arr (.bool) 512 dD]]⟩
def ud4:wh7:=ud6 n [true] ⟨[(0,.ptr 0 0),(1,ci aA),(2,ci aB)],[.blk 304 [.arr (.bool) 512 dC]]⟩
def gt2:wh7:=ud6 n [false,true,true] ⟨[(0,.ptr 0 0),(1,ci aA),(2,ci aB),(21,cb cC)],[.blk 304 [.arr (.bool) 512 dD]]⟩
def ud5:wh7:=ud6 n [true,true] ⟨[(0,.ptr 0 0),(1,ci aA),(2,ci aB)],[.blk 304 [.arr (.bool) 512 dC]]⟩
def zbf2:qo n d1 aA aB=j9 (aB==1) (qs6 n aA aB (aB==1) d1) (j9 (aB==2) (qs6 n aA aB (aB==2) d1) (j9 (aB==4) (qs6 n aA aB (aB==4) d1) (qs6 n aA aB (aB==8) d1))):=by kernel_rfl
def gc3:qs6 (n+1) aA aB cC dD=j9 cC (ud4 n aA aB dD) (some (((dD,()),()),.inr (2,()))):=by kernel_rfl
def gc2:ud4 (n+1) aA aB dC=j9 (decide (aA<(-512:Int))) (gt2 n aA aB true dC) (gt2 n aA aB (decide (aA>(i64.wrap (0-aB)))) dC):=by kernel_rfl
def jx1:gt2 (n+1) aA aB cC dD=j9 cC (some (((dD,()),()),.inr (112,()))) (ud5 n aA aB dD):=by kernel_rfl
def gc4:ud5 (n+1) aA aB dC=if 0<=i64.wrap (512+aA)/\i64.wrap (512+aA)<=512/\(512:Int)<=512 then (if 0<=(0:Int)/\0<=aB/\(((i64.wrap (512+aA)).toNat:Nat):Int)+aB<=512 then (some (((dC,()),()),.inl ((((i64.wrap (512+aA)).toNat)+0,aB.toNat-0),()))) else none) else none:=by kernel_rfl
def qo_sp:PSpec TT:=⟨gj0,[.blk 304 [.arr (.bool) 512]],[.asp 0 0 1 512],.ifc 27 (.val (.int .i64)),fun x=>qo g9 x.1.1 x.2.1 x.2.2.1⟩
def zbf3:POk TT prog 211 qo_sp:=zg5 (C:=qo_C) (cuts:=qm5) (by kernel_rfl) zaj8 func211 (show f211.body=some (k7 f211) by kernel_rfl) (by kernel_rfl) (by kernel_rfl) (by kernel_rfl) fun x y h=>⟨g9,h⟩
def qar_C:Ctx TT:=⟨za3,[(210,qbp_sp.toCall (v4 TT)),(211,qo_sp.toCall (ql_sp.toCall (v4 TT)))],3,[],v7,za4,za2⟩
def wc3:zb1 TT prog qar_C.E:=v8 (za6 vq0 (j8 210)) (v8 (za6 zbf3 (za6 ud2 (j8 211))) q8)
def jv8:List (Pos×Cut):= [(zb3 122,⟨[4,5,15,16],[],false,[],0,false⟩)]
def qar:tZ15:=yc4 TT prog qar_C jv8 f215 (k7 f215) ⟨[],[],[],[],[0]⟩ qp7 jl0 kl7 (.ifc 27 (.val (.int .i64))) n ((d1,()),(aA,()),(aB,()),())
noncomputable abbrev zap1:=yu6 TT prog qar_C jv8 f215 (k7 f215) ⟨[],[],[],[],[0]⟩ [.blk 63 [.val (.list (.bool))],.blk 2 [.val (.int .i64)],.blk 3 [.val (.int .i64)]] [.row 304 (.bool)] (.ifc 27 (.val (.int .i64)))
def yt4:tZ15:=zap1 n [false,true,false,true,true,true] ⟨[(4,.ptr 3 0),(5,.asl 3 0 1 512 r8 rA),(15,ci aB),(16,ci aC)],[.blk 63 [.cell ⟨.list (.bool),dD⟩],.blk 2 [ci aE],.blk 3 [ci aG],.blk 304 [.arr (.bool) 512 dH]]⟩
def ul9:qar n d1 aA aB=j6 (qbp g9 d1) fun y1=>match y1.2 with| .inl z1=>(if 512<=z1.1.length then (j6 (qo g9 (List.take 512 (List.drop 0 z1.1)) aA aB) fun y2=>match y2.2 with| .inl z2=>(yt4 n z2.1.1 z2.1.2 (z2.1.2:Int) 0 d1 aA aB y2.1.1.1)| .inr e2=>(some (((d1,()),(aA,()),(aB,()),()),.inr (e2.1,())))) else none)| .inr e1=>(some (((d1,()),(aA,()),(aB,()),()),.inr (e1.1,()))):=by kernel_rfl
def qh7:yt4 (n+1) r8 rA aB aC dD aE aG dH=j9 (decide (aC<aB)) (if 0<=aC/\aC<(rA:Int) then (yt4 n r8 rA aB (i64.wrap (aC+1)) dD aE aG (dH.set (r8+aC.toNat) true)) else none) (some (((dD,()),(aE,()),(aG,()),()),.inl (dH,()))):=by kernel_rfl
def qar_sp:PSpec TT:=⟨qp7,jl0,kl7,.ifc 27 (.val (.int .i64)),fun x=>qar g9 x.1.1 x.2.1.1 x.2.2.1.1⟩
def um0:POk TT prog 215 qar_sp:=zg5 (C:=qar_C) (cuts:=jv8) (by kernel_rfl) wc3 func215 (show f215.body=some (k7 f215) by kernel_rfl) (by kernel_rfl) (by kernel_rfl) (by kernel_rfl) fun x y h=>⟨g9,h⟩
def qct_C:Ctx TT:=⟨za3,[(215,qar_sp.toCall (v4 TT))],3,[],v7,za4,za2⟩
def we4:zb1 TT prog qct_C.E:=v8 (za6 um0 (j8 215)) q8
def wt4:DefP TT:=⟨1,4,[4,0,2,3],4,245,[(3,0)],qm0,qm1⟩
def qct:Option (((List Bool×Unit)×(Int×Unit)×(Int×Unit)×Unit)×(List Bool×Int×Unit)):=kq0 prog qct_C [] f214 (k7 f214) ⟨[(0,304,.bool,true)],[],[],[],[]⟩ [.fn 215 [] [.ptr 0 63 [.val (.list (.bool))],.ptr 0 2 [.val (.int .i64)],.ptr 0 3 [.val (.int .i64)]]] [.blk 63 [.val (.list (.bool))],.blk 2 [.val (.int .i64)],.blk 3 [.val (.int .i64)]] [.row 304 (.bool),.val (.int .i64)] wt4 n (((),((d1,()),(aA,()),(aB,()),())),())
def ut6:qct n d1 aA aB=j6 (qar g9 d1 aA aB) fun y1=>match y1.2 with| .inl z1=>(j6 (qcu 0) fun y2=>some (((y1.1.1.1,()),(y1.1.2.1.1,()),(y1.1.2.2.1.1,()),()),(z1.1,y2.1.1,())))| .inr e1=>(j6 (qcv 0 e1.1) fun y3=>some (((y1.1.1.1,()),(y1.1.2.1.1,()),(y1.1.2.2.1.1,()),()),(([]:List Bool),y3.1.1,()))):=by kernel_rfl
def qct_sp:GSpec TT:=⟨[.fn 215 [] [.ptr 0 63 [.val (.list (.bool))],.ptr 0 2 [.val (.int .i64)],.ptr 0 3 [.val (.int .i64)]]],jl0,[.row 304 (.bool),ze9],fun x=>qct g9 x.1.2.1.1 x.1.2.2.1.1 x.1.2.2.2.1.1⟩
def ut7:GOk TT prog 214 qct_sp:=ys2 (C:=qct_C) (cuts:= []) (D:=wt4) (by kernel_rfl) we4 func214 (show f214.body=some (k7 f214) by kernel_rfl) (by kernel_rfl) (by kernel_rfl) (by kernel_rfl) vv6 vv7 fun x y h=>⟨g9,h⟩
def zau2:Ctx TT:=⟨za3,[(214,qct_sp.toCall (qcg_sp.toCall (v4 TT)))],0,[],v7,za4,za2⟩
def wt2:=ze2 zau2 [] f180 ⟨[],[(0,.list (.bool))]⟩ [jz2,zi4,zi4] [.val (.list (.bool)),yk9]
def qcr:Option (List Bool×Int):=wt2 n (d1,aA,aB)
def ut2:qcr n d1 aA aB=j6 (qct g9 d1 aA aB) fun y1=>some (y1.2.1,y1.2.2.1):=by kernel_rfl
def qcr_sp:FnSpec TT:=spY wt2
def ut3:ze3 180 qcr_sp:=okY (v8 (q9 ut7 (q9 gm5 (j8 214))) q8) func180
def zao4:Ctx TT:=⟨za3,[],0,[(3,1)],v7,za4,za2⟩
def wo2:=ze2 zao4 [] f217 ⟨[],[]⟩ [yo6] [.val (.user 0),.val (.bool)]
def qaj:Option (Span×Bool):=wo2 n t9
def uk7:qaj n t9=j9 (t9.Kind==4) (some ((⟨(0:Int),(65535:Int)⟩:Span),true)) (some ((⟨t9.In_Lo,t9.In_Hi⟩:Span),t9.Kind==1)):=by kernel_rfl
def qaj_sp:FnSpec TT:=spY wo2
def gl0:ze3 217 qaj_sp:=okY q8 func217
def zap2:Ctx TT:=⟨za3,[],0,[],v7,za4,za2⟩
def wp1:=ze2 zap2 [] f213 ⟨[],[]⟩ [zi3] yd9
def qas:ji8:=wp1 n aA
def um1:qas n aA=some (⟨aA,aA⟩:Span):=by kernel_rfl
def qas_sp:FnSpec TT:=spY wp1
def jl9:ze3 213 qas_sp:=okY q8 func213
def qn_C:Ctx TT:=⟨za3,[],0,[],v7,za4,za2⟩
def qn_t:=ze2 qn_C [] f220 ⟨[],[]⟩ [yz6] zk0
def qn:tZ1:=qn_t n pA
def zbf1:qn n pA=some (decide (pA.Lo<=pA.Hi)):=by kernel_rfl
def qn_sp:FnSpec TT:=spY qn_t
def kn2:ze3 220 qn_sp:=okY q8 func220
def qy_C:Ctx TT:=⟨za3,[(213,qas_sp.toCall),(220,qn_sp.toCall)],0,[],v7,za4,za2⟩
def vx1:List (Pos×Cut):= [(zb3 26,⟨[1],[],false,[],0,false⟩),(zb3 208,⟨[1],[],false,[],0,false⟩)]
def qy_t:=ze2 qy_C vx1 f216 ⟨[],[]⟩ [yo6] zk0
def qy:tZ1:=qy_t n t9
noncomputable abbrev qy_z:=jm9 qy_C vx1 f216 ⟨[],[]⟩ [yo6] zk0
def gt8:tZ1:=qy_z n 208 ⟨[(1,.ptr 0 0)],[.blk 133 [cu8 aA,k8 aB,k8 aC]]⟩
def gt7:tZ1:=qy_z n 26 ⟨[(1,.ptr 0 0)],[.blk 133 [cu8 aA,k8 aB,k8 aC]]⟩
def zbg4:qy n t9=j9 (t9.Kind==4) (gt8 n t9.Kind t9.In_Lo t9.In_Hi) (j9 (t9.Kind==0) (gt8 n t9.Kind t9.In_Lo t9.In_Hi) (j9 (t9.Kind==1) (gt7 n t9.Kind t9.In_Lo t9.In_Hi) (j9 (t9.Kind==2) (gt7 n t9.Kind t9.In_Lo t9.In_Hi) (j9 (t9.Kind==3) (j6 (qas g9 t9.In_Lo) fun y1=>some ((t9.In_Lo==y1.Lo)&&(t9.In_Hi==y1.Hi))) (some false))))):=by kernel_rfl
def gd5:gt8 (n+1) aA aB aC=some ((aB==0)&&(aC==0)):=by kernel_rfl
def gd4:gt7 (n+1) aA aB aC=j6 (qn g9 (⟨aB,aC⟩:Span)) fun y1=>some y1:=by kernel_rfl
def qy_sp:FnSpec TT:=spY qy_t
def ue1:ze3 216 qy_sp:=okY (v8 (q7 jl9) (v8 (q7 kn2) q8)) func216
def zav5:Ctx TT:=⟨za3,[],0,[],v7,za4,za2⟩
def wu5:=ze2 zav5 [] f262 ⟨[],[]⟩ qa0 yd9
def qdg:ji8:=wu5 n (pA,pB)
def uv3:qdg n pA pB=some (⟨yi5 pA.Lo pB.Lo,zq9 pA.Hi pB.Hi⟩:Span):=by kernel_rfl
def qdg_sp:FnSpec TT:=spY wu5
def uv4:ze3 262 qdg_sp:=okY q8 func262
def qs_C:Ctx TT:=⟨za3,[(217,qaj_sp.toCall),(216,qy_sp.toCall),(262,qdg_sp.toCall)],0,[],v7,za4,za2⟩
def vw9:List (Pos×Cut):= [(zb3 60,⟨[2,3,4,5,6,7,8,19],[],false,[],0,false⟩),(zb3 975,⟨[2,3,4,5,7,34],[],false,[],0,false⟩),(zb3 3903,⟨[2,3,4,43],[],false,[],0,false⟩)]
def qs_t:=ze2 qs_C vw9 f243 ⟨[],[]⟩ [yo6,yo6] [.val (.user 1)]
def qs:uf0:=qs_t n (t9,tA)
noncomputable abbrev qs_z:=jm9 qs_C vw9 f243 ⟨[],[]⟩ [yo6,yo6] [.val (.user 1)]
def gt4:uf0:=qs_z n 60 ⟨[(2,.ptr 0 0),(3,.ptr 1 0),(4,.ptr 2 0),(5,.ptr 3 0),(6,cb cA),(7,.ptr 4 0),(8,cb cC),(19,cb cD)],[.blk 133 [cu8 aE,k8 aG,k8 aH],.blk 133 [cu8 aI,k8 aJ,k8 aK],.blk 133 [cu8 aL,k8 aM,k8 aN],.blk 131 [k8 aO,k8 aP],.blk 131 [k8 aQ,k8 aR]]⟩
def gt5:uf0:=qs_z n 975 ⟨[(2,.ptr 0 0),(3,.ptr 1 0),(4,.ptr 2 0),(5,.ptr 3 0),(7,.ptr 4 0),(34,cb cA)],[.blk 133 [cu8 aB,k8 aC,k8 aD],.blk 133 [cu8 aE,k8 aG,k8 aH],.blk 133 [cu8 aI,k8 aJ,k8 aK],.blk 131 [k8 aL,k8 aM],.blk 131 [k8 aN,k8 aO]]⟩
def gt6:uf0:=qs_z n 3903 ⟨[(2,.ptr 0 0),(3,.ptr 1 0),(4,.ptr 2 0),(43,cb cA)],[.blk 133 [cu8 aB,k8 aC,k8 aD],.blk 133 [cu8 aE,k8 aG,k8 aH],.blk 133 [cu8 aI,k8 aJ,k8 aK]]⟩
def zbf8:qs n t9 tA=j6 (qaj g9 t9) fun y1=>j6 (qaj g9 tA) fun y2=>j6 (qy g9 t9) fun y3=>j9 (!y3) (gt4 n y1.2 y2.2 true t9.Kind t9.In_Lo t9.In_Hi tA.Kind tA.In_Lo tA.In_Hi 0 0 0 y1.1.Lo y1.1.Hi y2.1.Lo y2.1.Hi) (j6 (qy g9 tA) fun y4=>gt4 n y1.2 y2.2 (!y4) t9.Kind t9.In_Lo t9.In_Hi tA.Kind tA.In_Lo tA.In_Hi 0 0 0 y1.1.Lo y1.1.Hi y2.1.Lo y2.1.Hi):=by kernel_rfl
def gc9:gt4 (n+1) cA cC cD aE aG aH aI aJ aK aL aM aN aO aP aQ aR=j9 cD (some (⟨(0:Int),0,(0:Int)⟩:Known)) (j9 ((aE==aI)&&((aG==aJ)&&(aH==aK))) (some (⟨aE,aG,aH⟩:Known)) (j9 cA (gt5 n cC aE aG aH aI aJ aK aL aM aN aO aP aQ aR) (gt5 n false aE aG aH aI aJ aK aL aM aN aO aP aQ aR))):=by kernel_rfl
def gd0:gt5 (n+1) cA aB aC aD aE aG aH aI aJ aK aL aM aN aO=j9 cA (j6 (qdg g9 (⟨aL,aM⟩:Span) (⟨aN,aO⟩:Span)) fun y1=>some (⟨(1:Int),y1.Lo,y1.Hi⟩:Known)) (j9 (aB==2) (gt6 n (aE==2) aB aC aD aE aG aH aI aJ aK) (gt6 n false aB aC aD aE aG aH aI aJ aK)):=by kernel_rfl
def gd1:gt6 (n+1) cA aB aC aD aE aG aH aI aJ aK=j9 cA (j6 (qdg g9 (⟨aC,aD⟩:Span) (⟨aG,aH⟩:Span)) fun y1=>some (⟨(2:Int),y1.Lo,y1.Hi⟩:Known)) (some (⟨(0:Int),0,(0:Int)⟩:Known)):=by kernel_rfl
def qs_sp:FnSpec TT:=spY qs_t
def ud8:ze3 243 qs_sp:=okY (v8 (q7 gl0) (v8 (q7 ue1) (v8 (q7 uv4) q8))) func243
end
end Go.X
