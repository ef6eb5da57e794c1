import Derived.Test.YtbanjakljpjknaaGreatTb
set_option linter.defProp false
namespace Go.X
open Go.RowKit Go.V Go.Proofs Tryz IntKind
noncomputable section
variable (n:Nat) (i4:List Int) (f6:List Ins) (r8:Nat) (aA:Int) (cA:Bool) (rA:Nat) (sA:Ins) (aB:Int) (fB:List Ins) (iB:List Int) (rB:Nat) (aC:Int) (cC:Bool) (dC:List Bool) (rC:Nat) (aD:Int) (cD:Bool) (fD:List Ins) (aE:Int) (cE:Bool) (dE:List Bool) (aG:Int) (cG:Bool) (fG:List Ins) (aH:Int) (cH:Bool) (dH:List Bool) (aI:Int) (iI:List Int) (aJ:Int) (cJ:Bool) (aK aL:Int) (cL:Bool) (aM:Int) (cM:Bool) (aN aO:Int) (cO:Bool) (aP:Int) (cP:Bool) (aQ aR:Int) (cR:Bool) (aT aU aV:Int)
def wq4:Ctx TT:=⟨za3,[],0,[],v7,za4,za2⟩
def va1:List (Pos×Cut):= [(zb3 12,⟨[0,3],[],false,[],0,false⟩)]
def wq5:=ze2 wq4 va1 f168 ⟨[],[]⟩ [yz7] yp5
def qbj:tZ0:=wq5 n aA
noncomputable abbrev zaq9:=jm9 wq4 va1 f168 ⟨[],[]⟩ [yz7] yp5
def vp4:tZ0:=zaq9 n 12 ⟨[(0,cu8 aA),(3,cb cC)],[]⟩
def uo2:qbj n aA=j9 (decide (aA>=1)) (vp4 n aA (decide (aA<=12))) (vp4 n aA false):=by kernel_rfl
def kg4:vp4 (n+1) aA cC=j9 cC (some 201) (j9 (aA==13) (some 193) (j9 (aA==14) (some 181) (j9 (aA==15) (some 186) (j9 (aA==16) (some 144) (j9 (decide (aA>=17)) (j9 (decide (aA<=27)) (some 218) (j9 (aA==28) (some 128) (some 0))) (j9 (aA==28) (some 128) (some 0))))))):=by kernel_rfl
def qbj_sp:FnSpec TT:=spY wq5
def uo3:ze3 168 qbj_sp:=okY q8 func168
def zbc5:Ctx TT:=⟨za3,[],0,[],v7,za4,za2⟩
def ga2:List (Pos×Cut):= [(zb3 26,⟨[0,1,7,8],[],false,[],0,false⟩)]
def ub4:=ze2 zbc5 ga2 f205 ⟨[],[]⟩ [.val (.list (.int .i64)),zi4] yp5
def qfy:tZ0:=ub4 n (i4,aA)
def qfy_sp:FnSpec TT:=spY ub4
def zah7:ze3 205 qfy_sp:=okY q8 func205
def zax8:Ctx TT:=⟨za3,[(205,qfy_sp.toCall)],0,[],v7,za4,za2⟩
def ww8:=ze2 zax8 [] f169 ⟨[],[]⟩ [.val (.list (.int .i64)),zi4] zk0
def qec:tZ1:=ww8 n (i4,aA)
def uz7:qec n i4 aA=j6 (qfy g9 i4 aA) fun y1=>some (decide (y1>=0)):=by kernel_rfl
def qec_sp:FnSpec TT:=spY ww8
def uz8:ze3 169 qec_sp:=okY (v8 (q7 zah7) q8) func169
def zat3:Ctx TT:=⟨za3,[],0,[],v7,za4,za2⟩
def ws4:=ze2 zat3 [] f170 ⟨[],[]⟩ [zi4,zi4,zi4] zk0
def qci:tZ1:=ws4 n (aA,aB,aC)
def us0:qci n aA aB aC=j9 (decide (aA>=aB)) (some (decide (aA<=aC))) (some false):=by kernel_rfl
def qci_sp:FnSpec TT:=spY ws4
def us1:ze3 170 qci_sp:=okY q8 func170
def qa_C:Ctx TT:=⟨za3,[(168,qbj_sp.toCall),(169,qec_sp.toCall),(170,qci_sp.toCall)],0,[(8,1)],v7,za4,za2⟩
def vv0:List (Pos×Cut):= [(zb3 15,⟨[1,3,4],[],false,[],0,false⟩),(zb3 31,⟨[1,3,4],[],false,[],0,false⟩),(zb3 62,⟨[1,3,4,31],[],false,[],0,false⟩),(zb3 63,⟨[1,3,4],[],false,[],0,false⟩),(zb3 126,⟨[1,3,4,41],[],false,[],0,false⟩),(zb3 127,⟨[1,3,4],[],false,[],0,false⟩),(zb3 255,⟨[1,3,4],[],false,[],0,false⟩),(zb3 511,⟨[1,3,4],[],false,[],0,false⟩),(zb3 2047,⟨[1,3,4,5],[],false,[],0,false⟩),(zb3 4095,⟨[1,3,4,5,6],[],false,[],0,false⟩)]
def qa_t:=ze2 qa_C vv0 f105 ⟨[],[]⟩ [.val (.user 2)] zk0
def qa:tZ1:=qa_t n sA
noncomputable abbrev qz1:=jm9 qa_C vv0 f105 ⟨[],[]⟩ [.val (.user 2)] zk0
def gr6:tZ1:=qz1 n 15 ⟨[(1,.ptr 0 0),(3,ci aA),(4,.ptr 1 0)],[.blk 53 [cu8 aB,cb cC,ci aD,ci aE,cb cG,ci aH,ci aI,ci aJ],.blk 53 [cu8 aK,cb cL,ci aM,ci aN,cb cO,ci aP,ci aQ,ci aR]]⟩
def km5:tZ1:=qz1 n 62 ⟨[(1,.ptr 0 0),(3,ci aA),(4,.ptr 1 0),(31,cb cC)],[.blk 53 [cu8 aD,cb cE,ci aG,ci aH,cb cJ,ci aK,ci aL,ci aM],.blk 53 [cu8 aN,cb cO,ci aP,ci aQ,cb cR,ci aT,ci aU,ci aV]]⟩
def gr7:tZ1:=qz1 n 31 ⟨[(1,.ptr 0 0),(3,ci aA),(4,.ptr 1 0)],[.blk 53 [cu8 aB,cb cC,ci aD,ci aE,cb cG,ci aH,ci aI,ci aJ],.blk 53 [cu8 aK,cb cL,ci aM,ci aN,cb cO,ci aP,ci aQ,ci aR]]⟩
def gr9:tZ1:=qz1 n 126 ⟨[(1,.ptr 0 0),(3,ci aA),(4,.ptr 1 0),(41,cb cC)],[.blk 53 [cu8 aD,cb cE,ci aG,ci aH,cb cJ,ci aK,ci aL,ci aM],.blk 53 [cu8 aN,cb cO,ci aP,ci aQ,cb cR,ci aT,ci aU,ci aV]]⟩
def gr8:tZ1:=qz1 n 63 ⟨[(1,.ptr 0 0),(3,ci aA),(4,.ptr 1 0)],[.blk 53 [cu8 aB,cb cC,ci aD,ci aE,cb cG,ci aH,ci aI,ci aJ],.blk 53 [cu8 aK,cb cL,ci aM,ci aN,cb cO,ci aP,ci aQ,ci aR]]⟩
def gs0:tZ1:=qz1 n 127 ⟨[(1,.ptr 0 0),(3,ci aA),(4,.ptr 1 0)],[.blk 53 [cu8 aB,cb cC,ci aD,ci aE,cb cG,ci aH,ci aI,ci aJ],.blk 53 [cu8 aK,cb cL,ci aM,ci aN,cb cO,ci aP,ci aQ,ci aR]]⟩
def gs1:tZ1:=qz1 n 255 ⟨[(1,.ptr 0 0),(3,ci aA),(4,.ptr 1 0)],[.blk 53 [cu8 aB,cb cC,ci aD,ci aE,cb cG,ci aH,ci aI,ci aJ],.blk 53 [cu8 aK,cb cL,ci aM,ci aN,cb cO,ci aP,ci aQ,ci aR]]⟩
def gs2:tZ1:=qz1 n 511 ⟨[(1,.ptr 0 0),(3,ci aA),(4,.ptr 1 0)],[.blk 53 [cu8 aB,cb cC,ci aD,ci aE,cb cG,ci aH,ci aI,ci aJ],.blk 53 [cu8 aK,cb cL,ci aM,ci aN,cb cO,ci aP,ci aQ,ci aR]]⟩
def gs3:tZ1:=qz1 n 2047 ⟨[(1,.ptr 0 0),(3,ci aA),(4,.ptr 1 0),(5,ci aB)],[.blk 53 [cu8 aC,cb cD,ci aE,ci aG,cb cH,ci aI,ci aJ,ci aK],.blk 53 [cu8 aL,cb cM,ci aN,ci aO,cb cP,ci aQ,ci aR,ci aT]]⟩
def vj0:tZ1:=qz1 n 4095 ⟨[(1,.ptr 0 0),(3,ci aA),(4,.ptr 1 0),(5,ci aB),(6,cb cC)],[.blk 53 [cu8 aD,cb cE,ci aG,ci aH,cb cJ,ci aK,ci aL,ci aM],.blk 53 [cu8 aN,cb cO,ci aP,ci aQ,cb cR,ci aT,ci aU,ci aV]]⟩
def zan9:qa n sA=j6 (qbj g9 sA.Op) fun y1=>j9 ((zb4 .i64 y1 3) != 0) (gr6 n y1 sA.Op sA.Narrow sA.Dst sA.Src sA.UseImm sA.Off sA.Imm sA.Size sA.Op false sA.Dst 0 false 0 0 0) (gr6 n y1 sA.Op sA.Narrow sA.Dst sA.Src sA.UseImm sA.Off sA.Imm sA.Size sA.Op false 0 0 false 0 0 0):=by kernel_rfl
def zv0:gr6 (n+1) aA aB cC aD aE cG aH aI aJ aK cL aM aN cO aP aQ aR=j9 ((zb4 .i64 aA 4) != 0) (km5 n aA true aB cC aD aE cG aH aI aJ aK cL aM aN cO aP aQ aR) (j9 ((zb4 .i64 aA 8) != 0) (km5 n aA (!cG) aB cC aD aE cG aH aI aJ aK cL aM aN cO aP aQ aR) (km5 n aA false aB cC aD aE cG aH aI aJ aK cL aM aN cO aP aQ aR)):=by kernel_rfl
def zv2:km5 (n+1) aA cC aD cE aG aH cJ aK aL aM aN cO aP aQ cR aT aU aV=j9 cC (gr7 n aA aD cE aG aH cJ aK aL aM aN cO aP aH cR aT aU aV) (gr7 n aA aD cE aG aH cJ aK aL aM aN cO aP aQ cR aT aU aV):=by kernel_rfl
def zv1:gr7 (n+1) aA aB cC aD aE cG aH aI aJ aK cL aM aN cO aP aQ aR=j9 ((zb4 .i64 aA 8) != 0) (gr9 n aA cG aB cC aD aE cG aH aI aJ aK cL aM aN cO aP aQ aR) (gr9 n aA false aB cC aD aE cG aH aI aJ aK cL aM aN cO aP aQ aR):=by kernel_rfl
def zv4:gr9 (n+1) aA cC aD cE aG aH cJ aK aL aM aN cO aP aQ cR aT aU aV=j9 cC (gr8 n aA aD cE aG aH cJ aK aL aM aN cO aP aQ true aT aL aV) (gr8 n aA aD cE aG aH cJ aK aL aM aN cO aP aQ cR aT aU aV):=by kernel_rfl
def zv3:gr8 (n+1) aA aB cC aD aE cG aH aI aJ aK cL aM aN cO aP aQ aR=j9 ((zb4 .i64 aA 16) != 0) (gs0 n aA aB cC aD aE cG aH aI aJ aK cL aM aN cO aH aQ aR) (gs0 n aA aB cC aD aE cG aH aI aJ aK cL aM aN cO aP aQ aR):=by kernel_rfl
def zv5:gs0 (n+1) aA aB cC aD aE cG aH aI aJ aK cL aM aN cO aP aQ aR=j9 ((zb4 .i64 aA 32) != 0) (gs1 n aA aB cC aD aE cG aH aI aJ aK cL aM aN cO aP aQ aJ) (gs1 n aA aB cC aD aE cG aH aI aJ aK cL aM aN cO aP aQ aR):=by kernel_rfl
def zv6:gs1 (n+1) aA aB cC aD aE cG aH aI aJ aK cL aM aN cO aP aQ aR=j9 ((zb4 .i64 aA 64) != 0) (gs2 n aA aB cC aD aE cG aH aI aJ aK cC aM aN cO aP aQ aR) (gs2 n aA aB cC aD aE cG aH aI aJ aK cL aM aN cO aP aQ aR):=by kernel_rfl
def zv7:gs2 (n+1) aA aB cC aD aE cG aH aI aJ aK cL aM aN cO aP aQ aR=j9 ((zb4 .i64 aA 1) != 0) (gs3 n aA 9 aB cC aD aE cG aH aI aJ aK cL aM aN cO aP aQ aR) (gs3 n aA 10 aB cC aD aE cG aH aI aJ aK cL aM aN cO aP aQ aR):=by kernel_rfl
def zv8:gs3 (n+1) aA aB aC cD aE aG cH aI aJ aK aL cM aN aO cP aQ aR aT=j9 ((zb4 .i64 aA 32)==0) (vj0 n aA aB true aC cD aE aG cH aI aJ aK aL cM aN aO cP aQ aR aT) (j6 (qec g9 ([(1:Int),2,4,(8:Int)]:List Int) aK) fun y1=>vj0 n aA aB y1 aC cD aE aG cH aI aJ aK aL cM aN aO cP aQ aR aT):=by kernel_rfl
def kw5:vj0 (n+1) aA aB cC aD cE aG aH cJ aK aL aM aN cO aP aQ cR aT aU aV=j9 (aA != 0) (j9 ((aD==aN)&&((cE==cO)&&((aG==aP)&&((aH==aQ)&&((cJ==cR)&&((aK==aT)&&((aL==aU)&&(aM==aV)))))))) (j6 (qci g9 aG 0 aB) fun y1=>j9 y1 (j6 (qci g9 aH 0 10) fun y2=>j9 y2 (j6 (qci g9 aK (-32768:Int) 32767) fun y3=>j9 y3 (j6 (qci g9 aL (-2147483648:Int) 2147483647) fun y4=>j9 y4 (some cC) (some false)) (some false)) (some false)) (some false)) (some false)) (some false):=by kernel_rfl
def qa_sp:FnSpec TT:=spY qa_t
def wm8:ze3 105 qa_sp:=okY (v8 (q7 uo3) (v8 (q7 uz8) (v8 (q7 us1) q8))) func105
def zaq5:Ctx TT:=⟨za3,[],0,[],v7,za4,za2⟩
def wq1:=ze2 zaq5 [] f104 ⟨[],[]⟩ [jj2,zi4] yp5
def qbe:tZ0:=wq1 n (cA,aB)
def un7:qbe n cA aB=j9 cA (some aB) (some 0):=by kernel_rfl
def qbe_sp:FnSpec TT:=spY wq1
def qr7:ze3 104 qbe_sp:=okY q8 func104
def zax2:Ctx TT:=⟨za3,[(105,qa_sp.toCall),(104,qbe_sp.toCall)],1,[],v7,za4,za2⟩
def ww2:=zd6 zax2 [] f103 nl0 [ze9,qo4] [jz1] jo8
def qdx:tZ2:=ww2 n (aA,(fB,()),())
def uy7:qdx n aA fB=if 0<=aA/\aA<(fB.length:Int) then (j6 (qa g9 (fB.getD aA.toNat zb5)) fun y1=>j6 (qbe g9 (!y1) 4) fun y2=>some (((fB,()),()),(y2,()))) else none:=by kernel_rfl
def qdx_sp:GSpec TT:=spZ ww2
def uy8:zd7 103 qdx_sp:=okZ (v8 (q7 wm8) (v8 (q7 qr7) q8)) func103
def zar6:Ctx TT:=⟨za3,[],0,[],v7,za4,za2⟩
def wq7:=ze2 zar6 [] f46 ⟨[],[]⟩ [.val (.user 2)] zk0
def qbs:tZ1:=wq7 n sA
def up6:qbs n sA=j9 (decide (sA.Op>=16)) (some (decide (sA.Op<=27))) (some false):=by kernel_rfl
def qbs_sp:FnSpec TT:=spY wq7
def vq2:ze3 46 qbs_sp:=okY q8 func46
def zax3:Ctx TT:=⟨za3,[(46,qbs_sp.toCall),(104,qbe_sp.toCall)],1,[],v7,za4,za2⟩
def ww3:=zd6 zax3 [] f106 nl0 [ze9,qo4] [jz1] jo8
def qdy:tZ2:=ww3 n (aA,(fB,()),())
def uy9:qdy n aA fB=if 0<=aA/\aA<(fB.length:Int) then (if 0<=aA/\aA<(fB.length:Int) then (j6 (qbs g9 (fB.getD aA.toNat zb5)) fun y1=>j9 (!y1) (some (((fB,()),()),(0,()))) (j9 (decide ((i64.wrap ((i64.wrap (aA+1))+((fB.getD aA.toNat zb5).Off)))<=aA)) (some (((fB,()),()),(100,()))) (j6 (qbe g9 (decide ((i64.wrap ((i64.wrap (aA+1))+((fB.getD aA.toNat zb5).Off)))>=(fB.length:Int))) 101) fun y2=>some (((fB,()),()),(y2,()))))) else none) else none:=by kernel_rfl
def qdy_sp:GSpec TT:=spZ ww3
def uz0:zd7 106 qdy_sp:=okZ (v8 (q7 vq2) (v8 (q7 qr7) q8)) func106
def zax4:Ctx TT:=⟨za3,[(104,qbe_sp.toCall)],1,[],v7,za4,za2⟩
def ww4:=zd6 zax4 [] f107 nl0 [ze9,qo4] [jz1] jo8
def qdz:tZ2:=ww4 n (aA,(fB,()),())
def uz1:qdz n aA fB=j9 (aA==(i64.wrap ((fB.length:Int)-1))) (if 0<=aA/\aA<(fB.length:Int) then (j9 (((fB.getD aA.toNat zb5).Op) != 28) (if 0<=aA/\aA<(fB.length:Int) then (j6 (qbe g9 (((fB.getD aA.toNat zb5).Op) != 16) 102) fun y1=>some (((fB,()),()),(y1,()))) else none) (j6 (qbe g9 false 102) fun y2=>some (((fB,()),()),(y2,())))) else none) (j6 (qbe g9 false 102) fun y3=>some (((fB,()),()),(y3,()))):=by kernel_rfl
def qdz_sp:GSpec TT:=spZ ww4
def uz2:zd7 107 qdz_sp:=okZ (v8 (q7 qr7) q8) func107
def ue8:ByteArray:=⟨#[0,1,2,2,3,3,3,3,4,4,4,4,4,4,4,4,5,5,5,5,5,5,5,5,5,5,5,5,5,5,5,5,6,6,6,6,6,6,6,6,6,6,6,6,6,6,6,6,6,6,6,6,6,6,6,6,6,6,6,6,6,6,6,6,7,7,7,7,7,7,7,7,7,7,7,7,7,7,7,7,7,7,7,7,7,7,7,7,7,7,7,7,7,7,7,7,7,7,7,7,7,7,7,7,7,7,7,7,7,7,7,7,7,7,7,7,7,7,7,7,7,7,7,7,7,7,7,7,8,8,8,8,8,8,8,8,8,8,8,8,8,8,8,8,8,8,8,8,8,8,8,8,8,8,8,8,8,8,8,8,8,8,8,8,8,8,8,8,8,8,8,8,8,8,8,8,8,8,8,8,8,8,8,8,8,8,8,8,8,8,8,8,8,8,8,8,8,8,8,8,8,8,8,8,8,8,8,8,8,8,8,8,8,8,8,8,8,8,8,8,8,8,8,8,8,8,8,8,8,8,8,8,8,8,8,8,8,8,8,8,8,8,8,8,8,8,8,8,8,8,8,8,8,8,8,8]⟩
def qr_C:Ctx TT:=⟨za3,[],0,[],v7,za4,za2⟩
def vw8:List (Pos×Cut):= [([true],⟨[0,2],[],false,[],0,false⟩),([true,true],⟨[0,2],[],false,[],0,false⟩),(zb3 15,⟨[0,2],[],false,[],0,false⟩)]
def qr_t:=ze2 qr_C vw8 f241 ⟨[],[]⟩ [zi3] yp5
def qr:tZ0:=qr_t n aA
noncomputable abbrev qr_z:=jm9 qr_C vw8 f241 ⟨[],[]⟩ [zi3] yp5
def kn3:tZ0:=qr_z n 3 ⟨[(0,k8 aA),(2,ci aB)],[]⟩
def kn4:tZ0:=qr_z n 7 ⟨[(0,k8 aA),(2,ci aB)],[]⟩
def kn5:tZ0:=qr_z n 15 ⟨[(0,k8 aA),(2,ci aB)],[]⟩
def zbf7:qr n aA=j9 (decide (aA>=4294967296)) (kn3 n (ze0 .u64 aA 32) 32) (kn3 n aA 0):=by kernel_rfl
def gc6:kn3 (n+1) aA aB=j9 (decide (aA>=65536)) (kn4 n (ze0 .u64 aA 16) (i64.wrap (aB+16))) (kn4 n aA aB):=by kernel_rfl
def gc7:kn4 (n+1) aA aB=j9 (decide (aA>=256)) (kn5 n (ze0 .u64 aA 8) (i64.wrap (aB+8))) (kn5 n aA aB):=by kernel_rfl
def gc8:kn5 (n+1) aA aB=jk1 ue8 (u8.wrap aA) fun y1=>some (i64.wrap (aB+(i64.wrap y1))):=by kernel_rfl
def qr_sp:FnSpec TT:=spY qr_t
def ud7:ze3 241 qr_sp:=okY q8 func241
def zbc1:Ctx TT:=⟨za3,[(241,qr_sp.toCall)],0,[],v7,za4,za2⟩
def ub0:=ze2 zbc1 [] f207 ⟨[],[]⟩ [zi3] yp5
def qfu:tZ0:=ub0 n aA
def qfu_sp:FnSpec TT:=spY ub0
def go3:ze3 207 qfu_sp:=okY (v8 (q7 ud7) q8) func207
def zaw0:Ctx TT:=⟨za3,[],0,[],v7,za4,za2⟩
def wv0:=ze2 zaw0 [] f261 ⟨[],[]⟩ [zi4] zk0
def qdl:tZ1:=wv0 n aA
def uw3:qdl n aA=some (aA != aA):=by kernel_rfl
def qdl_sp:FnSpec TT:=spY wv0
def uw4:ze3 261 qdl_sp:=okY q8 func261
def zat9:Ctx TT:=⟨za3,[(261,qdl_sp.toCall)],0,[],v7,za4,za2⟩
def wt0:=ze2 zat9 [] f237 ⟨[],[]⟩ [zi4,zi4] zk0
def qcp:tZ1:=wt0 n (aA,aB)
def us9:qcp n aA aB=j6 (qdl g9 aA) fun y1=>j9 y1 (j6 (qdl g9 aB) fun y2=>j9 (!y2) (some true) (some (decide (aA<aB)))) (some (decide (aA<aB))):=by kernel_rfl
def qcp_sp:FnSpec TT:=spY wt0
def gn1:ze3 237 qcp_sp:=okY (v8 (q7 uw4) q8) func237
def zbb7:Ctx TT:=⟨za3,[(237,qcp_sp.toCall)],1,[(6,1)],v7,za4,za2⟩
def kz6:List (Pos×Cut):= [(zb3 6,⟨[0,1,2,6],[],false,[],0,false⟩),(zb3 402,⟨[0,1,2,6,7],[],false,[],0,false⟩),(zb3 1608,⟨[0,1,2,6,7,30],[],false,[],0,false⟩)]
def ua6:=ze2 zbb7 kz6 f231 ⟨[],[]⟩ [vm7,zi4,zi4] []
def qfo:tZ3:=ua6 n (i4,aA,aB)
def qfo_sp:FnSpec TT:=spY ua6
def go0:ze3 231 qfo_sp:=okY (v8 (q7 gn1) q8) func231
def zbc9:Ctx TT:=⟨za3,[(231,qfo_sp.toCall)],1,[],v7,za4,za2⟩
def ga3:List (Pos×Cut):= [(zb3 14,⟨[0,1,2,3,8,9],[],false,[],0,false⟩),(zb3 455,⟨[0,1,2,3,8,9,10],[],false,[],0,false⟩)]
def ub6:=ze2 zbc9 ga3 f206 ⟨[],[]⟩ [vm7,zi4,zi4,zi4] []
def qga:tZ3:=ub6 n (i4,aA,aB,aC)
def qga_sp:FnSpec TT:=spY ub6
def go6:ze3 206 qga_sp:=okY (v8 (q7 go0) q8) func206
def zbb6:Ctx TT:=⟨za3,[(207,qfu_sp.toCall),(206,qga_sp.toCall)],1,[],v7,za4,za2⟩
def ua5:=ze2 zbb6 [] f171 ⟨[],[]⟩ [vm7] []
def qfn:tZ3:=ua5 n i4
def qfn_sp:FnSpec TT:=spY ua5
def zah1:ze3 171 qfn_sp:=okY (v8 (q7 go3) (v8 (q7 go6) q8)) func171
def zbe1:Ctx TT:=⟨za3,[(237,qcp_sp.toCall)],1,[(6,1)],v7,za4,za2⟩
def gb1:List (Pos×Cut):= [(zb3 6,⟨[0,1,2,6],[],false,[],0,false⟩),(zb3 402,⟨[0,1,2,6,7],[],false,[],0,false⟩),(zb3 1608,⟨[0,1,2,6,7,30],[],false,[],0,false⟩)]
def uc8:=zd6 zbe1 gb1 f231 nl0 [jk6,ze9,ze9] [yg0] []
def qgp:tZ4:=uc8 n ((i4,r8,rA),aB,aC,())
def qgp_sp:GSpec TT:=spZ uc8
def zaj3:zd7 231 qgp_sp:=okZ (v8 (q7 gn1) q8) func231
def zbe2:Ctx TT:=⟨za3,[(231,qgp_sp.toCall (qfo_sp.toCall))],1,[],v7,za4,za2⟩
def gb2:List (Pos×Cut):= [(zb3 14,⟨[0,1,2,3,8,9],[],false,[],0,false⟩),(zb3 455,⟨[0,1,2,3,8,9,10],[],false,[],0,false⟩)]
def uc9:=zd6 zbe2 gb2 f206 nl0 [jk6,ze9,ze9,ze9] [yg0] []
def qgq:tZ4:=uc9 n ((i4,r8,rA),aB,aC,aD,())
def qgq_sp:GSpec TT:=spZ uc9
def zaj4:zd7 206 qgq_sp:=okZ (v8 (q9 zaj3 (q7 go0)) q8) func206
def zbc6:Ctx TT:=⟨za3,[(207,qfu_sp.toCall),(206,qgq_sp.toCall (qga_sp.toCall))],1,[],v7,za4,za2⟩
def ub5:=zd6 zbc6 [] f171 nl0 [jk6] [yg0] []
def qfz:tZ4:=ub5 n ((i4,r8,rA),())
def qfz_sp:GSpec TT:=spZ ub5
def zah8:zd7 171 qfz_sp:=okZ (v8 (q7 go3) (v8 (q9 zaj4 (q7 go6)) q8)) func171
def zbc4:Ctx TT:=⟨za3,[],1,[],v7,za4,za2⟩
def ga1:List (Pos×Cut):= [(zb3 58,⟨[0,3],[],false,[],0,false⟩),(zb3 59690,⟨[0,3,4,5],[],false,[],0,false⟩),(zb3 238761,⟨[0,3,4,5],[],false,[],0,false⟩)]
def ub3:=zd6 zbc4 ga1 f172 nl0 [jk6] [yg0] [.part 0 1]
def qfx:tZ5:=ub3 n ((i4,r8,rA),())
def qfx_sp:GSpec TT:=spZ ub3
def zah6:zd7 172 qfx_sp:=okZ q8 func172
def zbc0:Ctx TT:=⟨za3,[],1,[],v7,za4,za2⟩
def kz8:List (Pos×Cut):= [(zb3 58,⟨[0,3],[],false,[],0,false⟩),(zb3 59690,⟨[0,3,4,5],[],false,[],0,false⟩),(zb3 238761,⟨[0,3,4,5],[],false,[],0,false⟩)]
def ua9:=zd6 zbc0 kz8 f172 ⟨[],[0],[],[],[]⟩ [.row 3 (.int .i64)] [yg0] [.part 0 1]
def qfs:tZ5:=ua9 n (i4,())
def qfs_sp:GSpec TT:=spZ ua9
def zah5:zd7 172 qfs_sp:=okZ q8 func172
def wn9:Ctx TT:=⟨za3,[(105,qa_sp.toCall),(46,qbs_sp.toCall),(171,qfz_sp.toCall (qfn_sp.toCall)),(172,qfs_sp.toCall (qfx_sp.toCall (v4 TT)))],0,[],v7,za4,za2⟩
def qz4:List (Pos×Cut):= [(zb3 6,⟨[0,1,29],[],false,[],0,false⟩),(zb3 15,⟨[0,1,5],[],false,[],0,false⟩)]
def wo0:=zd6 wn9 qz4 f109 ⟨[(0,3,.int .i64,false)],[],[],[],[]⟩ [.val (.list (.user 2)),ze9] [] [jk6]
def qai:tZ6:=wo0 n (f6,aA,())
noncomputable abbrev wo1:=ko8 wn9 qz4 f109 ⟨[(0,3,.int .i64,false)],[],[],[],[]⟩ [] [jk6]
def jl6:tZ6:=wo1 n 6 ⟨[(0,.cell ⟨.list (.user 2),f6⟩),(1,ci aA),(29,cb cC)],[]⟩
def vo9:tZ6:=wo1 n 15 ⟨[(0,.cell ⟨.list (.user 2),f6⟩),(1,ci aA),(5,.own 0)],[.row 3 (.int .i64) iB]⟩
def uk5:qai n f6 aA=j9 (decide (aA<0)) (jl6 n f6 aA true) (j9 (decide (aA>=(f6.length:Int))) (jl6 n f6 aA true) (if 0<=aA/\aA<(f6.length:Int) then (j6 (qa g9 (f6.getD aA.toNat zb5)) fun y1=>j9 (!y1) (jl6 n f6 aA true) (if 0<=aA/\aA<(f6.length:Int) then (jl6 n f6 aA (((f6.getD aA.toNat zb5).Op)==28)) else none)) else none)):=by kernel_rfl
def kf3:jl6 (n+1) f6 aA cC=j9 cC (some ((),((([]:List Int),0,0),()))) (if 0<=aA/\aA<(f6.length:Int) then (j6 (qbs g9 (f6.getD aA.toNat zb5)) fun y1=>j9 y1 (if 0<=aA/\aA<(f6.length:Int) then (vo9 n f6 aA ([i64.wrap (aA+1),i64.wrap ((i64.wrap (aA+1))+((f6.getD aA.toNat zb5).Off))]:List Int)) else none) (vo9 n f6 aA ([i64.wrap (aA+1)]:List Int))) else none):=by kernel_rfl
def kf4:vo9 (n+1) f6 aA iB=if 0<=aA/\aA<(f6.length:Int) then (j9 (((f6.getD aA.toNat zb5).Op)==16) (if 0<=(1:Int)/\1<=(iB.length:Int)/\(iB.length:Int)<=(iB.length:Int) then (j6 (qfz g9 iB 1 (((iB.length:Int).toNat)-1)) fun y1=>j6 (qfx g9 y1.1.1 1 (((iB.length:Int).toNat)-1)) fun y2=>some ((),((y2.1.1,y2.2.1.1,y2.2.1.2),()))) else none) (j6 (qfn g9 iB) fun y3=>j6 (qfs g9 y3.1) fun y4=>some ((),((y4.1.1,y4.2.1.1,y4.2.1.2),())))) else none:=by kernel_rfl
def qai_sp:GSpec TT:=spZ wo0
def uk6:zd7 109 qai_sp:=okZ (v8 (q7 wm8) (v8 (q7 vq2) (v8 (q9 zah8 (q7 zah1)) (v8 (q9 zah5 (q9 zah6 (j8 172))) q8)))) func109
def wm9:Ctx TT:=⟨za3,[(109,qai_sp.toCall (v4 TT)),(104,qbe_sp.toCall)],3,[(4,1)],v7,za4,za2⟩
def qz2:List (Pos×Cut):= [(zb3 26,⟨[0,2,9,10,11],[],false,[],0,false⟩),(zb3 211,⟨[0,2,9,10,11],[],false,[],0,false⟩)]
def wn0:=zd6 wm9 qz2 f108 nl0 [ze9,qo4,.ptr 0 63 [.row 4 (.bool)]] gi6 jo8
def qaa:tZ7:=wn0 n (aA,(fB,()),(dC,()),())
noncomputable abbrev wn1:=ko8 wm9 qz2 f108 nl0 gi6 jo8
def yy2:tZ7:=wn1 n 26 ⟨[(0,ci aA),(2,.ptr 1 0),(9,.sl 3 1 rB rC),(10,ci aD),(11,ci aE)],[.blk 22 [.cell ⟨.list (.user 2),fG⟩],.blk 63 [.own 2],.row 4 (.bool) dH,.row 3 (.int .i64) iI]⟩
def vo7:tZ7:=wn1 n 211 ⟨[(0,ci aA),(2,.ptr 1 0),(9,.sl 3 1 rB rC),(10,ci aD),(11,ci aE)],[.blk 22 [.cell ⟨.list (.user 2),fG⟩],.blk 63 [.own 2],.row 4 (.bool) dH,.row 3 (.int .i64) iI]⟩
def uj4:qaa n aA fB dC=j6 (qai g9 fB aA) fun y1=>yy2 n aA y1.2.1.2.1 y1.2.1.2.2 (y1.2.1.2.2:Int) 0 fB dC y1.2.1.1:=by kernel_rfl
def qh1:yy2 (n+1) aA rB rC aD aE fG dH iI=j9 (decide (aE<aD)) (if 0<=aE/\aE<(rC:Int) then (if rB+aE.toNat<iI.length then (if 0<=iI.getD (rB+aE.toNat) 0/\iI.getD (rB+aE.toNat) 0<(dH.length:Int) then (j9 (dH.getD ((iI.getD (rB+aE.toNat) 0).toNat) false) (if 0<=iI.getD (rB+aE.toNat) 0/\iI.getD (rB+aE.toNat) 0<(dH.length:Int) then (vo7 n aA rB rC aD aE fG (dH.set ((iI.getD (rB+aE.toNat) 0).toNat) true) iI) else none) (if 0<=aA/\aA<(dH.length:Int) then (if 0<=iI.getD (rB+aE.toNat) 0/\iI.getD (rB+aE.toNat) 0<(dH.length:Int) then (vo7 n aA rB rC aD aE fG (dH.set ((iI.getD (rB+aE.toNat) 0).toNat) (dH.getD aA.toNat false)) iI) else none) else none)) else none) else none) else none) (if 0<=aA/\aA<(dH.length:Int) then (j6 (qbe g9 (!(dH.getD aA.toNat false)) 103) fun y1=>some (((fG,()),((),()),dH,()),(y1,()))) else none):=by kernel_rfl
def qh0:vo7 (n+1) aA rB rC aD aE fG dH iI=yy2 n aA rB rC aD (i64.wrap (aE+1)) fG dH iI:=by kernel_rfl
def qaa_sp:GSpec TT:=spZ wn0
def uj5:zd7 108 qaa_sp:=okZ (v8 (q9 uk6 (j8 109)) (v8 (q7 qr7) q8)) func108
def qd_C:Ctx TT:=⟨za3,[(103,qdx_sp.toCall (v4 TT)),(106,qdy_sp.toCall (v4 TT)),(107,qdz_sp.toCall (v4 TT)),(108,qaa_sp.toCall (v4 TT))],4,[],v7,za4,za2⟩
def vv8:List (Pos×Cut):= [(zb3 26,⟨[0,4,9,10,11],[],true,[],0,false⟩),(zb3 6758,⟨[0,4,6,9,10,11,15,16],[],false,[],0,false⟩)]
def qd_t:=zd6 qd_C vv8 f102 nl0 [ze9,.slb 1 4 179 [.fn 103 [] [.ptr 0 22 [.val (.list (.user 2))]],.fn 106 [] [.at_ 1 0],.fn 107 [] [.at_ 1 0],.fn 108 [] [.at_ 1 0,.ptr 0 63 [.row 4 (.bool)]]]] gi7 [.val (.user 3)]
def qd:tZ8:=qd_t n (aA,(((),((fB,()),())),((),((),())),((),((),())),((),((),(dC,()),())),()),())
noncomputable abbrev wt9:=ko8 qd_C vv8 f102 nl0 gi7 [.val (.user 3)]
def jr2:tZ8:=wt9 n 6758 ⟨[(0,ci aA),(4,.ptr 4 0),(6,.fn (.func 103) [] [.ptr 1 0]),(9,.sl 0 1 0 4),(10,.cell ⟨.int .i64,(4:Int)⟩),(11,.cell ⟨.int .i64,(0:Int)⟩),(15,ci aB),(16,ci aC)],[.blk 179 [.fn (.func 103) [] [.ptr 1 0],.fn (.func 106) [] [.ptr 1 0],.fn (.func 107) [] [.ptr 1 0],.fn (.func 108) [] [.ptr 1 0,.ptr 2 0]],.blk 22 [.cell ⟨.list (.user 2),fD⟩],.blk 63 [.own 3],.row 4 (.bool) dE,.blk 29 [ci aG,ci aH]]⟩
def yt5:tZ8:=wt9 n 6758 ⟨[(0,ci aA),(4,.ptr 4 0),(6,.fn (.func 106) [] [.ptr 1 0]),(9,.sl 0 1 0 4),(10,.cell ⟨.int .i64,(4:Int)⟩),(11,.cell ⟨.int .i64,(1:Int)⟩),(15,ci aB),(16,ci aC)],[.blk 179 [.fn (.func 103) [] [.ptr 1 0],.fn (.func 106) [] [.ptr 1 0],.fn (.func 107) [] [.ptr 1 0],.fn (.func 108) [] [.ptr 1 0,.ptr 2 0]],.blk 22 [.cell ⟨.list (.user 2),fD⟩],.blk 63 [.own 3],.row 4 (.bool) dE,.blk 29 [ci aG,ci aH]]⟩
def yt6:tZ8:=wt9 n 6758 ⟨[(0,ci aA),(4,.ptr 4 0),(6,.fn (.func 107) [] [.ptr 1 0]),(9,.sl 0 1 0 4),(10,.cell ⟨.int .i64,(4:Int)⟩),(11,.cell ⟨.int .i64,(2:Int)⟩),(15,ci aB),(16,ci aC)],[.blk 179 [.fn (.func 103) [] [.ptr 1 0],.fn (.func 106) [] [.ptr 1 0],.fn (.func 107) [] [.ptr 1 0],.fn (.func 108) [] [.ptr 1 0,.ptr 2 0]],.blk 22 [.cell ⟨.list (.user 2),fD⟩],.blk 63 [.own 3],.row 4 (.bool) dE,.blk 29 [ci aG,ci aH]]⟩
def yt7:tZ8:=wt9 n 6758 ⟨[(0,ci aA),(4,.ptr 4 0),(6,.fn (.func 108) [] [.ptr 1 0,.ptr 2 0]),(9,.sl 0 1 0 4),(10,.cell ⟨.int .i64,(4:Int)⟩),(11,.cell ⟨.int .i64,(3:Int)⟩),(15,ci aB),(16,ci aC)],[.blk 179 [.fn (.func 103) [] [.ptr 1 0],.fn (.func 106) [] [.ptr 1 0],.fn (.func 107) [] [.ptr 1 0],.fn (.func 108) [] [.ptr 1 0,.ptr 2 0]],.blk 22 [.cell ⟨.list (.user 2),fD⟩],.blk 63 [.own 3],.row 4 (.bool) dE,.blk 29 [ci aG,ci aH]]⟩
def zau8:qd (n+1) aA fB dC=jr2 n aA aA 0 fB dC 0 0:=by kernel_rfl
def jw9:jr2 (n+2) aA aB aC fD dE aG aH=j9 (decide (aC<aB)) (j6 (qdx g9 aC fD) fun y1=>j9 (y1.2.1 != 0) (some (((((),((),())),((),((),())),((),((),())),((),((),(),())),()),(y1.1.1.1,()),((),()),dE,()),((⟨y1.2.1,aC⟩:Fault),()))) (jr2 (n+1) aA aB (i64.wrap (aC+1)) y1.1.1.1 dE aG aH)) (yt5 n aA aA 0 fD dE aG aH):=by kernel_rfl
def jg0:yt5 (n+2) aA aB aC fD dE aG aH=j9 (decide (aC<aB)) (j6 (qdy g9 aC fD) fun y1=>j9 (y1.2.1 != 0) (some (((((),((),())),((),((),())),((),((),())),((),((),(),())),()),(y1.1.1.1,()),((),()),dE,()),((⟨y1.2.1,aC⟩:Fault),()))) (yt5 (n+1) aA aB (i64.wrap (aC+1)) y1.1.1.1 dE aG aH)) (yt6 n aA aA 0 fD dE aG aH):=by kernel_rfl
def jg1:yt6 (n+2) aA aB aC fD dE aG aH=j9 (decide (aC<aB)) (j6 (qdz g9 aC fD) fun y1=>j9 (y1.2.1 != 0) (some (((((),((),())),((),((),())),((),((),())),((),((),(),())),()),(y1.1.1.1,()),((),()),dE,()),((⟨y1.2.1,aC⟩:Fault),()))) (yt6 (n+1) aA aB (i64.wrap (aC+1)) y1.1.1.1 dE aG aH)) (yt7 n aA aA 0 fD dE aG aH):=by kernel_rfl
def jg2:yt7 (n+2) aA aB aC fD dE aG aH=j9 (decide (aC<aB)) (j6 (qaa g9 aC fD dE) fun y1=>j9 (y1.2.1 != 0) (some (((((),((),())),((),((),())),((),((),())),((),((),(),())),()),(y1.1.1.1,()),((),()),y1.1.2.2.1,()),((⟨y1.2.1,aC⟩:Fault),()))) (yt7 (n+1) aA aB (i64.wrap (aC+1)) y1.1.1.1 y1.1.2.2.1 aG aH)) (some (((((),((),())),((),((),())),((),((),())),((),((),(),())),()),(fD,()),((),()),dE,()),((⟨(0:Int),(0:Int)⟩:Fault),()))):=by kernel_rfl
def qd_sp:GSpec TT:=spZ qd_t
def zau9:zd7 102 qd_sp:=okZ (v8 (q9 uy8 (j8 103)) (v8 (q9 uz0 (j8 106)) (v8 (q9 uz2 (j8 107)) (v8 (q9 uj5 (j8 108)) q8)))) func102
def zax1:Ctx TT:=⟨za3,[(102,qd_sp.toCall (v4 TT))],0,[],v7,za4,za2⟩
def ww1:=ze2 zax1 [] f33 ⟨[],[]⟩ jz9 [.val (.user 3)]
def qdw:Option (Fault):=ww1 n f6
def uy5:qdw n f6=j9 ((f6.length:Int)==0) (some (⟨(6:Int),(0:Int)⟩:Fault)) (j9 (decide ((f6.length:Int)>4096)) (some (⟨(3:Int),(0:Int)⟩:Fault)) (if 0<=(f6.length:Int)/\(f6.length:Int)<=(f6.length:Int)/\1*((f6.length:Int).toNat)<=281474976710656/\(f6.length:Int)<=9223372036854775807 then (if 0<=(0:Int)/\0<(((List.replicate ((f6.length:Int).toNat) false).length:Nat):Int) then (j6 (qd g9 (f6.length:Int) f6 ((List.replicate ((f6.length:Int).toNat) false).set 0 true)) fun y1=>some y1.2.1) else none) else none)):=by kernel_rfl
def qdw_sp:FnSpec TT:=spY ww1
def uy6:ze3 33 qdw_sp:=okY (v8 (q9 zau9 (j8 102)) q8) func33
end
end Go.X
