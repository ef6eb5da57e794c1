import Derived.Test.YtbanjakljpjknaaGreatTb
set_option linter.defProp false
namespace Go.X
open Go.RowKit Go.V Go.Proofs Tryz IntKind
noncomputable section
variable (n:Nat) (i4:List Int) (m5:List Flat) (aA aB:Int) (mB:List Flat) (aC:Int) (cC:Bool) (aD aE:Int) (cE:Bool) (aG aH aI aJ aK aL:Int)
def zbb0:Ctx TT:=⟨za3,[],0,[],v7,za4,za2⟩
def wz9:=zd6 zbb0 [] f29 nl0 [] [] [.mp .u8 [1,2,3,4,5,6,7,8,9] [.fn 73 [] [],.fn 74 [] [],.fn 75 [] [],.fn 76 [] [],.fn 76 [] [],.fn 77 [] [],.fn 78 [] [],.fn 79 [] [],.fn 80 [] []]]
def qfh:Option ((Unit)×((((Unit)×(Unit))×((Unit)×(Unit))×((Unit)×(Unit))×((Unit)×(Unit))×((Unit)×(Unit))×((Unit)×(Unit))×((Unit)×(Unit))×((Unit)×(Unit))×((Unit)×(Unit))×Unit)×Unit)):=wz9 n ()
def zag1 (n:Nat):qfh n=some ((),((((),()),((),()),((),()),((),()),((),()),((),()),((),()),((),()),((),()),()),())):=by kernel_rfl
def qfh_sp:GSpec TT:=spZ wz9
def zag2:zd7 29 qfh_sp:=okZ q8 func29
def qu_C:Ctx TT:=⟨za3,[],0,[],v7,za4,za2⟩
def qu_t:=zd6 qu_C [] f141 nl0 yb9 [] [.val (.user 7)]
def qu:Option ((Unit)×(Flat×Unit)):=qu_t n ((aA,aB,cC,aD,aE,aG,aH,aI,aJ,aK,aL,()),())
def jr5:qu n aA aB cC aD aE aG aH aI aJ aK aL=some ((),((⟨aA,0,false,0,0,0,0,0,(0:Int)⟩:Flat),())):=by kernel_rfl
def qu_sp:GSpec TT:=spZ qu_t
def jr6:zd7 141 qu_sp:=okZ q8 func141
def qj_C:Ctx TT:=⟨za3,[],0,[],v7,za4,za2⟩
def vw5:List (Pos×Cut):= [(zb3 26,⟨[5,6,7],[],false,[],0,false⟩),(zb3 1689,⟨[5,6,7,16],[],false,[],0,false⟩)]
def qj_t:=ze2 qj_C vw5 f142 ⟨[],[]⟩ [.val (.list (.int .i64))] zk0
def qj:tZ1:=qj_t n i4
noncomputable abbrev qj_z:=jm9 qj_C vw5 f142 ⟨[],[]⟩ [.val (.list (.int .i64))] zk0
def qs4:tZ1:=qj_z n 26 ⟨[(5,.cell ⟨.list (.int .i64),i4⟩),(6,ci aA),(7,ci aB)],[]⟩
def gt0:tZ1:=qj_z n 1689 ⟨[(5,.cell ⟨.list (.int .i64),i4⟩),(6,ci aA),(7,ci aB),(16,cb cC)],[]⟩
def zbe6:qj n i4=qs4 n i4 (i4.length:Int) 0:=by kernel_rfl
def va7:qs4 (n+1) i4 aA aB=j9 (decide (aB<aA)) (if 0<=aB/\aB<(i4.length:Int) then (j9 (decide ((i4.getD aB.toNat 0)<0)) (gt0 n i4 aA aB true) (gt0 n i4 aA aB (decide ((i4.getD aB.toNat 0)>15)))) else none) (some true):=by kernel_rfl
def gb6:gt0 (n+1) i4 aA aB cC=j9 cC (some false) (qs4 n i4 aA (i64.wrap (aB+1))):=by kernel_rfl
def qj_sp:FnSpec TT:=spY qj_t
def qd2:ze3 142 qj_sp:=okY q8 func142
def zaw6:Ctx TT:=⟨za3,[(141,qu_sp.toCall (v4 TT)),(142,qj_sp.toCall)],0,[(2,1)],v7,za4,za2⟩
def wv6:=zd6 zaw6 [] f73 nl0 yb9 [] ye0
def qdr:vd6:=wv6 n ((aA,aB,cC,aD,aE,aG,aH,aI,aJ,aK,aL,()),())
def ux5:qdr n aA aB cC aD aE aG aH aI aJ aK aL=j6 (qu g9 aA aB cC aD aE aG aH aI aJ aK aL) fun y1=>j9 ((y1.2.1.Do==aA)&&((y1.2.1.What==aB)&&((y1.2.1.Narrow==cC)&&((aD==aD)&&((y1.2.1.A==aE)&&((y1.2.1.B==aG)&&((aH==aH)&&((y1.2.1.Size==aI)&&(y1.2.1.To==aJ))))))))) (j6 (qj g9 ([aD]:List Int)) fun y2=>some ((),(y2,()))) (some ((),(false,()))):=by kernel_rfl
def qdr_sp:GSpec TT:=spZ wv6
def ux6:zd7 73 qdr_sp:=okZ (v8 (q9 jr6 (j8 141)) (v8 (q7 qd2) q8)) func73
def zaw5:Ctx TT:=⟨za3,[(141,qu_sp.toCall (v4 TT)),(142,qj_sp.toCall)],0,[(2,1)],v7,za4,za2⟩
def wv5:=zd6 zaw5 [] f74 nl0 yb9 [] ye0
def qdq:vd6:=wv5 n ((aA,aB,cC,aD,aE,aG,aH,aI,aJ,aK,aL,()),())
def ux3:qdq n aA aB cC aD aE aG aH aI aJ aK aL=j6 (qu g9 aA aB cC aD aE aG aH aI aJ aK aL) fun y1=>j9 ((y1.2.1.Do==aA)&&((y1.2.1.What==aB)&&((y1.2.1.Narrow==cC)&&((aD==aD)&&((aE==aE)&&((y1.2.1.B==aG)&&((y1.2.1.N==aH)&&((y1.2.1.Size==aI)&&(y1.2.1.To==aJ))))))))) (j6 (qj g9 ([aD,aE]:List Int)) fun y2=>some ((),(y2,()))) (some ((),(false,()))):=by kernel_rfl
def qdq_sp:GSpec TT:=spZ wv5
def ux4:zd7 74 qdq_sp:=okZ (v8 (q9 jr6 (j8 141)) (v8 (q7 qd2) q8)) func74
def zaw1:Ctx TT:=⟨za3,[(141,qu_sp.toCall (v4 TT)),(142,qj_sp.toCall)],0,[(2,1)],v7,za4,za2⟩
def wv1:=zd6 zaw1 [] f75 nl0 yb9 [] ye0
def qdm:vd6:=wv1 n ((aA,aB,cC,aD,aE,aG,aH,aI,aJ,aK,aL,()),())
def uw5:qdm n aA aB cC aD aE aG aH aI aJ aK aL=j6 (qu g9 aA aB cC aD aE aG aH aI aJ aK aL) fun y1=>j9 ((y1.2.1.Do==aA)&&((aB==aB)&&((cC==cC)&&((aD==aD)&&((aE==aE)&&((aG==aG)&&((y1.2.1.N==aH)&&((y1.2.1.Size==aI)&&(y1.2.1.To==aJ))))))))) (j9 (decide (aB>=1)) (j9 (decide (aB<=13)) (j6 (qj g9 ([aD,aE,aG]:List Int)) fun y2=>j9 y2 (j9 (aB != 13) (some ((),(true,()))) (some ((),(aG==0,())))) (some ((),(false,())))) (some ((),(false,())))) (some ((),(false,())))) (some ((),(false,()))):=by kernel_rfl
def qdm_sp:GSpec TT:=spZ wv1
def uw6:zd7 75 qdm_sp:=okZ (v8 (q9 jr6 (j8 141)) (v8 (q7 qd2) q8)) func75
def zat6:Ctx TT:=⟨za3,[],0,[],v7,za4,za2⟩
def ws7:=zd6 zat6 [] f143 nl0 yb9 [] ye0
def qcl:vd6:=ws7 n ((aA,aB,cC,aD,aE,aG,aH,aI,aJ,aK,aL,()),())
def us5:qcl n aA aB cC aD aE aG aH aI aJ aK aL=j9 (aI==1) (j9 (aI==1) (some ((),(true,()))) (some ((),(false,())))) (j9 (aI==2) (j9 (aI==2) (some ((),(true,()))) (some ((),(false,())))) (j9 (aI==4) (j9 (aI==4) (some ((),(true,()))) (some ((),(false,())))) (j9 (aI==8) (some ((),(true,()))) (some ((),(false,())))))):=by kernel_rfl
def qcl_sp:GSpec TT:=spZ ws7
def gm8:zd7 143 qcl_sp:=okZ q8 func143
def zat5:Ctx TT:=⟨za3,[(141,qu_sp.toCall (v4 TT)),(142,qj_sp.toCall),(143,qcl_sp.toCall (v4 TT))],0,[(2,1)],v7,za4,za2⟩
def ws6:=zd6 zat5 [] f76 nl0 yb9 [] ye0
def qck:vd6:=ws6 n ((aA,aB,cC,aD,aE,aG,aH,aI,aJ,aK,aL,()),())
def us3:qck n aA aB cC aD aE aG aH aI aJ aK aL=j6 (qu g9 aA aB cC aD aE aG aH aI aJ aK aL) fun y1=>j9 ((y1.2.1.Do==aA)&&((y1.2.1.What==aB)&&((y1.2.1.Narrow==cC)&&((aD==aD)&&((aE==aE)&&((y1.2.1.B==aG)&&((aH==aH)&&((aI==aI)&&(y1.2.1.To==aJ))))))))) (j6 (qj g9 ([aD,aE]:List Int)) fun y2=>j9 y2 (j6 (qcl g9 aA aB cC aD aE aG aH aI aJ aK aL) fun y3=>some ((),(y3.2.1,()))) (some ((),(false,())))) (some ((),(false,()))):=by kernel_rfl
def qck_sp:GSpec TT:=spZ ws6
def us4:zd7 76 qck_sp:=okZ (v8 (q9 jr6 (j8 141)) (v8 (q7 qd2) (v8 (q9 gm8 (j8 143)) q8))) func76
def zaw7:Ctx TT:=⟨za3,[(141,qu_sp.toCall (v4 TT)),(142,qj_sp.toCall),(143,qcl_sp.toCall (v4 TT))],0,[(2,1)],v7,za4,za2⟩
def wv7:=zd6 zaw7 [] f77 nl0 yb9 [] ye0
def qds:vd6:=wv7 n ((aA,aB,cC,aD,aE,aG,aH,aI,aJ,aK,aL,()),())
def ux7:qds n aA aB cC aD aE aG aH aI aJ aK aL=j6 (qu g9 aA aB cC aD aE aG aH aI aJ aK aL) fun y1=>j9 ((y1.2.1.Do==aA)&&((y1.2.1.What==aB)&&((y1.2.1.Narrow==cC)&&((y1.2.1.D==aD)&&((aE==aE)&&((aG==aG)&&((aH==aH)&&((aI==aI)&&(y1.2.1.To==aJ))))))))) (j6 (qj g9 ([aE,aG]:List Int)) fun y2=>j9 y2 (j6 (qcl g9 aA aB cC aD aE aG aH aI aJ aK aL) fun y3=>some ((),(y3.2.1,()))) (some ((),(false,())))) (some ((),(false,()))):=by kernel_rfl
def qds_sp:GSpec TT:=spZ wv7
def ux8:zd7 77 qds_sp:=okZ (v8 (q9 jr6 (j8 141)) (v8 (q7 qd2) (v8 (q9 gm8 (j8 143)) q8))) func77
def zat4:Ctx TT:=⟨za3,[],0,[],v7,za4,za2⟩
def ws5:=zd6 zat4 [] f144 nl0 yb9 [] ye0
def qcj:vd6:=ws5 n ((aA,aB,cC,aD,aE,aG,aH,aI,aJ,aK,aL,()),())
def us2:qcj n aA aB cC aD aE aG aH aI aJ aK aL=j9 (decide (aJ>aK)) (some ((),(decide (aJ<aL),()))) (some ((),(false,()))):=by kernel_rfl
def qcj_sp:GSpec TT:=spZ ws5
def gm7:zd7 144 qcj_sp:=okZ q8 func144
def zaw4:Ctx TT:=⟨za3,[(141,qu_sp.toCall (v4 TT)),(144,qcj_sp.toCall (v4 TT))],0,[],v7,za4,za2⟩
def wv4:=zd6 zaw4 [] f78 nl0 yb9 [] ye0
def qdp:vd6:=wv4 n ((aA,aB,cC,aD,aE,aG,aH,aI,aJ,aK,aL,()),())
def ux1:qdp n aA aB cC aD aE aG aH aI aJ aK aL=j6 (qu g9 aA aB cC aD aE aG aH aI aJ aK aL) fun y1=>j9 ((y1.2.1.Do==aA)&&((y1.2.1.What==aB)&&((y1.2.1.Narrow==cC)&&((y1.2.1.D==aD)&&((y1.2.1.A==aE)&&((y1.2.1.B==aG)&&((y1.2.1.N==aH)&&((y1.2.1.Size==aI)&&(aJ==aJ))))))))) (j6 (qcj g9 aA aB cC aD aE aG aH aI aJ aK aL) fun y2=>some ((),(y2.2.1,()))) (some ((),(false,()))):=by kernel_rfl
def qdp_sp:GSpec TT:=spZ wv4
def ux2:zd7 78 qdp_sp:=okZ (v8 (q9 jr6 (j8 141)) (v8 (q9 gm7 (j8 144)) q8)) func78
def zaw2:Ctx TT:=⟨za3,[(141,qu_sp.toCall (v4 TT)),(142,qj_sp.toCall),(144,qcj_sp.toCall (v4 TT))],0,[(2,1)],v7,za4,za2⟩
def wv2:=zd6 zaw2 [] f79 nl0 yb9 [] ye0
def qdn:vd6:=wv2 n ((aA,aB,cC,aD,aE,aG,aH,aI,aJ,aK,aL,()),())
def uw7:qdn n aA aB cC aD aE aG aH aI aJ aK aL=j6 (qu g9 aA aB cC aD aE aG aH aI aJ aK aL) fun y1=>j9 ((y1.2.1.Do==aA)&&((aB==aB)&&((cC==cC)&&((y1.2.1.D==aD)&&((aE==aE)&&((aG==aG)&&((y1.2.1.N==aH)&&((y1.2.1.Size==aI)&&(aJ==aJ))))))))) (j9 (decide (aB>=17)) (j9 (decide (aB<=27)) (j6 (qj g9 ([aE,aG]:List Int)) fun y2=>j9 y2 (j6 (qcj g9 aA aB cC aD aE aG aH aI aJ aK aL) fun y3=>some ((),(y3.2.1,()))) (some ((),(false,())))) (some ((),(false,())))) (some ((),(false,())))) (some ((),(false,()))):=by kernel_rfl
def qdn_sp:GSpec TT:=spZ wv2
def uw8:zd7 79 qdn_sp:=okZ (v8 (q9 jr6 (j8 141)) (v8 (q7 qd2) (v8 (q9 gm7 (j8 144)) q8))) func79
def zaw3:Ctx TT:=⟨za3,[(141,qu_sp.toCall (v4 TT)),(142,qj_sp.toCall)],0,[],v7,za4,za2⟩
def wv3:=zd6 zaw3 [] f80 nl0 yb9 [] ye0
def qdo:vd6:=wv3 n ((aA,aB,cC,aD,aE,aG,aH,aI,aJ,aK,aL,()),())
def uw9:qdo n aA aB cC aD aE aG aH aI aJ aK aL=j6 (qu g9 aA aB cC aD aE aG aH aI aJ aK aL) fun y1=>j9 ((y1.2.1.Do==aA)&&((y1.2.1.What==aB)&&((y1.2.1.Narrow==cC)&&((y1.2.1.D==aD)&&((aE==aE)&&((y1.2.1.B==aG)&&((y1.2.1.N==aH)&&((y1.2.1.Size==aI)&&(y1.2.1.To==aJ))))))))) (j6 (qj g9 ([aE]:List Int)) fun y2=>some ((),(y2,()))) (some ((),(false,()))):=by kernel_rfl
def qdo_sp:GSpec TT:=spZ wv3
def ux0:zd7 80 qdo_sp:=okZ (v8 (q9 jr6 (j8 141)) (v8 (q7 qd2) q8)) func80
def qk_C:Ctx TT:=⟨za3,[(29,qfh_sp.toCall (v4 TT)),(73,qdr_sp.toCall (v4 TT)),(74,qdq_sp.toCall (v4 TT)),(75,qdm_sp.toCall (v4 TT)),(76,qck_sp.toCall (v4 TT)),(77,qds_sp.toCall (v4 TT)),(78,qdp_sp.toCall (v4 TT)),(79,qdn_sp.toCall (v4 TT)),(80,qdo_sp.toCall (v4 TT))],0,[],v7,za4,za2⟩
def vw6:List (Pos×Cut):= [(zb3 14,⟨[0,3,25],[],false,[],0,false⟩),(zb3 250,⟨[3,4,27,28,29],[],false,[],0,false⟩),(zb3 32051,⟨[3,4,27,28,29,51],[],false,[],0,false⟩)]
def qk_t:=ze2 qk_C vw6 f15 ⟨[],[]⟩ [yr7] zk0
def qk:tZ1:=qk_t n m5
noncomputable abbrev qk_z:=jm9 qk_C vw6 f15 ⟨[],[]⟩ [yr7] zk0
def kn0:tZ1:=qk_z n 14 ⟨[(0,.cell ⟨.list (.user 7),m5⟩),(3,ci aA),(25,cb cC)],[]⟩
def qd3:tZ1:=qk_z n 250 ⟨[(3,ci aA),(4,.mp 0),(27,.cell ⟨.list (.user 7),mB⟩),(28,ci aC),(29,ci aD)],[.map .u8 [(1,.fn (.func 73) [] []),(2,.fn (.func 74) [] []),(3,.fn (.func 75) [] []),(4,.fn (.func 76) [] []),(5,.fn (.func 76) [] []),(6,.fn (.func 77) [] []),(7,.fn (.func 78) [] []),(8,.fn (.func 79) [] []),(9,.fn (.func 80) [] [])]]⟩
def yq5:tZ1:=qk_z n 32051 ⟨[(3,ci aA),(4,.mp 0),(27,.cell ⟨.list (.user 7),mB⟩),(28,ci aC),(29,ci aD),(51,cb cE)],[.map .u8 [(1,.fn (.func 73) [] []),(2,.fn (.func 74) [] []),(3,.fn (.func 75) [] []),(4,.fn (.func 76) [] []),(5,.fn (.func 76) [] []),(6,.fn (.func 77) [] []),(7,.fn (.func 78) [] []),(8,.fn (.func 79) [] []),(9,.fn (.func 80) [] [])]]⟩
def zbe7:qk n m5=j9 (decide ((m5.length:Int)<1)) (kn0 n m5 (m5.length:Int) true) (j9 (decide ((m5.length:Int)>16384)) (kn0 n m5 (m5.length:Int) true) (if 0<=i64.wrap ((m5.length:Int)-1)/\i64.wrap ((m5.length:Int)-1)<(m5.length:Int) then (kn0 n m5 (m5.length:Int) (((m5.getD ((i64.wrap ((m5.length:Int)-1)).toNat) k9).Do) != 9)) else none)):=by kernel_rfl
def gb7:kn0 (n+1) m5 aA cC=j9 cC (some false) (j6 (qfh g9) fun y1=>qd3 n aA m5 (m5.length:Int) 0):=by kernel_rfl
def va8:qd3 (n+1) aA mB aC aD=j9 (decide (aD<aC)) (if 0<=aD/\aD<(mB.length:Int) then (if (mB.getD aD.toNat k9).Do=1 then (j6 (qdr g9 ((mB.getD aD.toNat k9).Do) ((mB.getD aD.toNat k9).What) ((mB.getD aD.toNat k9).Narrow) ((mB.getD aD.toNat k9).D) ((mB.getD aD.toNat k9).A) ((mB.getD aD.toNat k9).B) ((mB.getD aD.toNat k9).N) ((mB.getD aD.toNat k9).Size) ((mB.getD aD.toNat k9).To) aD aA) fun y1=>yq5 n aA mB aC aD (!y1.2.1)) else (if (mB.getD aD.toNat k9).Do=2 then (j6 (qdq g9 ((mB.getD aD.toNat k9).Do) ((mB.getD aD.toNat k9).What) ((mB.getD aD.toNat k9).Narrow) ((mB.getD aD.toNat k9).D) ((mB.getD aD.toNat k9).A) ((mB.getD aD.toNat k9).B) ((mB.getD aD.toNat k9).N) ((mB.getD aD.toNat k9).Size) ((mB.getD aD.toNat k9).To) aD aA) fun y2=>yq5 n aA mB aC aD (!y2.2.1)) else (if (mB.getD aD.toNat k9).Do=3 then (j6 (qdm g9 ((mB.getD aD.toNat k9).Do) ((mB.getD aD.toNat k9).What) ((mB.getD aD.toNat k9).Narrow) ((mB.getD aD.toNat k9).D) ((mB.getD aD.toNat k9).A) ((mB.getD aD.toNat k9).B) ((mB.getD aD.toNat k9).N) ((mB.getD aD.toNat k9).Size) ((mB.getD aD.toNat k9).To) aD aA) fun y3=>yq5 n aA mB aC aD (!y3.2.1)) else (if (mB.getD aD.toNat k9).Do=4 then (j6 (qck g9 ((mB.getD aD.toNat k9).Do) ((mB.getD aD.toNat k9).What) ((mB.getD aD.toNat k9).Narrow) ((mB.getD aD.toNat k9).D) ((mB.getD aD.toNat k9).A) ((mB.getD aD.toNat k9).B) ((mB.getD aD.toNat k9).N) ((mB.getD aD.toNat k9).Size) ((mB.getD aD.toNat k9).To) aD aA) fun y4=>yq5 n aA mB aC aD (!y4.2.1)) else (if (mB.getD aD.toNat k9).Do=5 then (j6 (qck g9 ((mB.getD aD.toNat k9).Do) ((mB.getD aD.toNat k9).What) ((mB.getD aD.toNat k9).Narrow) ((mB.getD aD.toNat k9).D) ((mB.getD aD.toNat k9).A) ((mB.getD aD.toNat k9).B) ((mB.getD aD.toNat k9).N) ((mB.getD aD.toNat k9).Size) ((mB.getD aD.toNat k9).To) aD aA) fun y5=>yq5 n aA mB aC aD (!y5.2.1)) else (if (mB.getD aD.toNat k9).Do=6 then (j6 (qds g9 ((mB.getD aD.toNat k9).Do) ((mB.getD aD.toNat k9).What) ((mB.getD aD.toNat k9).Narrow) ((mB.getD aD.toNat k9).D) ((mB.getD aD.toNat k9).A) ((mB.getD aD.toNat k9).B) ((mB.getD aD.toNat k9).N) ((mB.getD aD.toNat k9).Size) ((mB.getD aD.toNat k9).To) aD aA) fun y6=>yq5 n aA mB aC aD (!y6.2.1)) else (if (mB.getD aD.toNat k9).Do=7 then (j6 (qdp g9 ((mB.getD aD.toNat k9).Do) ((mB.getD aD.toNat k9).What) ((mB.getD aD.toNat k9).Narrow) ((mB.getD aD.toNat k9).D) ((mB.getD aD.toNat k9).A) ((mB.getD aD.toNat k9).B) ((mB.getD aD.toNat k9).N) ((mB.getD aD.toNat k9).Size) ((mB.getD aD.toNat k9).To) aD aA) fun y7=>yq5 n aA mB aC aD (!y7.2.1)) else (if (mB.getD aD.toNat k9).Do=8 then (j6 (qdn g9 ((mB.getD aD.toNat k9).Do) ((mB.getD aD.toNat k9).What) ((mB.getD aD.toNat k9).Narrow) ((mB.getD aD.toNat k9).D) ((mB.getD aD.toNat k9).A) ((mB.getD aD.toNat k9).B) ((mB.getD aD.toNat k9).N) ((mB.getD aD.toNat k9).Size) ((mB.getD aD.toNat k9).To) aD aA) fun y8=>yq5 n aA mB aC aD (!y8.2.1)) else (if (mB.getD aD.toNat k9).Do=9 then (j6 (qdo g9 ((mB.getD aD.toNat k9).Do) ((mB.getD aD.toNat k9).What) ((mB.getD aD.toNat k9).Narrow) ((mB.getD aD.toNat k9).D) ((mB.getD aD.toNat k9).A) ((mB.getD aD.toNat k9).B) ((mB.getD aD.toNat k9).N) ((mB.getD aD.toNat k9).Size) ((mB.getD aD.toNat k9).To) aD aA) fun y9=>yq5 n aA mB aC aD (!y9.2.1)) else (yq5 n aA mB aC aD true)))))))))) else none) (some true):=by kernel_rfl
def gb8:yq5 (n+1) aA mB aC aD cE=j9 cE (some false) (qd3 n aA mB aC (i64.wrap (aD+1))):=by kernel_rfl
def qk_sp:FnSpec TT:=spY qk_t
def zbe8:ze3 15 qk_sp:=okY (v8 (q9 zag2 (j8 29)) (v8 (q9 ux6 (j8 73)) (v8 (q9 ux4 (j8 74)) (v8 (q9 uw6 (j8 75)) (v8 (q9 us4 (j8 76)) (v8 (q9 ux8 (j8 77)) (v8 (q9 ux2 (j8 78)) (v8 (q9 uw8 (j8 79)) (v8 (q9 ux0 (j8 80)) q8))))))))) func15
end
end Go.X
