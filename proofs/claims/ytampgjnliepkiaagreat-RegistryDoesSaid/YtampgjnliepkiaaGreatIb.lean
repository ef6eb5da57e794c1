import Derived.Test.YtampgjnliepkiaaGreatIa
set_option linter.defProp false
namespace Go.X
open Go.RowKit Go.V Go.Proofs Tryz IntKind
noncomputable section
variable (n:Nat) (i7:List (Int×List Int)) (l7:List (Int×Bool)) (aA:Int) (cA:List Int) (dA:Bool) (aB:Int) (dB:Bool) (fB:Nat) (iB:List (Int×List Int)) (aC:Int) (cC:List Int) (dC:Bool) (fC:Nat) (aD:Int) (cD:List Int) (dD:Bool) (fD:Nat) (aE:Int) (cE:List Int) (dE:Bool) (fE:Nat) (aF:Int) (cF:List Int) (dF:Bool) (lF:List (Int×Bool)) (cG:List Int) (dG:Bool) (fG:Nat) (iG:List (Int×List Int)) (oG:List Entry) (aH:Int) (lH:List (Int×Bool)) (aI aJ:Int) (fJ:Nat) (iJ:List (Int×List Int)) (mJ:Entry) (aK:Int) (dK:Bool) (lK:List (Int×Bool)) (aL:Int) (dL:Bool) (cM:List Int) (dM:Bool) (cN:List Int)
def wt3:Ctx TT:=ctZ [] 0 []
def go8:=zn0 wt3 [] f23 ⟨[],[]⟩ yt5 zn9
def qaa:tZ1:=go8 n (aA,aB)
def wc7:qaa n aA aB=j9 (decide (aA>=1)) (some (decide (aA<=aB))) (some false):=by kernel_rfl
def qaa_sp:FnSpec TT:=spY go8
def yo7:zn7 23 qaa_sp:=okY v7 func23
def wx3:Ctx TT:=ctZ [(23,qaa_sp.toCall)] 0 []
def gt7:=zh0 wx3 [] f6 nl0 zd1 [] [.nilp]
def qbs:Option ((Unit)×(Unit×Unit)):=gt7 n (aA,())
def wh9:qbs n aA=q9 (qaa BIG aA 7) fun y1=>j9 (!y1) (some ((),((),()))) (none):=by kernel_rfl
def qbs_sp:GSpec TT:=spZ gt7
def ku2:zh4 6 qbs_sp:=okZ (za0 (q8 yo7) v7) func6
def ww4:Ctx TT:=ctZ [(23,qaa_sp.toCall)] 0 []
def gs5:=zh0 ww4 [] f6 nl0 zd1 [] [yi0]
def qbg:Option ((Unit)×((Int×(List (Int×List Int))×Int×Int×Int×(List (Int×Bool))×Bool×Unit)×Unit)):=gs5 n (aA,())
def wg2:qbg n aA=q9 (qaa BIG aA 7) fun y1=>j9 (!y1) (none) (some ((),((aA,([]:List (Int×List Int)),0,0,0,([]:List (Int×Bool)),false,()),()))):=by kernel_rfl
def qbg_sp:GSpec TT:=spZ gs5
def kt6:zh4 6 qbg_sp:=okZ (za0 (q8 yo7) v7) func6
def zz3:Bool:=(match qaa BIG aA (7:Int) with|some y1=>(!y1)|none=>false)
def ww3:Ctx TT:=ctZ [] 0 []
def gs4:=zn0 ww3 [] f22 ⟨[],[(0,.user 0)]⟩ yt5 [.val (.user 0)]
def qbe:Option (Entry):=gs4 n (aA,aB)
def qf4:qbe n aA aB=some (⟨(0:Int),4,aA,aB,true,([]:List Int)⟩:Entry):=by kernel_rfl
def qbe_sp:FnSpec TT:=spY gs4
def wg0:zn7 22 qbe_sp:=okY v7 func22
def wu0:Ctx TT:=ctZ [] 3 []
def gp6:=zh0 wu0 [] f26 nl0 [yi0] zj0 ym3
def qah:Option (((Int×Unit×Int×Int×Int×Unit×Bool×Unit)×(List (Int×List Int))×(List (Int×Bool))×Unit)×(Bool×Unit)):=gp6 n ((aA,iB,aC,aD,aE,lF,dG,()),())
def qe7:qah n aA iB aC aD aE lF dG=some (((aA,(),aC,aD,aE,(),dG,()),iB,lF,()),(decide (aA>0),())):=by kernel_rfl
def qah_sp:GSpec TT:=spZ gp6
def jd7:zh4 26 qah_sp:=okZ v7 func26
def gq3:Ctx TT:=ctZ [(26,qah_sp.toCall (k9 TT))] 3 []
def qn8:List (Pos×Cut):= [(zc0 12,⟨[0,2,4],[],false,[(3,5,5,.int .u8)],0,false⟩)]
def gq4:=zh0 gq3 qn8 f12 nl0 [yi0] zj0 qd5
def qam:tZ4:=gq4 n ((aA,iB,aC,aD,aE,lF,dG,()),())
noncomputable abbrev wu5:=yx4 gq3 qn8 f12 nl0 zj0 qd5
def vc5:tZ4:=wu5 n 12 ⟨[(0,.ptr 0 0),(2,.ptr 3 0),(4,cb dA)],[.blk 64 [ci aB,.mp 1,ci aC,ci aD,ci aE,.mp 2,cb dF],.tmap .i64 (.list (.int .u8)) iG,.tmap .i64 (.bool) lH,.blk 40 [ci aI,cu8 aJ,ci aK,ci aL,cb dM,.own 4],.row 5 (.int .u8) cN]⟩
def we2:qam n aA iB aC aD aE lF dG=q9 (qah BIG aA iB aC aD aE lF dG) fun y1=>j9 (!y1.2.1) (vc5 n true y1.1.1.1 y1.1.1.2.2.1 y1.1.1.2.2.2.1 y1.1.1.2.2.2.2.1 y1.1.1.2.2.2.2.2.2.1 y1.1.2.1 y1.1.2.2.1 0 0 0 0 false ([]:List Int)) (vc5 n (y1.1.1.2.2.2.2.1==0) y1.1.1.1 y1.1.1.2.2.1 y1.1.1.2.2.2.1 y1.1.1.2.2.2.2.1 y1.1.1.2.2.2.2.2.2.1 y1.1.2.1 y1.1.2.2.1 0 0 0 0 false ([]:List Int)):=by kernel_rfl
def vr9:vc5 (n+1) dA aB aC aD aE dF iG lH aI aJ aK aL dM cN=j9 dA (some (((aB,(),aC,aD,aE,(),dF,()),iG,lH,()),((0,0,0,0,false,(),()),false,()))) (j9 dF (some (((aB,(),aC,aD,aE,(),dF,()),iG,lH,()),((0,6,aE,0,false,(),()),true,()))) (j9 ((lH.length:Int)==aB) (some (((aB,(),aC,aD,aE,(),dF,()),iG,lH,()),((0,5,aE,0,false,(),()),true,()))) (some (((aB,(),aC,aD,aE,(),dF,()),iG,lH,()),((0,0,0,0,false,(),()),false,()))))):=by kernel_rfl
def qam_sp:GSpec TT:=spZ gq4
def ks4:zh4 12 qam_sp:=okZ (za0 (q7 jd7 (j8 26)) v7) func12
def wz0:Ctx TT:=ctZ [] 1 []
def gv4:=zh0 wz0 [] f42 nl0 [.tm .i64 (.bool)] [qb7] [.fn 61 [] [.ptr 0 62 [.mpo 0]]]
def qcm:Option (((List (Int×Bool))×Unit)×(((Unit)×((Unit×Unit)×Unit))×Unit)):=gv4 n (l7,())
def wl7:qcm n l7=some ((l7,()),(((),(((),()),())),())):=by kernel_rfl
def qcm_sp:GSpec TT:=spZ gv4
def wl8:zh4 42 qcm_sp:=okZ v7 func42
def wz1:Ctx TT:=ctZ [] 1 []
def gv5:=zh0 wz1 [] f43 nl0 [.tm .i64 (.list (.int .u8))] [qb8] [.fn 62 [] [.ptr 0 61 [.mpo 0]]]
def qcn:Option (((List (Int×List Int))×Unit)×(((Unit)×((Unit×Unit)×Unit))×Unit)):=gv5 n (i7,())
def wl9:qcn n i7=some ((i7,()),(((),(((),()),())),())):=by kernel_rfl
def qcn_sp:GSpec TT:=spZ gv5
def wm0:zh4 43 qcn_sp:=okZ v7 func43
def wu2:Ctx TT:=ctZ [] 0 []
def gp8:=zn0 wu2 [] f44 ⟨[],[]⟩ yq9 yi3
def qaj:tZ0:=gp8 n cA
def wd7:qaj n cA=gn9 cA.isEmpty (some ([]:List Int)) (if (0+cA.length)*1<=140737488355328 then (some (([]:List Int)++cA)) else none):=by kernel_rfl
def qaj_sp:FnSpec TT:=spY gp8
def jo7:zn7 44 qaj_sp:=okY v7 func44
def ui4:Ctx TT:=⟨qt3,[(26,qah_sp.toCall (k9 TT)),(42,qcm_sp.toCall (k9 TT)),(41,sorted1_sp.toCall (sorted0_sp.toCall (k9 TT))),(43,qcn_sp.toCall (k9 TT)),(44,qaj_sp.toCall)],3,[(3,1),(7,1)],yv9,gb5,qm6⟩
def vj0:List (Pos×Cut):= [(zc0 122,⟨[0,2,3,38,39,40],[],false,[(3,0,53,.nl (.user 1)),(3,4,3,.int .i64),(4,0,53,.nl (.user 1))],0,false⟩)]
def ui5:=zh0 ui4 vj0 f15 nl0 [yi0] zj0 [vb3]
def qk:tZ5:=ui5 n ((aA,iB,aC,aD,aE,lF,dG,()),())
noncomputable abbrev ui6:=yx4 ui4 vj0 f15 nl0 zj0 [vb3]
def ky2 (n:Nat) (s39 s40 b0_0 b0_2 b0_3 b0_4:Int) (b0_6:Bool) (t1:List (Int×List Int)) (t2:List (Int×Bool)) (b3_1 b3_2 b3_3:Int) (b3_5:Bool) (b4_1 b4_2 b4_3:Int) (b4_5:Bool) (r5 r6:List Int) (r7:List Held) (r8:List Int) (r9:List Held):tZ5:=ui6 n 122 ⟨[(0,.ptr 0 0),(2,.ptr 3 0),(3,.ptr 4 0),(38,.own 5),(39,ci s39),(40,ci s40)],[.blk 64 [ci b0_0,.mp 1,ci b0_2,ci b0_3,ci b0_4,.mp 2,cb b0_6],.tmap .i64 (.list (.int .u8)) t1,.tmap .i64 (.bool) t2,.blk 31 [.own 7,ci b3_1,ci b3_2,ci b3_3,.own 8,cb b3_5],.blk 31 [.own 9,ci b4_1,ci b4_2,ci b4_3,.own 6,cb b4_5],.row 3 (.int .i64) r5,.row 3 (.int .i64) r6,.drow 53 1 [0,5] r7 none,.row 3 (.int .i64) r8,.drow 53 1 [0,5] r9 none]⟩
def yu2 (n:Nat) (s39 s40 b0_0 b0_2 b0_3 b0_4:Int) (b0_6:Bool) (t1:List (Int×List Int)) (t2:List (Int×Bool)) (b3_1 b3_2 b3_3:Int) (b3_5:Bool) (b4_1 b4_2 b4_3:Int) (b4_5:Bool) (r5:List Int) (r6:List Held) (r7:List Int) (r8:List Held) (r9:List Int):tZ5:=ui6 n 122 ⟨[(0,.ptr 0 0),(2,.ptr 3 0),(3,.ptr 4 0),(38,.own 5),(39,ci s39),(40,ci s40)],[.blk 64 [ci b0_0,.mp 1,ci b0_2,ci b0_3,ci b0_4,.mp 2,cb b0_6],.tmap .i64 (.list (.int .u8)) t1,.tmap .i64 (.bool) t2,.blk 31 [.own 6,ci b3_1,ci b3_2,ci b3_3,.own 7,cb b3_5],.blk 31 [.own 8,ci b4_1,ci b4_2,ci b4_3,.own 9,cb b4_5],.row 3 (.int .i64) r5,.drow 53 1 [0,5] r6 none,.row 3 (.int .i64) r7,.drow 53 1 [0,5] r8 none,.row 3 (.int .i64) r9]⟩
def uc5:qk n aA iB aC aD aE lF dG=q9 (qah BIG aA iB aC aD aE lF dG) fun y1=>j9 (!y1.2.1) (none) (q9 (qcm BIG y1.1.2.2.1) fun y2=>q9 (zj6 y2.1.1) fun y3=>q9 (qcn BIG y1.1.2.1) fun y4=>q9 (zj6 y4.1.1) fun y5=>ky2 n (y5.2.1.length:Int) 0 y1.1.1.1 y1.1.1.2.2.1 y1.1.1.2.2.2.1 y1.1.1.2.2.2.2.1 y1.1.1.2.2.2.2.2.2.1 y5.1.2.1 y3.1.2.1 0 0 0 false y1.1.1.2.2.1 y1.1.1.2.2.2.1 y1.1.1.2.2.2.2.1 y1.1.1.2.2.2.2.2.2.1 y5.2.1 y3.2.1 ([]:List Held) ([]:List Int) ([]:List Held)):=by kernel_rfl
def qp6 (n:Nat) (s39 s40 b0_0 b0_2 b0_3 b0_4 b0_6 t1 t2 b3_1 b3_2 b3_3 b3_5 b4_1 b4_2 b4_3 b4_5 r5 r6 r7 r8 r9):ky2 (n+1) s39 s40 b0_0 b0_2 b0_3 b0_4 b0_6 t1 t2 b3_1 b3_2 b3_3 b3_5 b4_1 b4_2 b4_3 b4_5 r5 r6 r7 r8 r9=j9 (decide (s40<s39)) (if 0<=s40/\s40<(r5.length:Int) then (q9 (qaj BIG (jb8 TT (.list (.int .u8)) t1 (r5.getD s40.toNat 0))) fun y1=>if (r9.length+(([zt3]:List Held).set 0 (⟨r5.getD s40.toNat 0,y1⟩:Held)).length)*32<=140737488355328 then (yu2 n s39 (i64.wrap (s40+1)) b0_0 b0_2 b0_3 b0_4 b0_6 t1 t2 b3_1 b3_2 b3_3 b3_5 b4_1 b4_2 b4_3 b4_5 r5 r7 r8 (r9++(([zt3]:List Held).set 0 (⟨r5.getD s40.toNat 0,y1⟩:Held))) r6) else none) else none) (some (((b0_0,(),b0_2,b0_3,b0_4,(),b0_6,()),t1,t2,()),((r9,b4_1,b4_2,b4_3,r6,b4_5,()),()))):=by kernel_rfl
def jw0 (n:Nat) (s39 s40 b0_0 b0_2 b0_3 b0_4 b0_6 t1 t2 b3_1 b3_2 b3_3 b3_5 b4_1 b4_2 b4_3 b4_5 r5 r6 r7 r8 r9):yu2 (n+1) s39 s40 b0_0 b0_2 b0_3 b0_4 b0_6 t1 t2 b3_1 b3_2 b3_3 b3_5 b4_1 b4_2 b4_3 b4_5 r5 r6 r7 r8 r9=j9 (decide (s40<s39)) (if 0<=s40/\s40<(r5.length:Int) then (q9 (qaj BIG (jb8 TT (.list (.int .u8)) t1 (r5.getD s40.toNat 0))) fun y1=>if (r8.length+(([zt3]:List Held).set 0 (⟨r5.getD s40.toNat 0,y1⟩:Held)).length)*32<=140737488355328 then (yu2 n s39 (i64.wrap (s40+1)) b0_0 b0_2 b0_3 b0_4 b0_6 t1 t2 b3_1 b3_2 b3_3 b3_5 b4_1 b4_2 b4_3 b4_5 r5 r6 r7 (r8++(([zt3]:List Held).set 0 (⟨r5.getD s40.toNat 0,y1⟩:Held))) r9) else none) else none) (some (((b0_0,(),b0_2,b0_3,b0_4,(),b0_6,()),t1,t2,()),((r8,b4_1,b4_2,b4_3,r9,b4_5,()),()))):=by kernel_rfl
def qk_sp:GSpec TT:=spZ ui5
def gy2:zh4 15 qk_sp:=okZ (za0 (q7 jd7 (j8 26)) (za0 (q7 wl8 (j8 42)) (za0 (q7 qz6 (q7 qz5 (j8 41))) (za0 (q7 wm0 (j8 43)) (za0 (q8 jo7) v7))))) func15
def wz4:Ctx TT:=ctZ [] 3 []
def gv8:=zh0 wz4 [] f27 nl0 yt7 zj0 zd1
def qcq:tZ6:=gv8 n ((aA,iB,aC,aD,aE,lF,dG,()),(aH,aI,aJ,aK,dL,(),()),())
def qcq_sp:GSpec TT:=spZ gv8
def vd7:zh4 27 qcq_sp:=okZ v7 func27
def wz9:Ctx TT:=ctZ [] 0 []
def gw3:=zh0 wz9 [] f125 nl0 [jn5] [] [yo1]
def qcv:Option ((Unit)×((List Int×Bool×Bool×Unit)×Unit)):=gw3 n (cA,())
def wm3:qcv n cA=if (0+cA.length)*1<=140737488355328 then (some ((),((([]:List Int)++cA,true,false,()),()))) else none:=by kernel_rfl
def qcv_sp:GSpec TT:=spZ gw3
def wm4:zh4 125 qcv_sp:=okZ v7 func125
def ww5:Ctx TT:=ctZ [] 2 []
def gs6:=zh0 ww5 [] f160 nl0 [yo1] [.blk 242 [.own 1,.val (.bool),.val (.bool)],zq6] ym3
def qbh:Option (((Unit×Bool×Bool×Unit)×List Int×Unit)×(Bool×Unit)):=gs6 n ((cA,dB,dC,()),())
def wg3:qbh n cA dB dC=j9 (!dB) (some ((((),dB,dC,()),cA,()),(true,()))) (some ((((),dB,dC,()),cA,()),(dC,()))):=by kernel_rfl
def qbh_sp:GSpec TT:=spZ gs6
def vd3:zh4 160 qbh_sp:=okZ v7 func160
def qr_C:Ctx TT:=ctZ [] 2 []
def wn6:zb2 TT prog qr_C.E:=v7
def qa5:List (Pos×Cut):= [([true],⟨[0,1],[],false,[],0,false⟩),(zc0 6,⟨[0,1,16],[],false,[],0,false⟩)]
def qr:tZ7:=qb2 TT prog qr_C qa5 f171 (za4 f171) ⟨[],[],[(0,0,4000000000,.bool)],[],[]⟩ [yo1,yq2] zr9 [.part 1 1] (.ifc 256 (.agg [])) n ((cA,dB,dC,()),aD,())
noncomputable abbrev uk3:=gb1 TT prog qr_C qa5 f171 (za4 f171) ⟨[],[],[(0,0,4000000000,.bool)],[],[]⟩ [.blk 242 [.part 1 1,.val (.bool),.val (.bool)],.row 5 (.int .u8)] [.part 1 1] (.ifc 256 (.agg []))
def ka1:tZ7:=uk3 n [false,true] ⟨[(0,.ptr 0 0),(1,ci aA),(16,cb dB)],[.blk 242 [.own 1,cb dC,cb dD],.row 5 (.int .u8) cE]⟩
def ky4:tZ7:=uk3 n [true] ⟨[(0,.ptr 0 0),(1,ci aA)],[.blk 242 [.own 1,cb dB,cb dC],.row 5 (.int .u8) cD]⟩
def ud5:qr n cA dB dC aD=j9 (decide (aD<0)) (ka1 n aD true dB dC cA) (ka1 n aD (decide (aD>(cA.length:Int))) dB dC cA):=by kernel_rfl
def kk5:ka1 (n+1) aA dB dC dD cE=j9 dB (some ((((0,cE.length),dC,dD,()),cE,()),.inr ((),()))) (ky4 n aA dC dD cE):=by kernel_rfl
def kk4:ky4 (n+1) aA dB dC cD=if 0<=(0:Int)/\0<=aA/\aA<=(cD.length:Int) then (if 0<=aA/\aA<=(cD.length:Int)/\(cD.length:Int)<=(cD.length:Int) then (some ((((aA.toNat,((cD.length:Int).toNat)-aA.toNat),dB,dC,()),cD,()),.inl ((0,aA.toNat-0),()))) else none) else none:=by kernel_rfl
def qr_sp:PSpec TT:=⟨[yo1,yq2],zr9,[.part 1 1],.ifc 256 (.agg []),fun x=>qr BIG x.1.1 x.1.2.1 x.1.2.2.1 x.2.1⟩
def ky5:POk TT prog 171 qr_sp:=ye3 (C:=qr_C) (cuts:=qa5) (by kernel_rfl) wn6 func171 (show f171.body=some (za4 f171) by kernel_rfl) (by kernel_rfl) (by kernel_rfl) (by kernel_rfl) fun x y h=>⟨BIG,h⟩
def qab_C:Ctx TT:=ctZ [(171,qr_sp.toCall (k9 TT))] 2 []
def gg3:zb2 TT prog qab_C.E:=za0 (zg6 ky5 (j8 171)) v7
def jl9:List (Pos×Cut):= [(zc0 58,⟨[3,7,8,9],[],false,[],0,false⟩)]
def qab:tZ8:=qb2 TT prog qab_C jl9 f156 (za4 f156) ⟨[],[],[],[],[]⟩ [yo1] zr9 zd1 (.ifc 256 (.agg [])) n ((cA,dB,dC,()),())
noncomputable abbrev wt4:=gb1 TT prog qab_C jl9 f156 (za4 f156) ⟨[],[],[],[],[]⟩ [.blk 242 [.part 1 1,.val (.bool),.val (.bool)],.row 5 (.int .u8)] [.val (.int .i64)] (.ifc 256 (.agg []))
def yo8:tZ8:=wt4 n [false,true,false,true,true] ⟨[(3,yq1 aA),(7,.sl 1 1 fB fC),(8,ci aD),(9,ci aE)],[.blk 242 [.sl 1 1 fG fJ,cb dK,cb dL],.row 5 (.int .u8) cM]⟩
def wc8:qab n cA dB dC=q9 (qr BIG cA dB dC 8) fun y1=>match y1.2 with| .inl z1=>(yo8 n 0 z1.1.1 z1.1.2 (z1.1.2:Int) 0 y1.1.1.1.1 y1.1.1.1.2 y1.1.1.2.1 y1.1.1.2.2.1 y1.1.2.1)| .inr e1=>(some ((((y1.1.1.1.1,y1.1.1.1.2),y1.1.1.2.1,y1.1.1.2.2.1,()),y1.1.2.1,()),.inr ((),()))):=by kernel_rfl
def jv1:yo8 (n+1) aA fB fC aD aE fG fJ dK dL cM=j9 (decide (aE<aD)) (if 0<=aE/\aE<(fC:Int) then (if fB+aE.toNat<cM.length then (yo8 n (bOr .u64 (yg4 .u64 aA 8) (u64.wrap (cM.getD (fB+aE.toNat) 0))) fB fC aD (i64.wrap (aE+1)) fG fJ dK dL cM) else none) else none) (some ((((fG,fJ),dK,dL,()),cM,()),.inl (i64.wrap aA,()))):=by kernel_rfl
def qab_sp:PSpec TT:=⟨[yo1],zr9,zd1,.ifc 256 (.agg []),fun x=>qab BIG x.1.1 x.1.2.1 x.1.2.2.1⟩
def ks3:POk TT prog 156 qab_sp:=ye3 (C:=qab_C) (cuts:=jl9) (by kernel_rfl) gg3 func156 (show f156.body=some (za4 f156) by kernel_rfl) (by kernel_rfl) (by kernel_rfl) (by kernel_rfl) fun x y h=>⟨BIG,h⟩
def qcg_C:Ctx TT:=ctZ [(156,qab_sp.toCall (k9 TT))] 3 []
def gh3:zb2 TT prog qcg_C.E:=za0 (zg6 ks3 (j8 156)) v7
def qcg:Option (((Unit×Unit)×((Nat×Nat)×Bool×Bool×Unit)×List Int×Unit)×((Int×Unit)⊕(Unit×Unit))):=qb2 TT prog qcg_C [] f155 (za4 f155) ⟨[],[],[],[],[]⟩ kq6 qc9 zd1 (.ifc 256 (.agg [])) n (((cA,dB,dC,()),()),())
def wk7:qcg n cA dB dC=q9 (qab BIG cA dB dC) fun y1=>match y1.2 with| .inl z1=>(some ((((),()),((y1.1.1.1.1,y1.1.1.1.2),y1.1.1.2.1,y1.1.1.2.2.1,()),y1.1.2.1,()),.inl (z1.1,())))| .inr e1=>(some ((((),()),((y1.1.1.1.1,y1.1.1.1.2),y1.1.1.2.1,y1.1.1.2.2.1,()),y1.1.2.1,()),.inr ((),()))):=by kernel_rfl
def qcg_sp:PSpec TT:=⟨kq6,qc9,zd1,.ifc 256 (.agg []),fun x=>qcg BIG x.1.1.1 x.1.1.2.1 x.1.1.2.2.1⟩
def wk8:POk TT prog 155 qcg_sp:=ye3 (C:=qcg_C) (cuts:= []) (by kernel_rfl) gh3 func155 (show f155.body=some (za4 f155) by kernel_rfl) (by kernel_rfl) (by kernel_rfl) (by kernel_rfl) fun x y h=>⟨BIG,h⟩
def qdm_C:Ctx TT:=ctZ [] 4 []
def gi6:zb2 TT prog qdm_C.E:=v7
def qdm:tZ9:=ji9 prog qdm_C f170 (za4 f170) [.ptr 0 3 [.val (.int .i64)],.ptr 0 213 [.ptr 0 242 [.slr 5 (.int .u8),.val (.bool),.val (.bool)]]] (.rw 1) [.blk 3 [.val (.int .i64)],.blk 213 [.at_ 2 0],.blk 242 [.part 3 1,.val (.bool),.val (.bool)],.row 5 (.int .u8)] ((aA,()),(((cC,fD,fE),dF,dG,()),()),(),())
def wn3:qdm aA cC fD fE dF dG=some ((aA,()),((),()),((fD,fE),dF,dG,()),cC,()):=by kernel_rfl
def vi1:DSpec TT:=⟨[.ptr 0 3 [.val (.int .i64)],.ptr 0 213 [.ptr 0 242 [.slr 5 (.int .u8),.val (.bool),.val (.bool)]]],.rw 1,[.blk 3 [.val (.int .i64)],.blk 213 [.at_ 2 0],.blk 242 [.part 3 1,.val (.bool),.val (.bool)],.row 5 (.int .u8)],fun x=>qdm x.1.1 x.2.1.1.1.1 x.2.1.1.1.2.1 x.2.1.1.1.2.2 x.2.1.1.2.1 x.2.1.1.2.2.1⟩
def gi5:DOk TT prog 170 vi1:=jd1 (C:=qdm_C) (by kernel_rfl) gi6 func170 (show f170.body=some (za4 f170) by kernel_rfl) (by kernel_rfl) (by kernel_rfl) (by kernel_rfl) (by kernel_rfl) fun x y h=>h
def qdn_C:Ctx TT:=ctZ [] 4 []
def gi8:zb2 TT prog qdn_C.E:=v7
def qdn:tZ9:=ji9 prog qdn_C f170 (za4 f170) [.ptr 0 3 [.val (.int .i64)],.ptr 0 213 [.ptr 0 242 [.slr 5 (.int .u8),.val (.bool),.val (.bool)]]] (.ifc 256 (.agg [])) [.blk 3 [.val (.int .i64)],.blk 213 [.at_ 2 0],.blk 242 [.part 3 1,.val (.bool),.val (.bool)],.row 5 (.int .u8)] ((aA,()),(((cC,fD,fE),dF,dG,()),()),(),())
def wn4:qdn aA cC fD fE dF dG=some ((0,()),((),()),((fD,fE),dF,true,()),cC,()):=by kernel_rfl
def vi2:DSpec TT:=⟨[.ptr 0 3 [.val (.int .i64)],.ptr 0 213 [.ptr 0 242 [.slr 5 (.int .u8),.val (.bool),.val (.bool)]]],.ifc 256 (.agg []),[.blk 3 [.val (.int .i64)],.blk 213 [.at_ 2 0],.blk 242 [.part 3 1,.val (.bool),.val (.bool)],.row 5 (.int .u8)],fun x=>qdn x.1.1 x.2.1.1.1.1 x.2.1.1.1.2.1 x.2.1.1.1.2.2 x.2.1.1.2.1 x.2.1.1.2.2.1⟩
def gi7:DOk TT prog 170 vi2:=jd1 (C:=qdn_C) (by kernel_rfl) gi8 func170 (show f170.body=some (za4 f170) by kernel_rfl) (by kernel_rfl) (by kernel_rfl) (by kernel_rfl) (by kernel_rfl) fun x y h=>h
def qbo_C:Ctx TT:=ctZ [(160,qbh_sp.toCall (k9 TT)),(155,qcg_sp.toCall (k9 TT))] 3 []
def gh0:zb2 TT prog qbo_C.E:=za0 (q7 vd3 (j8 160)) (za0 (zg6 wk8 (j8 155)) v7)
def gt3:DefP TT:=⟨2,8,[8,1,4],5,170,[(3,0),(4,0)],vi1,vi2⟩
def qbo:Option ((((Nat×Nat)×Bool×Bool×Unit)×List Int×(Unit×Unit)×Unit)×(Int×Unit)):=gz5 prog qbo_C [] f154 (za4 f154) ⟨[],[],[(0,0,4000000000,.bool)],[],[]⟩ [.ptr 0 242 [.row 5 (.int .u8),.val (.bool),.val (.bool)],.fn 155 [] [.ptr 0 213 [.at_ 0 0]]] [.blk 242 [.part 1 1,.val (.bool),.val (.bool)],.row 5 (.int .u8),.blk 213 [.at_ 0 0]] [.val (.int .i64)] gt3 n ((cA,dB,dC,()),((),(((),()),())),())
def wh1:qbo n cA dB dC=q9 (qbh BIG cA dB dC) fun y1=>j9 y1.2.1 (some ((((0,y1.1.2.1.length),y1.1.1.2.1,y1.1.1.2.2.1,()),y1.1.2.1,((),()),()),(0,()))) (q9 (qcg BIG y1.1.2.1 y1.1.1.2.1 y1.1.1.2.2.1) fun y2=>match y2.2 with| .inl z2=>(q9 (qdm z2.1 y2.1.2.2.1 y2.1.2.1.1.1 y2.1.2.1.1.2 y2.1.2.1.2.1 y2.1.2.1.2.2.1) fun y3=>some ((((y3.2.2.1.1.1,y3.2.2.1.1.2),y3.2.2.1.2.1,y3.2.2.1.2.2.1,()),y3.2.2.2.1,((),()),()),(y3.1.1,())))| .inr e2=>(q9 (qdn 0 y2.1.2.2.1 y2.1.2.1.1.1 y2.1.2.1.1.2 y2.1.2.1.2.1 y2.1.2.1.2.2.1) fun y4=>some ((((y4.2.2.1.1.1,y4.2.2.1.1.2),y4.2.2.1.2.1,y4.2.2.1.2.2.1,()),y4.2.2.2.1,((),()),()),(y4.1.1,())))):=by kernel_rfl
def qbo_sp:GSpec TT:=⟨[yo1,.fn 155 [] [.ptr 0 213 [.at_ 0 0]]],kp9,zd1,fun x=>qbo BIG x.1.1 x.1.2.1 x.1.2.2.1⟩
def wh2:GOk TT prog 154 qbo_sp:=jz0 (C:=qbo_C) (cuts:= []) (D:=gt3) (by kernel_rfl) gh0 func154 (show f154.body=some (za4 f154) by kernel_rfl) (by kernel_rfl) (by kernel_rfl) (by kernel_rfl) gi5 gi7 fun x y h=>⟨BIG,h⟩
def wy6:Ctx TT:=ctZ [(154,qbo_sp.toCall (k9 TT))] 2 []
def gv0:=zh0 wy6 [] f126 nl0 [yo1] zr9 zd1
def qch:Option ((((Nat×Nat)×Bool×Bool×Unit)×List Int×Unit)×(Int×Unit)):=gv0 n ((cA,dB,dC,()),())
def wk9:qch n cA dB dC=q9 (qbo BIG cA dB dC) fun y1=>some ((((y1.1.1.1.1,y1.1.1.1.2),y1.1.1.2.1,y1.1.1.2.2.1,()),y1.1.2.1,()),(y1.2.1,())):=by kernel_rfl
def qch_sp:GSpec TT:=spZ gv0
def wl0:zh4 126 qch_sp:=okZ (za0 (q7 wh2 (j8 154)) v7) func126
def ww6:Ctx TT:=ctZ [] 2 []
def gs7:=zh0 ww6 [] f160 nl0 [yd2] zr9 ym3
def qbi:um8:=gs7 n (((cA,fB,fC),dD,dE,()),())
def kt7:qbi n cA fB fC dD dE=j9 (!dD) (some ((((fB,fC),dD,dE,()),cA,()),(true,()))) (some ((((fB,fC),dD,dE,()),cA,()),(dE,()))):=by kernel_rfl
def qbi_sp:GSpec TT:=spZ gs7
def kt8:zh4 160 qbi_sp:=okZ v7 func160
def qv_C:Ctx TT:=ctZ [] 2 []
def wn7:zb2 TT prog qv_C.E:=v7
def qa6:List (Pos×Cut):= [([true],⟨[0,1],[],false,[],0,false⟩),(zc0 6,⟨[0,1,16],[],false,[],0,false⟩)]
def qv:tZ7:=qb2 TT prog qv_C qa6 f171 (za4 f171) ⟨[],[],[],[],[]⟩ [yd2,yq2] zr9 [.part 1 1] (.ifc 256 (.agg [])) n (((cA,fB,fC),dD,dE,()),aF,())
noncomputable abbrev ul1:=gb1 TT prog qv_C qa6 f171 (za4 f171) ⟨[],[],[],[],[]⟩ [.blk 242 [.part 1 1,.val (.bool),.val (.bool)],.row 5 (.int .u8)] [.part 1 1] (.ifc 256 (.agg []))
def ka5:tZ7:=ul1 n [false,true] ⟨[(0,.ptr 0 0),(1,ci aA),(16,cb dB)],[.blk 242 [.sl 1 1 fC fD,cb dE,cb dF],.row 5 (.int .u8) cG]⟩
def ky8:tZ7:=ul1 n [true] ⟨[(0,.ptr 0 0),(1,ci aA)],[.blk 242 [.sl 1 1 fB fC,cb dD,cb dE],.row 5 (.int .u8) cF]⟩
def ue0:qv n cA fB fC dD dE aF=j9 (decide (aF<0)) (ka5 n aF true fB fC dD dE cA) (ka5 n aF (decide (aF>(fC:Int))) fB fC dD dE cA):=by kernel_rfl
def kk7:ka5 (n+1) aA dB fC fD dE dF cG=j9 dB (some ((((fC,fD),dE,dF,()),cG,()),.inr ((),()))) (ky8 n aA fC fD dE dF cG):=by kernel_rfl
def kk6:ky8 (n+1) aA fB fC dD dE cF=if 0<=(0:Int)/\0<=aA/\(aA<=(fC:Int)\/((fB:Int)+aA<=(cF.length:Int)/\(fB=0\/0<fC))) then (if 0<=aA/\aA<=(fC:Int)/\((fC:Int)<=(fC:Int)\/((fB:Int)+(fC:Int)<=(cF.length:Int)/\(fB=0\/0<fC))) then (some ((((fB+aA.toNat,((fC:Int).toNat)-aA.toNat),dD,dE,()),cF,()),.inl ((fB+0,aA.toNat-0),()))) else none) else none:=by kernel_rfl
def qv_sp:PSpec TT:=⟨[yd2,yq2],zr9,[.part 1 1],.ifc 256 (.agg []),fun x=>qv BIG x.1.1.1 x.1.1.2.1 x.1.1.2.2 x.1.2.1 x.1.2.2.1 x.2.1⟩
def gy3:POk TT prog 171 qv_sp:=ye3 (C:=qv_C) (cuts:=qa6) (by kernel_rfl) wn7 func171 (show f171.body=some (za4 f171) by kernel_rfl) (by kernel_rfl) (by kernel_rfl) (by kernel_rfl) fun x y h=>⟨BIG,h⟩
def qad_C:Ctx TT:=ctZ [(171,qv_sp.toCall (qr_sp.toCall (k9 TT)))] 2 []
def gg4:zb2 TT prog qad_C.E:=za0 (zg6 gy3 (zg6 ky5 (j8 171))) v7
def jm0:List (Pos×Cut):= [(zc0 58,⟨[3,7,8,9],[],false,[],0,false⟩)]
def qad:tZ8:=qb2 TT prog qad_C jm0 f156 (za4 f156) ⟨[],[],[],[],[]⟩ [yd2] zr9 zd1 (.ifc 256 (.agg [])) n (((cA,fB,fC),dD,dE,()),())
noncomputable abbrev wt6:=gb1 TT prog qad_C jm0 f156 (za4 f156) ⟨[],[],[],[],[]⟩ [.blk 242 [.part 1 1,.val (.bool),.val (.bool)],.row 5 (.int .u8)] [.val (.int .i64)] (.ifc 256 (.agg []))
def yo9:tZ8:=wt6 n [false,true,false,true,true] ⟨[(3,yq1 aA),(7,.sl 1 1 fB fC),(8,ci aD),(9,ci aE)],[.blk 242 [.sl 1 1 fG fJ,cb dK,cb dL],.row 5 (.int .u8) cM]⟩
def wd1:qad n cA fB fC dD dE=q9 (qv BIG cA fB fC dD dE 8) fun y1=>match y1.2 with| .inl z1=>(yo9 n 0 z1.1.1 z1.1.2 (z1.1.2:Int) 0 y1.1.1.1.1 y1.1.1.1.2 y1.1.1.2.1 y1.1.1.2.2.1 y1.1.2.1)| .inr e1=>(some ((((y1.1.1.1.1,y1.1.1.1.2),y1.1.1.2.1,y1.1.1.2.2.1,()),y1.1.2.1,()),.inr ((),()))):=by kernel_rfl
def jv3:yo9 (n+1) aA fB fC aD aE fG fJ dK dL cM=j9 (decide (aE<aD)) (if 0<=aE/\aE<(fC:Int) then (if fB+aE.toNat<cM.length then (yo9 n (bOr .u64 (yg4 .u64 aA 8) (u64.wrap (cM.getD (fB+aE.toNat) 0))) fB fC aD (i64.wrap (aE+1)) fG fJ dK dL cM) else none) else none) (some ((((fG,fJ),dK,dL,()),cM,()),.inl (i64.wrap aA,()))):=by kernel_rfl
def qad_sp:PSpec TT:=⟨[yd2],zr9,zd1,.ifc 256 (.agg []),fun x=>qad BIG x.1.1.1 x.1.1.2.1 x.1.1.2.2 x.1.2.1 x.1.2.2.1⟩
def wd2:POk TT prog 156 qad_sp:=ye3 (C:=qad_C) (cuts:=jm0) (by kernel_rfl) gg4 func156 (show f156.body=some (za4 f156) by kernel_rfl) (by kernel_rfl) (by kernel_rfl) (by kernel_rfl) fun x y h=>⟨BIG,h⟩
def qci_C:Ctx TT:=ctZ [(156,qad_sp.toCall (qab_sp.toCall (k9 TT))),(171,qv_sp.toCall (qr_sp.toCall (k9 TT)))] 2 []
def gh4:zb2 TT prog qci_C.E:=za0 (zg6 wd2 (zg6 ks3 (j8 156))) (za0 (zg6 gy3 (zg6 ky5 (j8 171))) v7)
def qci:Option ((((Nat×Nat)×Bool×Bool×Unit)×List Int×Unit)×((List Int×Unit)⊕(Unit×Unit))):=qb2 TT prog qci_C [] f159 (za4 f159) ⟨[],[],[],[],[]⟩ [yd2] zr9 [yv1] (.ifc 256 (.agg [])) n (((cA,fB,fC),dD,dE,()),())
def wl1:qci n cA fB fC dD dE=q9 (qad BIG cA fB fC dD dE) fun y1=>match y1.2 with| .inl z1=>(q9 (qv BIG y1.1.2.1 y1.1.1.1.1 y1.1.1.1.2 y1.1.1.2.1 y1.1.1.2.2.1 z1.1) fun y2=>match y2.2 with| .inl z2=>(if z2.1.1+z2.1.2<=y2.1.2.1.length then (if (0+(List.take z2.1.2 (List.drop z2.1.1 y2.1.2.1)).length)*1<=140737488355328 then (some ((((y2.1.1.1.1,y2.1.1.1.2),y2.1.1.2.1,y2.1.1.2.2.1,()),y2.1.2.1,()),.inl (([]:List Int)++(List.take z2.1.2 (List.drop z2.1.1 y2.1.2.1)),()))) else none) else none)| .inr e2=>(some ((((y2.1.1.1.1,y2.1.1.1.2),y2.1.1.2.1,y2.1.1.2.2.1,()),y2.1.2.1,()),.inr ((),()))))| .inr e1=>(some ((((y1.1.1.1.1,y1.1.1.1.2),y1.1.1.2.1,y1.1.1.2.2.1,()),y1.1.2.1,()),.inr ((),()))):=by kernel_rfl
def qci_sp:PSpec TT:=⟨[yd2],zr9,[yv1],.ifc 256 (.agg []),fun x=>qci BIG x.1.1.1 x.1.1.2.1 x.1.1.2.2 x.1.2.1 x.1.2.2.1⟩
def wl2:POk TT prog 159 qci_sp:=ye3 (C:=qci_C) (cuts:= []) (by kernel_rfl) gh4 func159 (show f159.body=some (za4 f159) by kernel_rfl) (by kernel_rfl) (by kernel_rfl) (by kernel_rfl) fun x y h=>⟨BIG,h⟩
def qcw_C:Ctx TT:=ctZ [(159,qci_sp.toCall (k9 TT))] 3 []
def gh5:zb2 TT prog qcw_C.E:=za0 (zg6 wl2 (j8 159)) v7
def qcw:Option (((Unit×Unit)×((Nat×Nat)×Bool×Bool×Unit)×List Int×Unit)×((List Int×Unit)⊕(Unit×Unit))):=qb2 TT prog qcw_C [] f158 (za4 f158) ⟨[],[],[],[],[]⟩ kq7 qc9 [yv1] (.ifc 256 (.agg [])) n ((((cA,fB,fC),dD,dE,()),()),())
def wm5:qcw n cA fB fC dD dE=q9 (qci BIG cA fB fC dD dE) fun y1=>match y1.2 with| .inl z1=>(some ((((),()),((y1.1.1.1.1,y1.1.1.1.2),y1.1.1.2.1,y1.1.1.2.2.1,()),y1.1.2.1,()),.inl (z1.1,())))| .inr e1=>(some ((((),()),((y1.1.1.1.1,y1.1.1.1.2),y1.1.1.2.1,y1.1.1.2.2.1,()),y1.1.2.1,()),.inr ((),()))):=by kernel_rfl
def qcw_sp:PSpec TT:=⟨kq7,qc9,[yv1],.ifc 256 (.agg []),fun x=>qcw BIG x.1.1.1.1 x.1.1.1.2.1 x.1.1.1.2.2 x.1.1.2.1 x.1.1.2.2.1⟩
def wm6:POk TT prog 158 qcw_sp:=ye3 (C:=qcw_C) (cuts:= []) (by kernel_rfl) gh5 func158 (show f158.body=some (za4 f158) by kernel_rfl) (by kernel_rfl) (by kernel_rfl) (by kernel_rfl) fun x y h=>⟨BIG,h⟩
def qdo_C:Ctx TT:=ctZ [] 5 []
def gj0:zb2 TT prog qdo_C.E:=v7
def qdo:Option ((Unit×Unit)×List Int×(Unit×Unit)×((Nat×Nat)×Bool×Bool×Unit)×List Int×Unit):=ji9 prog qdo_C f172 (za4 f172) [.ptr 0 38 [.row 5 (.int .u8)],.ptr 0 213 [.ptr 0 242 [.slr 5 (.int .u8),.val (.bool),.val (.bool)]]] (.rw 1) [.blk 38 [.own 1],.row 5 (.int .u8),.blk 213 [.at_ 3 0],.blk 242 [.part 4 1,.val (.bool),.val (.bool)],.row 5 (.int .u8)] ((cA,()),(((cC,fD,fE),dF,dG,()),()),(),())
def wn5:qdo cA cC fD fE dF dG=some (((),()),cA,((),()),((fD,fE),dF,dG,()),cC,()):=by kernel_rfl
def vi3:DSpec TT:=⟨[.ptr 0 38 [.row 5 (.int .u8)],.ptr 0 213 [.ptr 0 242 [.slr 5 (.int .u8),.val (.bool),.val (.bool)]]],.rw 1,[.blk 38 [.own 1],.row 5 (.int .u8),.blk 213 [.at_ 3 0],.blk 242 [.part 4 1,.val (.bool),.val (.bool)],.row 5 (.int .u8)],fun x=>qdo x.1.1 x.2.1.1.1.1 x.2.1.1.1.2.1 x.2.1.1.1.2.2 x.2.1.1.2.1 x.2.1.1.2.2.1⟩
def gi9:DOk TT prog 172 vi3:=jd1 (C:=qdo_C) (by kernel_rfl) gj0 func172 (show f172.body=some (za4 f172) by kernel_rfl) (by kernel_rfl) (by kernel_rfl) (by kernel_rfl) (by kernel_rfl) fun x y h=>h
def qdj_C:Ctx TT:=ctZ [] 4 []
def gi0:zb2 TT prog qdj_C.E:=v7
def qdj:Option ((Unit×Unit)×(Unit×Unit)×((Nat×Nat)×Bool×Bool×Unit)×List Int×Unit):=ji9 prog qdj_C f172 (za4 f172) [.ptr 0 38 [.nils],.ptr 0 213 [.ptr 0 242 [.slr 5 (.int .u8),.val (.bool),.val (.bool)]]] (.ifc 256 (.agg [])) [.blk 38 [.nils],.blk 213 [.at_ 2 0],.blk 242 [.part 3 1,.val (.bool),.val (.bool)],.row 5 (.int .u8)] (((),()),(((cA,fB,fC),dD,dE,()),()),(),())
def kv1:qdj cA fB fC dD dE=some (((),()),((),()),((fB,fC),dD,true,()),cA,()):=by kernel_rfl
def vh8:DSpec TT:=⟨[.ptr 0 38 [.nils],.ptr 0 213 [.ptr 0 242 [.slr 5 (.int .u8),.val (.bool),.val (.bool)]]],.ifc 256 (.agg []),[.blk 38 [.nils],.blk 213 [.at_ 2 0],.blk 242 [.part 3 1,.val (.bool),.val (.bool)],.row 5 (.int .u8)],fun x=>qdj x.2.1.1.1.1 x.2.1.1.1.2.1 x.2.1.1.1.2.2 x.2.1.1.2.1 x.2.1.1.2.2.1⟩
def gh9:DOk TT prog 172 vh8:=jd1 (C:=qdj_C) (by kernel_rfl) gi0 func172 (show f172.body=some (za4 f172) by kernel_rfl) (by kernel_rfl) (by kernel_rfl) (by kernel_rfl) (by kernel_rfl) fun x y h=>h
def qbp_C:Ctx TT:=ctZ [(160,qbi_sp.toCall (qbh_sp.toCall (k9 TT))),(158,qcw_sp.toCall (k9 TT))] 3 []
def gh1:zb2 TT prog qbp_C.E:=za0 (q7 kt8 (q7 vd3 (j8 160))) (za0 (zg6 wm6 (j8 158)) v7)
def gt4:DefP TT:=⟨2,8,[8,1,4],5,172,[(3,0),(4,0)],vi3,vh8⟩
def qbp:Option ((((Nat×Nat)×Bool×Bool×Unit)×List Int×(Unit×Unit)×Unit)×(List Int×Unit)):=gz5 prog qbp_C [] f157 (za4 f157) ⟨[(0,5,.int .u8,true)],[],[],[],[]⟩ [.ptr 0 242 [.slr 5 (.int .u8),.val (.bool),.val (.bool)],.fn 158 [] [.ptr 0 213 [.at_ 0 0]]] [.blk 242 [.part 1 1,.val (.bool),.val (.bool)],.row 5 (.int .u8),.blk 213 [.at_ 0 0]] [.row 5 (.int .u8)] gt4 n (((cA,fB,fC),dD,dE,()),((),(((),()),())),())
def wh3:qbp n cA fB fC dD dE=q9 (qbi BIG cA fB fC dD dE) fun y1=>j9 y1.2.1 (some ((((y1.1.1.1.1,y1.1.1.1.2),y1.1.1.2.1,y1.1.1.2.2.1,()),y1.1.2.1,((),()),()),(([]:List Int),()))) (q9 (qcw BIG y1.1.2.1 y1.1.1.1.1 y1.1.1.1.2 y1.1.1.2.1 y1.1.1.2.2.1) fun y2=>match y2.2 with| .inl z2=>(q9 (qdo z2.1 y2.1.2.2.1 y2.1.2.1.1.1 y2.1.2.1.1.2 y2.1.2.1.2.1 y2.1.2.1.2.2.1) fun y3=>some ((((y3.2.2.2.1.1.1,y3.2.2.2.1.1.2),y3.2.2.2.1.2.1,y3.2.2.2.1.2.2.1,()),y3.2.2.2.2.1,((),()),()),(y3.2.1,())))| .inr e2=>(q9 (qdj y2.1.2.2.1 y2.1.2.1.1.1 y2.1.2.1.1.2 y2.1.2.1.2.1 y2.1.2.1.2.2.1) fun y4=>some ((((y4.2.2.1.1.1,y4.2.2.1.1.2),y4.2.2.1.2.1,y4.2.2.1.2.2.1,()),y4.2.2.2.1,((),()),()),(([]:List Int),())))):=by kernel_rfl
def qbp_sp:GSpec TT:=⟨[yd2,.fn 158 [] [.ptr 0 213 [.at_ 0 0]]],kp9,[yv1],fun x=>qbp BIG x.1.1.1 x.1.1.2.1 x.1.1.2.2 x.1.2.1 x.1.2.2.1⟩
def wh4:GOk TT prog 157 qbp_sp:=jz0 (C:=qbp_C) (cuts:= []) (D:=gt4) (by kernel_rfl) gh1 func157 (show f157.body=some (za4 f157) by kernel_rfl) (by kernel_rfl) (by kernel_rfl) (by kernel_rfl) gi9 gh9 fun x y h=>⟨BIG,h⟩
def wx0:Ctx TT:=ctZ [(157,qbp_sp.toCall (k9 TT))] 2 []
def gt2:=zh0 wx0 [] f127 nl0 [yd2] zr9 [yv1]
def qbn:Option ((((Nat×Nat)×Bool×Bool×Unit)×List Int×Unit)×(List Int×Unit)):=gt2 n (((cA,fB,fC),dD,dE,()),())
def wg9:qbn n cA fB fC dD dE=q9 (qbp BIG cA fB fC dD dE) fun y1=>some ((((y1.1.1.1.1,y1.1.1.1.2),y1.1.1.2.1,y1.1.1.2.2.1,()),y1.1.2.1,()),(y1.2.1,())):=by kernel_rfl
def qbn_sp:GSpec TT:=spZ gt2
def wh0:zh4 127 qbn_sp:=okZ (za0 (q7 wh4 (j8 157)) v7) func127
def wy5:Ctx TT:=ctZ [(160,qbi_sp.toCall (qbh_sp.toCall (k9 TT)))] 2 []
def gu9:=zh0 wy5 [] f129 nl0 [yd2] zr9 ym3
def qcf:um8:=gu9 n (((cA,fB,fC),dD,dE,()),())
def wk5:qcf n cA fB fC dD dE=q9 (qbi BIG cA fB fC dD dE) fun y1=>j9 (!y1.2.1) (some ((((y1.1.1.1.1,y1.1.1.1.2),y1.1.1.2.1,y1.1.1.2.2.1,()),y1.1.2.1,()),((y1.1.1.1.2:Int)==0,()))) (some ((((y1.1.1.1.1,y1.1.1.1.2),y1.1.1.2.1,y1.1.1.2.2.1,()),y1.1.2.1,()),(false,()))):=by kernel_rfl
def qcf_sp:GSpec TT:=spZ gu9
def wk6:zh4 129 qcf_sp:=okZ (za0 (q7 kt8 (q7 vd3 (j8 160))) v7) func129
def qay_C:Ctx TT:=ctZ [] 0 []
def gg7:zb2 TT prog qay_C.E:=v7
def qay:Option ((Unit)×((Unit)⊕(Int×Unit))):=qb2 TT prog qay_C [] f128 (za4 f128) ⟨[],[],[],[],[]⟩ [qv0,yq2] [] [] (.ifc 35 (.val (.int .i64))) n (dA,aB,())
def wf7:qay n dA aB=j9 dA (some ((),.inr (aB,()))) (some ((),.inl ())):=by kernel_rfl
def qay_sp:PSpec TT:=⟨[qv0,yq2],[],[],.ifc 35 (.val (.int .i64)),fun x=>qay BIG x.1 x.2.1⟩
def ks9:POk TT prog 128 qay_sp:=ye3 (C:=qay_C) (cuts:= []) (by kernel_rfl) gg7 func128 (show f128.body=some (za4 f128) by kernel_rfl) (by kernel_rfl) (by kernel_rfl) (by kernel_rfl) fun x y h=>⟨BIG,h⟩
def qau_C:Ctx TT:=ctZ [(128,qay_sp.toCall (k9 TT))] 3 []
def gg5:zb2 TT prog qau_C.E:=za0 (zg6 ks9 (j8 128)) v7
def jm1:List (Pos×Cut):= [([true],⟨[1],[],false,[],0,false⟩)]
def qau:um9:=qb2 TT prog qau_C jm1 f130 (za4 f130) ⟨[],[],[],[],[]⟩ qd4 [zq6,zq6,zq6] [] (.ifc 35 (.val (.int .i64))) n ((aA,cC,cD,cE,()),())
noncomputable abbrev wv3:=gb1 TT prog qau_C jm1 f130 (za4 f130) ⟨[],[],[],[],[]⟩ [.row 5 (.int .u8),.row 5 (.int .u8),.row 5 (.int .u8)] [] (.ifc 35 (.val (.int .i64)))
def vc6:um9:=wv3 n [true] ⟨[(1,.ptr 3 0)],[.row 5 (.int .u8) cA,.row 5 (.int .u8) cC,.row 5 (.int .u8) cD,.blk 216 [ci aE,.own 0,.own 1,.own 2]]⟩
def wf4:qau n aA cC cD cE=j9 (decide (aA<1)) (q9 (qay BIG true 2) fun y1=>match y1.2 with| .inl z1=>(vc6 n cC cD cE aA)| .inr e1=>(some ((cC,cD,cE,()),.inr (e1.1,())))) (q9 (qay BIG (decide (aA>1073741824)) 2) fun y2=>match y2.2 with| .inl z2=>(vc6 n cC cD cE aA)| .inr e2=>(some ((cC,cD,cE,()),.inr (e2.1,())))):=by kernel_rfl
def vs8:vc6 (n+1) cA cC cD aE=q9 (qay BIG (decide ((cA.length:Int)>32768)) 3) fun y1=>match y1.2 with| .inl z1=>(j9 ((cC.length:Int) != 32) (q9 (qay BIG true 4) fun y2=>match y2.2 with| .inl z2=>(some ((cA,cC,cD,()),.inl ()))| .inr e2=>(some ((cA,cC,cD,()),.inr (e2.1,())))) (q9 (qay BIG ((cD.length:Int) != 32) 4) fun y3=>match y3.2 with| .inl z3=>(some ((cA,cC,cD,()),.inl ()))| .inr e3=>(some ((cA,cC,cD,()),.inr (e3.1,())))))| .inr e1=>(some ((cA,cC,cD,()),.inr (e1.1,()))):=by kernel_rfl
def qau_sp:PSpec TT:=⟨qd4,[zq6,zq6,zq6],[],.ifc 35 (.val (.int .i64)),fun x=>qau BIG x.1.1 x.1.2.1 x.1.2.2.1 x.1.2.2.2.1⟩
def wf5:POk TT prog 130 qau_sp:=ye3 (C:=qau_C) (cuts:=jm1) (by kernel_rfl) gg5 func130 (show f130.body=some (za4 f130) by kernel_rfl) (by kernel_rfl) (by kernel_rfl) (by kernel_rfl) fun x y h=>⟨BIG,h⟩
def qbu_C:Ctx TT:=ctZ [(125,qcv_sp.toCall (k9 TT)),(126,qch_sp.toCall (k9 TT)),(127,qbn_sp.toCall (k9 TT)),(129,qcf_sp.toCall (k9 TT)),(128,qay_sp.toCall (k9 TT)),(130,qau_sp.toCall (k9 TT))] 1 []
def gh2:zb2 TT prog qbu_C.E:=za0 (q7 wm4 (j8 125)) (za0 (q7 wl0 (j8 126)) (za0 (q7 wh0 (j8 127)) (za0 (q7 wk6 (j8 129)) (za0 (zg6 ks9 (j8 128)) (za0 (zg6 wf5 (j8 130)) v7)))))
def qbu:Option (((List Int×Unit)×Unit)×(((Int×List Int×List Int×List Int×Unit)×Unit)⊕(Int×Unit))):=qb2 TT prog qbu_C [] f124 (za4 f124) ⟨[],[],[],[],[]⟩ kq5 vb8 qd4 (.ifc 35 (.val (.int .i64))) n ((cA,()),())
def wi2:qbu n cA=q9 (qcv BIG cA) fun y1=>q9 (qch BIG y1.2.1.1 y1.2.1.2.1 y1.2.1.2.2.1) fun y2=>q9 (qbn BIG y2.1.2.1 y2.1.1.1.1 y2.1.1.1.2 y2.1.1.2.1 y2.1.1.2.2.1) fun y3=>q9 (qbn BIG y3.1.2.1 y3.1.1.1.1 y3.1.1.1.2 y3.1.1.2.1 y3.1.1.2.2.1) fun y4=>q9 (qbn BIG y4.1.2.1 y4.1.1.1.1 y4.1.1.1.2 y4.1.1.2.1 y4.1.1.2.2.1) fun y5=>q9 (qcf BIG y5.1.2.1 y5.1.1.1.1 y5.1.1.1.2 y5.1.1.2.1 y5.1.1.2.2.1) fun y6=>q9 (qay BIG (!y6.2.1) 4) fun y7=>match y7.2 with| .inl z7=>(q9 (qau BIG y2.2.1 y3.2.1 y4.2.1 y5.2.1) fun y8=>match y8.2 with| .inl z8=>(some (((cA,()),()),.inl ((y2.2.1,y8.1.1,y8.1.2.1,y8.1.2.2.1,()),())))| .inr e8=>(some (((cA,()),()),.inr (e8.1,()))))| .inr e7=>(some (((cA,()),()),.inr (e7.1,()))):=by kernel_rfl
def qbu_sp:PSpec TT:=⟨kq5,vb8,qd4,.ifc 35 (.val (.int .i64)),fun x=>qbu BIG x.1.1⟩
def wi3:POk TT prog 124 qbu_sp:=ye3 (C:=qbu_C) (cuts:= []) (by kernel_rfl) gh2 func124 (show f124.body=some (za4 f124) by kernel_rfl) (by kernel_rfl) (by kernel_rfl) (by kernel_rfl) fun x y h=>⟨BIG,h⟩
def qdk_C:Ctx TT:=ctZ [] 5 []
def gi2:zb2 TT prog qdk_C.E:=v7
def qdk:Option ((Int×Unit)×(Int×Unit×Unit×Unit×Unit)×List Int×List Int×List Int×Unit):=ji9 prog qdk_C f153 (za4 f153) [.ptr 0 35 [.val (.int .i64)],.ptr 0 103 [.val (.int .i64),.row 5 (.int .u8),.row 5 (.int .u8),.row 5 (.int .u8)]] (.rw 1) [.blk 35 [.val (.int .i64)],.blk 103 [.val (.int .i64),.own 2,.own 3,.own 4],.row 5 (.int .u8),.row 5 (.int .u8),.row 5 (.int .u8)] ((aA,()),(aB,cC,cD,cE,()),(),())
def wn1:qdk aA aB cC cD cE=some ((aA,()),(aB,(),(),(),()),cC,cD,cE,()):=by kernel_rfl
def vh9:DSpec TT:=⟨[.ptr 0 35 [.val (.int .i64)],.ptr 0 103 [.val (.int .i64),.row 5 (.int .u8),.row 5 (.int .u8),.row 5 (.int .u8)]],.rw 1,[.blk 35 [.val (.int .i64)],.blk 103 [.val (.int .i64),.own 2,.own 3,.own 4],.row 5 (.int .u8),.row 5 (.int .u8),.row 5 (.int .u8)],fun x=>qdk x.1.1 x.2.1.1 x.2.1.2.1 x.2.1.2.2.1 x.2.1.2.2.2.1⟩
def gi1:DOk TT prog 153 vh9:=jd1 (C:=qdk_C) (by kernel_rfl) gi2 func153 (show f153.body=some (za4 f153) by kernel_rfl) (by kernel_rfl) (by kernel_rfl) (by kernel_rfl) (by kernel_rfl) fun x y h=>h
def qdl_C:Ctx TT:=ctZ [] 2 []
def gi4:zb2 TT prog qdl_C.E:=v7
def qdl:Option ((Int×Unit)×(Int×Unit×Unit×Unit×Unit)×Unit):=ji9 prog qdl_C f153 (za4 f153) [.ptr 0 35 [.val (.int .i64)],.ptr 0 103 [.val (.int .i64),.nils,.nils,.nils]] (.ifc 35 (.val (.int .i64))) [.blk 35 [.val (.int .i64)],.blk 103 [.val (.int .i64),.nils,.nils,.nils]] ((aA,()),(aB,(),(),(),()),aC,())
def wn2:qdl aA aB aC=some ((aC,()),(0,(),(),(),()),()):=by kernel_rfl
def vi0:DSpec TT:=⟨[.ptr 0 35 [.val (.int .i64)],.ptr 0 103 [.val (.int .i64),.nils,.nils,.nils]],.ifc 35 (.val (.int .i64)),[.blk 35 [.val (.int .i64)],.blk 103 [.val (.int .i64),.nils,.nils,.nils]],fun x=>qdl x.1.1 x.2.1.1 x.2.2.1⟩
def gi3:DOk TT prog 153 vi0:=jd1 (C:=qdl_C) (by kernel_rfl) gi4 func153 (show f153.body=some (za4 f153) by kernel_rfl) (by kernel_rfl) (by kernel_rfl) (by kernel_rfl) (by kernel_rfl) fun x y h=>h
def qbj_C:Ctx TT:=ctZ [(124,qbu_sp.toCall (k9 TT))] 1 []
def gg9:zb2 TT prog qbj_C.E:=za0 (zg6 wi3 (j8 124)) v7
def gs8:DefP TT:=⟨1,4,[4,0,2,3],3,153,[(1,0),(2,0)],vh9,vi0⟩
def qbj:Option (((List Int×Unit)×Unit)×(Bundle×Int×Unit)):=gz5 prog qbj_C [] f123 (za4 f123) ⟨[],[],[],[(0,.user 3)],[]⟩ [.fn 124 [] [.ptr 0 38 [.val (.list (.int .u8))]]] [.blk 38 [.val (.list (.int .u8))]] [.val (.user 3),.val (.int .i64)] gs8 n (((),((cA,()),())),())
def wg4:qbj n cA=q9 (qbu BIG cA) fun y1=>match y1.2 with| .inl z1=>(q9 (qdk 0 z1.1.1 z1.1.2.1 z1.1.2.2.1 z1.1.2.2.2.1) fun y2=>some (((y1.1.1.1,()),()),((⟨y2.2.1.1,y2.2.2.1,y2.2.2.2.1,y2.2.2.2.2.1⟩:Bundle),y2.1.1,())))| .inr e1=>(q9 (qdl 0 0 e1.1) fun y3=>some (((y1.1.1.1,()),()),((⟨y3.2.1.1,([]:List Int),([]:List Int),([]:List Int)⟩:Bundle),y3.1.1,()))):=by kernel_rfl
def qbj_sp:GSpec TT:=⟨[.fn 124 [] [.ptr 0 38 [.val (.list (.int .u8))]]],vb8,[.val (.user 3),yq2],fun x=>qbj BIG x.1.2.1.1⟩
def wg5:GOk TT prog 123 qbj_sp:=jz0 (C:=qbj_C) (cuts:= []) (D:=gs8) (by kernel_rfl) gg9 func123 (show f123.body=some (za4 f123) by kernel_rfl) (by kernel_rfl) (by kernel_rfl) (by kernel_rfl) gi1 gi3 fun x y h=>⟨BIG,h⟩
def wx4:Ctx TT:=ctZ [(123,qbj_sp.toCall (k9 TT))] 0 []
def gt8:=zn0 wx4 [] f91 ⟨[],[(0,.user 3)]⟩ yq9 kx1
def qbt:tZ3:=gt8 n cA
def wi0:qbt n cA=q9 (qbj BIG cA) fun y1=>j9 (y1.2.2.1 != 0) (some ((⟨(0:Int),([]:List Int),([]:List Int),([]:List Int)⟩:Bundle),4)) (some (y1.2.1,0)):=by kernel_rfl
def qbt_sp:FnSpec TT:=spY gt8
def wi1:zn7 91 qbt_sp:=okY (za0 (q7 wg5 (j8 123)) v7) func91
def ww2:Ctx TT:=ctZ [(91,qbt_sp.toCall)] 0 []
def gs3:=zn0 ww2 [] f51 ⟨[],[]⟩ [yh9,yh8] zn9
def qbd:tZ1:=gs3 n (aA,cC)
def wf9:qbd n aA cC=q9 (qbt BIG cC) fun y1=>j9 (y1.2==0) (some (y1.1.Version==aA)) (some false):=by kernel_rfl
def qbd_sp:FnSpec TT:=spY gs3
def vd2:zn7 51 qbd_sp:=okY (za0 (q8 wi1) v7) func51
def uk9:Ctx TT:=ctZ [] 0 []
def vj9:List (Pos×Cut):= [(zc0 58,⟨[0,1,12,13],[],false,[],0,false⟩)]
def ul0:=zn0 uk9 vj9 f52 ⟨[],[]⟩ jo1 zn9
def qu:tZ1:=ul0 n (cA,cC)
noncomputable abbrev up1:=yx3 uk9 vj9 f52 ⟨[],[]⟩ jo1 zn9
def jh7:tZ1:=up1 n 58 ⟨[(0,.cell ⟨.list (.int .u8),cA⟩),(1,.cell ⟨.list (.int .u8),cC⟩),(12,ci aD),(13,ci aE)],[]⟩
def ud9:qu n cA cC=j9 ((cA.length:Int) != (cC.length:Int)) (some false) (jh7 n cA cC (cA.length:Int) 0):=by kernel_rfl
def qq8:jh7 (n+1) cA cC aD aE=j9 (decide (aE<aD)) (if 0<=aE/\aE<(cA.length:Int) then (if 0<=aE/\aE<(cC.length:Int) then (j9 ((cA.getD aE.toNat 0) != (cC.getD aE.toNat 0)) (some false) (jh7 n cA cC aD (i64.wrap (aE+1)))) else none) else none) (some true):=by kernel_rfl
def qu_sp:FnSpec TT:=spY ul0
def ky7:zn7 52 qu_sp:=okY v7 func52
def wz7:Ctx TT:=ctZ [(23,qaa_sp.toCall),(51,qbd_sp.toCall),(52,qu_sp.toCall),(44,qaj_sp.toCall)] 3 [(8,1)]
def ki6:List (Pos×Cut):= [(zc0 463,⟨[0,3,29],[],false,[(3,5,5,.int .u8)],0,false⟩)]
def gw1:=zh0 wz7 ki6 f28 nl0 yt7 zj0 zd1
def qct:tZ6:=gw1 n ((aA,iB,aC,aD,aE,lF,dG,()),(aH,aI,aJ,aK,dL,(),()),())
def qct_sp:GSpec TT:=spZ gw1
def vd9:zh4 28 qct_sp:=okZ (za0 (q8 yo7) (za0 (q8 vd2) (za0 (q8 ky7) (za0 (q8 jo7) v7)))) func28
def wz6:Ctx TT:=ctZ [] 3 []
def gw0:=zh0 wz6 [] f29 nl0 yt7 zj0 zd1
def qcs:tZ6:=gw0 n ((aA,iB,aC,aD,aE,lF,dG,()),(aH,aI,aJ,aK,dL,(),()),())
def qcs_sp:GSpec TT:=spZ gw0
def vd8:zh4 29 qcs_sp:=okZ v7 func29
def wz2:Ctx TT:=ctZ [(23,qaa_sp.toCall)] 3 [(7,1)]
def ki4:List (Pos×Cut):= [(zc0 12,⟨[0,3,8],[],false,[(3,5,5,.int .u8)],0,false⟩)]
def gv6:=zh0 wz2 ki4 f30 nl0 yt7 zj0 zd1
def qco:tZ6:=gv6 n ((aA,iB,aC,aD,aE,lF,dG,()),(aH,aI,aJ,aK,dL,(),()),())
def qco_sp:GSpec TT:=spZ gv6
def vd5:zh4 30 qco_sp:=okZ (za0 (q8 yo7) v7) func30
def wu1:Ctx TT:=ctZ [] 3 []
def gp7:=zh0 wu1 [] f53 nl0 [yi0] zj0 []
def qai:Option (((Int×Unit×Int×Int×Int×Unit×Bool×Unit)×(List (Int×List Int))×(List (Int×Bool))×Unit)×(Unit)):=gp7 n ((aA,iB,aC,aD,aE,lF,dG,()),())
def vc4:qai n aA iB aC aD aE lF dG=some (((aA,(),aC,aD,0,(),false,()),iB,([]:List (Int×Bool)),()),()):=by kernel_rfl
def qai_sp:GSpec TT:=spZ gp7
def jd8:zh4 53 qai_sp:=okZ v7 func53
def wz3:Ctx TT:=ctZ [(53,qai_sp.toCall (k9 TT))] 3 [(5,1)]
def ki5:List (Pos×Cut):= [(zc0 12,⟨[0,3,5],[],false,[(3,5,5,.int .u8)],0,false⟩),(zc0 51,⟨[0,3,18],[],false,[],0,false⟩)]
def gv7:=zh0 wz3 ki5 f31 nl0 yt7 zj0 zd1
def qcp:tZ6:=gv7 n ((aA,iB,aC,aD,aE,lF,dG,()),(aH,aI,aJ,aK,dL,(),()),())
def qcp_sp:GSpec TT:=spZ gv7
def vd6:zh4 31 qcp_sp:=okZ (za0 (q7 jd8 (j8 53)) v7) func31
def wz8:Ctx TT:=ctZ [(53,qai_sp.toCall (k9 TT))] 3 []
def ki7:List (Pos×Cut):= [(zc0 12,⟨[0,3,7],[],false,[(3,5,5,.int .u8)],0,false⟩)]
def gw2:=zh0 wz8 ki7 f32 nl0 yt7 zj0 zd1
def qcu:tZ6:=gw2 n ((aA,iB,aC,aD,aE,lF,dG,()),(aH,aI,aJ,aK,dL,(),()),())
def qcu_sp:GSpec TT:=spZ gw2
def ve0:zh4 32 qcu_sp:=okZ (za0 (q7 jd8 (j8 53)) v7) func32
def ua4:Ctx TT:=ctZ [(26,qah_sp.toCall (k9 TT)),(27,qcq_sp.toCall (k9 TT)),(28,qct_sp.toCall (k9 TT)),(29,qcs_sp.toCall (k9 TT)),(30,qco_sp.toCall (k9 TT)),(31,qcp_sp.toCall (k9 TT)),(32,qcu_sp.toCall (k9 TT))] 3 []
def gw6:=zh0 ua4 [] f8 nl0 yt7 zj0 zd1
def qdb:tZ6:=gw6 n ((aA,iB,aC,aD,aE,lF,dG,()),(aH,aI,aJ,aK,dL,(),()),())
def qdb_sp:GSpec TT:=spZ gw6
def ku3:zh4 8 qdb_sp:=okZ (za0 (q7 jd7 (j8 26)) (za0 (q7 vd7 (j8 27)) (za0 (q7 vd9 (j8 28)) (za0 (q7 vd8 (j8 29)) (za0 (q7 vd5 (j8 30)) (za0 (q7 vd6 (j8 31)) (za0 (q7 ve0 (j8 32)) v7))))))) func8
def ua8:Ctx TT:=ctZ [] 3 []
def gx3:=zh0 ua8 [] f27 nl0 yt6 zj0 zd1
def qdf:tZ6:=gx3 n ((aA,iB,aC,aD,aE,lF,dG,()),mJ,())
def qdf_sp:GSpec TT:=spZ gx3
def ku7:zh4 27 qdf_sp:=okZ v7 func27
def ub0:Ctx TT:=ctZ [(23,qaa_sp.toCall),(51,qbd_sp.toCall),(52,qu_sp.toCall),(44,qaj_sp.toCall)] 3 [(8,1)]
def kj4:List (Pos×Cut):= [(zc0 463,⟨[0,3,29],[],false,[],0,false⟩)]
def gx5:=zh0 ub0 kj4 f28 nl0 yt6 zj0 zd1
def qdh:tZ6:=gx5 n ((aA,iB,aC,aD,aE,lF,dG,()),mJ,())
def qdh_sp:GSpec TT:=spZ gx5
def ku9:zh4 28 qdh_sp:=okZ (za0 (q8 yo7) (za0 (q8 vd2) (za0 (q8 ky7) (za0 (q8 jo7) v7)))) func28
def ua9:Ctx TT:=ctZ [] 3 []
def gx4:=zh0 ua9 [] f29 nl0 yt6 zj0 zd1
def qdg:tZ6:=gx4 n ((aA,iB,aC,aD,aE,lF,dG,()),mJ,())
def qdg_sp:GSpec TT:=spZ gx4
def ku8:zh4 29 qdg_sp:=okZ v7 func29
def ua6:Ctx TT:=ctZ [(23,qaa_sp.toCall)] 3 [(7,1)]
def kj2:List (Pos×Cut):= [(zc0 12,⟨[0,3,8],[],false,[],0,false⟩)]
def gw8:=zh0 ua6 kj2 f30 nl0 yt6 zj0 zd1
def qdd:tZ6:=gw8 n ((aA,iB,aC,aD,aE,lF,dG,()),mJ,())
def qdd_sp:GSpec TT:=spZ gw8
def ku5:zh4 30 qdd_sp:=okZ (za0 (q8 yo7) v7) func30
def ua7:Ctx TT:=ctZ [(53,qai_sp.toCall (k9 TT))] 3 [(5,1)]
def kj3:List (Pos×Cut):= [(zc0 12,⟨[0,3,5],[],false,[],0,false⟩),(zc0 51,⟨[0,3,18],[],false,[],0,false⟩)]
def gw9:=zh0 ua7 kj3 f31 nl0 yt6 zj0 zd1
def qde:tZ6:=gw9 n ((aA,iB,aC,aD,aE,lF,dG,()),mJ,())
def qde_sp:GSpec TT:=spZ gw9
def ku6:zh4 31 qde_sp:=okZ (za0 (q7 jd8 (j8 53)) v7) func31
def ub1:Ctx TT:=ctZ [(53,qai_sp.toCall (k9 TT))] 3 []
def kj5:List (Pos×Cut):= [(zc0 12,⟨[0,3,7],[],false,[],0,false⟩)]
def gx6:=zh0 ub1 kj5 f32 nl0 yt6 zj0 zd1
def qdi:tZ6:=gx6 n ((aA,iB,aC,aD,aE,lF,dG,()),mJ,())
def qdi_sp:GSpec TT:=spZ gx6
def kv0:zh4 32 qdi_sp:=okZ (za0 (q7 jd8 (j8 53)) v7) func32
def ua5:Ctx TT:=ctZ [(26,qah_sp.toCall (k9 TT)),(27,qdf_sp.toCall (qcq_sp.toCall (k9 TT))),(28,qdh_sp.toCall (qct_sp.toCall (k9 TT))),(29,qdg_sp.toCall (qcs_sp.toCall (k9 TT))),(30,qdd_sp.toCall (qco_sp.toCall (k9 TT))),(31,qde_sp.toCall (qcp_sp.toCall (k9 TT))),(32,qdi_sp.toCall (qcu_sp.toCall (k9 TT)))] 3 []
def gw7:=zh0 ua5 [] f8 nl0 yt6 zj0 zd1
def qdc:tZ6:=gw7 n ((aA,iB,aC,aD,aE,lF,dG,()),mJ,())
def qdc_sp:GSpec TT:=spZ gw7
def ku4:zh4 8 qdc_sp:=okZ (za0 (q7 jd7 (j8 26)) (za0 (q7 ku7 (q7 vd7 (j8 27))) (za0 (q7 ku9 (q7 vd9 (j8 28))) (za0 (q7 ku8 (q7 vd8 (j8 29))) (za0 (q7 ku5 (q7 vd5 (j8 30))) (za0 (q7 ku6 (q7 vd6 (j8 31))) (za0 (q7 kv0 (q7 ve0 (j8 32))) v7))))))) func8
def ul4:Ctx TT:=ctZ [(6,(CallSpec.forkS [.val (.int .i64)] (fun x=>zz3 x.1) (qbs_sp.toCall (k9 TT)) (qbg_sp.toCall (k9 TT)))),(21,qbk_sp.toCall),(22,qbe_sp.toCall),(12,qam_sp.toCall (k9 TT)),(15,qk_sp.toCall (k9 TT)),(8,qdc_sp.toCall (qdb_sp.toCall (k9 TT)))] 0 []
def vk1:List (Pos×Cut):= [(zc0 122,⟨[1,2,3],[],false,[],0,false⟩),(zc0 250,⟨[1,2,4],[],false,[],0,false⟩),(zc0 4004,⟨[1,2,4],[],false,[],0,false⟩),(zc0 64069,⟨[1,2,4,55],[],false,[],0,false⟩)]
def ul5:=zn0 ul4 vk1 f4 ⟨[],[]⟩ [] zn9
def qx:tZ1:=ul5 n ()
noncomputable abbrev ul6:=yx3 ul4 vk1 f4 ⟨[],[]⟩ [] zn9
def qf9:tZ1:=ul6 n 122 ⟨[(1,.ptr 0 0),(2,.own 1),(3,ci aA)],[.blk 64 [ci aB,.mp 2,ci aC,ci aD,ci aE,.mp 3,cb dF],.row 40 (.user 0) oG,.tmap .i64 (.list (.int .u8)) iJ,.tmap .i64 (.bool) lK]⟩
def gy5:tZ1:=ul6 n 250 ⟨[(1,.ptr 0 0),(2,.own 1),(4,ci aA)],[.blk 64 [ci aB,.mp 2,ci aC,ci aD,ci aE,.mp 3,cb dF],.row 40 (.user 0) oG,.tmap .i64 (.list (.int .u8)) iJ,.tmap .i64 (.bool) lK]⟩
def ue2 (n:Nat):qx n=q9 (qbg BIG 2) fun y1=>qf9 n 3 y1.2.1.1 y1.2.1.2.2.1 y1.2.1.2.2.2.1 y1.2.1.2.2.2.2.1 y1.2.1.2.2.2.2.2.2.1 ([]:List Entry) y1.2.1.2.1 y1.2.1.2.2.2.2.2.1:=by kernel_rfl
def jm4:qf9 (n+1) aA aB aC aD aE dF oG iJ lK=j9 (decide (aA<=4)) (q9 (qbk BIG aA) fun y1=>q9 (qbe BIG aA 1) fun y2=>q9 (qbe BIG aA 2) fun y3=>if (oG.length+5)*64<=140737488355328 then (qf9 n (i64.wrap (aA+1)) aB aC aD aE dF (oG++([(⟨(0:Int),2,aA,0,false,y1⟩:Entry),(⟨(0:Int),3,aA,0,false,([]:List Int)⟩:Entry),y2,y3,(⟨(0:Int),5,aA,0,false,([]:List Int)⟩:Entry)]:List Entry)) iJ lK) else none) (gy5 n 0 aB aC aD aE dF oG iJ lK):=by kernel_rfl
def qx_sp:FnSpec TT:=spY ul5
def ue3:zn7 4 qx_sp:=okY (za0 (ys6 _ _ (q7 ku2 (j8 6)) (q7 kt6 (j8 6))) (za0 (q8 wg6) (za0 (q8 wg0) (za0 (q7 ks4 (j8 12)) (za0 (q7 gy2 (j8 15)) (za0 (q7 ku4 (q7 ku3 (j8 8))) v7)))))) func4
end
end Go.X
