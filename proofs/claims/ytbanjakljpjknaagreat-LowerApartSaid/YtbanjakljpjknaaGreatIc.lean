import Derived.Test.YtbanjakljpjknaaGreatIb
set_option linter.defProp false
namespace Go.X
open Go.RowKit Go.V Go.Proofs Tryz IntKind
noncomputable section
variable (n:Nat) (o8:Work) (aA:Int) (cA:Bool) (pA:Span) (aB:Int) (pB:Span) (aC:Int) (cC:Bool) (pC:Span) (aD:Int) (cD:Bool) (pD:Span) (tD:Known) (aE:Int) (cE:Bool) (pE:Span) (tE:Known) (aG:Int) (cG:Bool) (aH:Int) (cH:Bool) (aI aJ aK aL aM aN aO aP aQ aR:Int)
def zax9:Ctx TT:=⟨za3,[],0,[],v7,za4,za2⟩
def ww9:=ze2 zax9 [] f246 ⟨[],[]⟩ [yz6,zi3] zk0
def qed:tZ1:=ww9 n (pA,aB)
def uz9:qed n pA aB=j9 (decide (pA.Lo<=aB)) (some (decide (aB<=pA.Hi))) (some false):=by kernel_rfl
def qed_sp:FnSpec TT:=spY ww9
def zaa0:ze3 246 qed_sp:=okY q8 func246
def qm_C:Ctx TT:=⟨za3,[],0,[],v7,za4,za2⟩
def qm_t:=ze2 qm_C [] f248 ⟨[],[]⟩ [jj2] yd9
def qm:ji8:=qm_t n cA
def zbf0:qm n cA=j9 cA (some (⟨(0:Int),(4294967295:Int)⟩:Span)) (some (⟨(0:Int),(18446744073709551615:Int)⟩:Span)):=by kernel_rfl
def qm_sp:FnSpec TT:=spY qm_t
def kn1:ze3 248 qm_sp:=okY q8 func248
def zay0:Ctx TT:=⟨za3,[],0,[],v7,za4,za2⟩
def wx0:=ze2 zay0 [] f247 ⟨[],[]⟩ qa0 zk0
def qee:tZ1:=wx0 n (pA,pB)
def zaa1:qee n pA pB=j9 (decide (pB.Lo<=pA.Lo)) (some (decide (pA.Hi<=pB.Hi))) (some false):=by kernel_rfl
def qee_sp:FnSpec TT:=spY wx0
def zaa2:ze3 247 qee_sp:=okY q8 func247
def zar7:Ctx TT:=⟨za3,[(246,qed_sp.toCall),(248,qm_sp.toCall),(247,qee_sp.toCall)],0,[],v7,za4,za2⟩
def wq8:=ze2 zar7 [] f218 ⟨[],[]⟩ [yz6,jj2] zk0
def qbt:tZ1:=wq8 n (pA,cC)
def up7:qbt n pA cC=j6 (qed g9 pA 0) fun y1=>j9 y1 (some true) (j9 cC (j6 (qm g9 true) fun y2=>j6 (qee g9 pA y2) fun y3=>some (!y3)) (some false)):=by kernel_rfl
def qbt_sp:FnSpec TT:=spY wq8
def up8:ze3 218 qbt_sp:=okY (v8 (q7 zaa0) (v8 (q7 kn1) (v8 (q7 zaa2) q8))) func218
def zaq1:Ctx TT:=⟨za3,[],0,[],v7,za4,za2⟩
def wp7:=zd6 zaq1 [] f249 nl0 [] [] [.mp .u8 [1,2,3,4,5,6,7,8,9,10,11,12,13] [.fn 264 [] [],.fn 265 [] [],.fn 266 [] [],.fn 267 [] [],.fn 268 [] [],.fn 269 [] [],.fn 270 [] [],.fn 271 [] [],.fn 272 [] [],.fn 273 [] [],.fn 274 [] [],.fn 275 [] [],.fn 276 [] []]]
def qba:Option ((Unit)×((((Unit)×(Unit))×((Unit)×(Unit))×((Unit)×(Unit))×((Unit)×(Unit))×((Unit)×(Unit))×((Unit)×(Unit))×((Unit)×(Unit))×((Unit)×(Unit))×((Unit)×(Unit))×((Unit)×(Unit))×((Unit)×(Unit))×((Unit)×(Unit))×((Unit)×(Unit))×Unit)×Unit)):=wp7 n ()
def zr8 (n:Nat):qba n=some ((),((((),()),((),()),((),()),((),()),((),()),((),()),((),()),((),()),((),()),((),()),((),()),((),()),((),()),()),())):=by kernel_rfl
def qba_sp:GSpec TT:=spZ wp7
def un1:zd7 249 qba_sp:=okZ q8 func249
def qg_C:Ctx TT:=⟨za3,[(248,qm_sp.toCall)],0,[],v7,za4,za2⟩
def qg_t:=ze2 qg_C [] f251 ⟨[],[]⟩ [yz6,jj2] yd9
def qg:ji8:=qg_t n (pA,cC)
def zbc7:qg n pA cC=j9 (!cC) (some pA) (j9 ((ze0 .u64 pA.Lo 32) != (ze0 .u64 pA.Hi 32)) (j6 (qm g9 true) fun y1=>some y1) (some (⟨zb4 .u64 pA.Lo 4294967295,zb4 .u64 pA.Hi (4294967295:Int)⟩:Span))):=by kernel_rfl
def qg_sp:FnSpec TT:=spY qg_t
def zbc8:ze3 251 qg_sp:=okY (v8 (q7 kn1) q8) func251
def zao8:Ctx TT:=⟨za3,[(251,qg_sp.toCall)],0,[(1,1)],v7,za4,za2⟩
def wp0:=ze2 zao8 [] f222 ⟨[],[]⟩ [jj2,yz6,yz6] [.val (.user 6)]
def qao:Option (Work):=wp0 n (cA,pB,pC)
def ul5:qao n cA pB pC=j6 (qg g9 pB cA) fun y1=>j6 (qg g9 pC cA) fun y2=>j9 cA (some (⟨y1.Lo,y1.Hi,y2.Lo,y2.Hi,cA,4294967295,(32:Int)⟩:Work)) (some (⟨y1.Lo,y1.Hi,y2.Lo,y2.Hi,cA,18446744073709551615,(64:Int)⟩:Work)):=by kernel_rfl
def qao_sp:FnSpec TT:=spY wp0
def gl2:ze3 222 qao_sp:=okY (v8 (q7 zbc8) q8) func222
def qi_C:Ctx TT:=⟨za3,[],0,[],v7,za4,za2⟩
def zaj6:zb1 TT prog qi_C.E:=q8
def qi:Option ((Unit)×((Unit)⊕(Unit×Unit))):=yc4 TT prog qi_C [] f277 (k7 f277) ⟨[],[],[],[],[]⟩ ye0 [] [] (.ifc 307 (.agg [])) n (cA,())
def zbe5:qi n cA=j9 (!cA) (some ((),.inr ((),()))) (some ((),.inl ())):=by kernel_rfl
def qi_sp:PSpec TT:=⟨ye0,[],[],.ifc 307 (.agg []),fun x=>qi g9 x.1⟩
def jb6:POk TT prog 277 qi_sp:=zg5 (C:=qi_C) (cuts:= []) (by kernel_rfl) zaj6 func277 (show f277.body=some (k7 f277) by kernel_rfl) (by kernel_rfl) (by kernel_rfl) (by kernel_rfl) fun x y h=>⟨g9,h⟩
def zaq7:Ctx TT:=⟨za3,[],0,[],v7,za4,za2⟩
def wq2:=ze2 zaq7 [] f285 ⟨[],[]⟩ [kl2,zi3,zi3] yd9
def qbg:ji8:=wq2 n (o8,aA,aB)
def uo0:qbg n o8 aA aB=some (⟨zb4 .u64 aA o8.most,zb4 .u64 aB o8.most⟩:Span):=by kernel_rfl
def qbg_sp:FnSpec TT:=spY wq2
def vp3:ze3 285 qbg_sp:=okY q8 func285
def qbk_C:Ctx TT:=⟨za3,[(277,qi_sp.toCall (v4 TT)),(285,qbg_sp.toCall)],0,[],v7,za4,za2⟩
def wd3:zb1 TT prog qbk_C.E:=v8 (za6 jb6 (j8 277)) (v8 (q7 vp3) q8)
def jw4:List (Pos×Cut):= [([true],⟨[1,2],[],false,[],0,false⟩)]
def qbk:qn5:=yc4 TT prog qbk_C jw4 f264 (k7 f264) ⟨[],[],[],[],[]⟩ yp6 [] ye1 (.ifc 307 (.agg [])) n (o8,())
noncomputable abbrev zar0:=yu6 TT prog qbk_C jw4 f264 (k7 f264) ⟨[],[],[],[],[]⟩ [] [.val (.user 0)] (.ifc 307 (.agg []))
def vp5:qn5:=zar0 n [true] ⟨[(1,.ptr 0 0),(2,.ptr 1 0)],[.blk 310 [k8 aA,k8 aB,k8 aC,k8 aD,cb cE,k8 aG,k8 aH],.blk 131 [k8 aI,k8 aJ]]⟩
def uo4:qbk n o8=j9 (decide (o8.b_Hi<=(u64.wrap (o8.most-o8.a_Hi)))) (j6 (qi g9 true) fun y1=>match y1.2 with| .inl z1=>(vp5 n o8.a_Lo o8.a_Hi o8.b_Lo o8.b_Hi o8.narrow o8.most o8.size 0 0)| .inr e1=>(some ((),.inr ((),())))) (j6 (qi g9 (decide (o8.b_Lo>(u64.wrap (o8.most-o8.a_Lo))))) fun y2=>match y2.2 with| .inl z2=>(vp5 n o8.a_Lo o8.a_Hi o8.b_Lo o8.b_Hi o8.narrow o8.most o8.size 0 0)| .inr e2=>(some ((),.inr ((),())))):=by kernel_rfl
def kg5:vp5 (n+1) aA aB aC aD cE aG aH aI aJ=j6 (qbg g9 (⟨aA,aB,aC,aD,cE,aG,aH⟩:Work) (u64.wrap (aA+aC)) (u64.wrap (aB+aD))) fun y1=>some ((),.inl (y1,())):=by kernel_rfl
def qbk_sp:PSpec TT:=⟨yp6,[],ye1,.ifc 307 (.agg []),fun x=>qbk g9 x.1⟩
def uo5:POk TT prog 264 qbk_sp:=zg5 (C:=qbk_C) (cuts:=jw4) (by kernel_rfl) wd3 func264 (show f264.body=some (k7 f264) by kernel_rfl) (by kernel_rfl) (by kernel_rfl) (by kernel_rfl) fun x y h=>⟨g9,h⟩
def qaz_C:Ctx TT:=⟨za3,[],2,[],v7,za4,za2⟩
def wc8:zb1 TT prog qaz_C.E:=q8
def qaz:tZ19:=yq9 prog qaz_C f250 (k7 f250) [.ptr 0 4 [.val (.bool)],.ptr 0 131 [.val (.int .u64),.val (.int .u64)]] (.rw 1) [.blk 4 [.val (.bool)],.blk 131 [.val (.int .u64),.val (.int .u64)]] ((cA,()),(aB,aC,()),(),())
def gl7:qaz cA aB aC=some ((cA,()),(aB,aC,()),()):=by kernel_rfl
def vv1:DSpec TT:=⟨[.ptr 0 4 [.val (.bool)],.ptr 0 131 [.val (.int .u64),.val (.int .u64)]],.rw 1,[.blk 4 [.val (.bool)],.blk 131 [.val (.int .u64),.val (.int .u64)]],fun x=>qaz x.1.1 x.2.1.1 x.2.1.2.1⟩
def wc7:DOk TT prog 250 vv1:=yf7 (C:=qaz_C) (by kernel_rfl) wc8 func250 (show f250.body=some (k7 f250) by kernel_rfl) (by kernel_rfl) (by kernel_rfl) (by kernel_rfl) (by kernel_rfl) fun x y h=>h
def qcn_C:Ctx TT:=⟨za3,[(248,qm_sp.toCall)],2,[],v7,za4,za2⟩
def we2:zb1 TT prog qcn_C.E:=v8 (q7 kn1) q8
def qcn:tZ19:=yq9 prog qcn_C f250 (k7 f250) [.ptr 0 4 [.val (.bool)],.ptr 0 131 [.val (.int .u64),.val (.int .u64)]] (.ifc 307 (.agg [])) [.blk 4 [.val (.bool)],.blk 131 [.val (.int .u64),.val (.int .u64)]] ((cA,()),(aB,aC,()),(),())
def us7:qcn cA aB aC=j6 (qm g9 cA) fun y1=>some ((cA,()),(y1.Lo,y1.Hi,()),()):=by kernel_rfl
def vv5:DSpec TT:=⟨[.ptr 0 4 [.val (.bool)],.ptr 0 131 [.val (.int .u64),.val (.int .u64)]],.ifc 307 (.agg []),[.blk 4 [.val (.bool)],.blk 131 [.val (.int .u64),.val (.int .u64)]],fun x=>qcn x.1.1 x.2.1.1 x.2.1.2.1⟩
def we1:DOk TT prog 250 vv5:=yf7 (C:=qcn_C) (by kernel_rfl) we2 func250 (show f250.body=some (k7 f250) by kernel_rfl) (by kernel_rfl) (by kernel_rfl) (by kernel_rfl) (by kernel_rfl) fun x y h=>h
def qbo_C:Ctx TT:=⟨za3,[(277,qi_sp.toCall (v4 TT)),(285,qbg_sp.toCall)],0,[],v7,za4,za2⟩
def wd7:zb1 TT prog qbo_C.E:=v8 (za6 jb6 (j8 277)) (v8 (q7 vp3) q8)
def jw8:List (Pos×Cut):= [([true],⟨[1,2],[],false,[],0,false⟩)]
def qbo:qn5:=yc4 TT prog qbo_C jw8 f265 (k7 f265) ⟨[],[],[],[],[]⟩ yp6 [] ye1 (.ifc 307 (.agg [])) n (o8,())
noncomputable abbrev zar4:=yu6 TT prog qbo_C jw8 f265 (k7 f265) ⟨[],[],[],[],[]⟩ [] [.val (.user 0)] (.ifc 307 (.agg []))
def vp9:qn5:=zar4 n [true] ⟨[(1,.ptr 0 0),(2,.ptr 1 0)],[.blk 310 [k8 aA,k8 aB,k8 aC,k8 aD,cb cE,k8 aG,k8 aH],.blk 131 [k8 aI,k8 aJ]]⟩
def up2:qbo n o8=j9 (decide (o8.a_Lo>=o8.b_Hi)) (j6 (qi g9 true) fun y1=>match y1.2 with| .inl z1=>(vp9 n o8.a_Lo o8.a_Hi o8.b_Lo o8.b_Hi o8.narrow o8.most o8.size 0 0)| .inr e1=>(some ((),.inr ((),())))) (j6 (qi g9 (decide (o8.a_Hi<o8.b_Lo))) fun y2=>match y2.2 with| .inl z2=>(vp9 n o8.a_Lo o8.a_Hi o8.b_Lo o8.b_Hi o8.narrow o8.most o8.size 0 0)| .inr e2=>(some ((),.inr ((),())))):=by kernel_rfl
def kg9:vp9 (n+1) aA aB aC aD cE aG aH aI aJ=j6 (qbg g9 (⟨aA,aB,aC,aD,cE,aG,aH⟩:Work) (u64.wrap (aA-aD)) (u64.wrap (aB-aC))) fun y1=>some ((),.inl (y1,())):=by kernel_rfl
def qbo_sp:PSpec TT:=⟨yp6,[],ye1,.ifc 307 (.agg []),fun x=>qbo g9 x.1⟩
def up3:POk TT prog 265 qbo_sp:=zg5 (C:=qbo_C) (cuts:=jw8) (by kernel_rfl) wd7 func265 (show f265.body=some (k7 f265) by kernel_rfl) (by kernel_rfl) (by kernel_rfl) (by kernel_rfl) fun x y h=>⟨g9,h⟩
def zav6:Ctx TT:=⟨za3,[],0,[],v7,za4,za2⟩
def wu6:=ze2 zav6 [] f286 ⟨[],[]⟩ [zi3,zi3] [jk5,jk5]
def qdh:vy9:=wu6 n (aA,aB)
def uv5:qdh n aA aB=some (u64.wrap ((u64.wrap ((u64.wrap ((ze0 .u64 aA 32)*(ze0 .u64 aB 32)))+(ze0 .u64 (u64.wrap ((u64.wrap ((ze0 .u64 aA 32)*(zb4 .u64 aB 4294967295)))+(ze0 .u64 (u64.wrap ((zb4 .u64 aA 4294967295)*(zb4 .u64 aB 4294967295))) 32))) 32)))+(ze0 .u64 (u64.wrap ((zb4 .u64 (u64.wrap ((u64.wrap ((ze0 .u64 aA 32)*(zb4 .u64 aB 4294967295)))+(ze0 .u64 (u64.wrap ((zb4 .u64 aA 4294967295)*(zb4 .u64 aB 4294967295))) 32))) 4294967295)+(u64.wrap ((zb4 .u64 aA 4294967295)*(ze0 .u64 aB 32))))) 32)),u64.wrap (aA*aB)):=by kernel_rfl
def qdh_sp:FnSpec TT:=spY wu6
def uv6:ze3 286 qdh_sp:=okY q8 func286
def qbl_C:Ctx TT:=⟨za3,[(286,qdh_sp.toCall),(277,qi_sp.toCall (v4 TT))],0,[],v7,za4,za2⟩
def wd4:zb1 TT prog qbl_C.E:=v8 (q7 uv6) (v8 (za6 jb6 (j8 277)) q8)
def jw5:List (Pos×Cut):= [([true,true],⟨[1,2,4],[],false,[],0,false⟩)]
def qbl:qn5:=yc4 TT prog qbl_C jw5 f266 (k7 f266) ⟨[],[],[],[],[]⟩ yp6 [] ye1 (.ifc 307 (.agg [])) n (o8,())
noncomputable abbrev zar1:=yu6 TT prog qbl_C jw5 f266 (k7 f266) ⟨[],[],[],[],[]⟩ [] [.val (.user 0)] (.ifc 307 (.agg []))
def vp6:qn5:=zar1 n [true,true] ⟨[(1,.ptr 0 0),(2,.ptr 1 0),(4,k8 aA)],[.blk 310 [k8 aB,k8 aC,k8 aD,k8 aE,cb cG,k8 aH,k8 aI],.blk 131 [k8 aJ,k8 aK]]⟩
def uo6:qbl n o8=j6 (qdh g9 o8.a_Hi o8.b_Hi) fun y1=>j9 (y1.1==0) (j6 (qi g9 (decide (y1.2<=o8.most))) fun y2=>match y2.2 with| .inl z2=>(vp6 n y1.2 o8.a_Lo o8.a_Hi o8.b_Lo o8.b_Hi o8.narrow o8.most o8.size 0 0)| .inr e2=>(some ((),.inr ((),())))) (j6 (qi g9 false) fun y3=>match y3.2 with| .inl z3=>(vp6 n y1.2 o8.a_Lo o8.a_Hi o8.b_Lo o8.b_Hi o8.narrow o8.most o8.size 0 0)| .inr e3=>(some ((),.inr ((),())))):=by kernel_rfl
def kg6:vp6 (n+1) aA aB aC aD aE cG aH aI aJ aK=some ((),.inl ((⟨u64.wrap (aB*aD),aA⟩:Span),())):=by kernel_rfl
def qbl_sp:PSpec TT:=⟨yp6,[],ye1,.ifc 307 (.agg []),fun x=>qbl g9 x.1⟩
def uo7:POk TT prog 266 qbl_sp:=zg5 (C:=qbl_C) (cuts:=jw5) (by kernel_rfl) wd4 func266 (show f266.body=some (k7 f266) by kernel_rfl) (by kernel_rfl) (by kernel_rfl) (by kernel_rfl) fun x y h=>⟨g9,h⟩
def zas7:Ctx TT:=⟨za3,[],0,[(1,1)],v7,za4,za2⟩
def wr7:=ze2 zas7 [] f267 ⟨[],[]⟩ ja7 yd9
def qcb:ji8:=wr7 n o8
def ur1:qcb n o8=if zq9 o8.b_Hi (1:Int)=0 then none else (if zq9 o8.b_Lo (1:Int)=0 then none else (some (⟨u64.wrap (o8.a_Lo.tdiv (zq9 o8.b_Hi 1)),u64.wrap (o8.a_Hi.tdiv (zq9 o8.b_Lo 1))⟩:Span))):=by kernel_rfl
def qcb_sp:FnSpec TT:=spY wr7
def ur2:ze3 267 qcb_sp:=okY q8 func267
def zas0:Ctx TT:=⟨za3,[],0,[],v7,za4,za2⟩
def wr1:=ze2 zas0 [] f268 ⟨[],[]⟩ ja7 yd9
def qbw:ji8:=wr1 n o8
def uq2:qbw n o8=j9 (decide (o8.a_Hi<(zq9 o8.b_Lo 1))) (some (⟨o8.a_Lo,o8.a_Hi⟩:Span)) (some (⟨(0:Int),yi5 o8.a_Hi (u64.wrap ((zq9 o8.b_Hi 1)-1))⟩:Span)):=by kernel_rfl
def qbw_sp:FnSpec TT:=spY wr1
def uq3:ze3 268 qbw_sp:=okY q8 func268
def qt_C:Ctx TT:=⟨za3,[(213,qas_sp.toCall)],0,[],v7,za4,za2⟩
def qt_t:=ze2 qt_C [] f288 ⟨[],[]⟩ [yz6] zk0
def qt:tZ1:=qt_t n pA
def zbf9:qt n pA=j6 (qas g9 pA.Lo) fun y1=>some ((pA.Lo==y1.Lo)&&(pA.Hi==y1.Hi)):=by kernel_rfl
def qt_sp:FnSpec TT:=spY qt_t
def vj7:ze3 288 qt_sp:=okY (v8 (q7 jl9) q8) func288
def zao0:Ctx TT:=⟨za3,[(288,qt_sp.toCall)],0,[],v7,za4,za2⟩
def wn2:=ze2 zao0 [] f278 ⟨[],[]⟩ ja7 zk0
def qab:tZ1:=wn2 n o8
def uj6:qab n o8=j6 (qt g9 (⟨o8.a_Lo,o8.a_Hi⟩:Span)) fun y1=>j9 y1 (j6 (qt g9 (⟨o8.b_Lo,o8.b_Hi⟩:Span)) fun y2=>some y2) (some false):=by kernel_rfl
def qab_sp:FnSpec TT:=spY wn2
def jl4:ze3 278 qab_sp:=okY (v8 (q7 vj7) q8) func278
def zar9:Ctx TT:=⟨za3,[(278,qab_sp.toCall),(213,qas_sp.toCall)],0,[],v7,za4,za2⟩
def wr0:=ze2 zar9 [] f269 ⟨[],[]⟩ ja7 yd9
def qbv:ji8:=wr0 n o8
def uq0:qbv n o8=j6 (qab g9 o8) fun y1=>j9 y1 (j6 (qas g9 (zb4 .u64 o8.a_Lo o8.b_Lo)) fun y2=>some y2) (some (⟨(0:Int),yi5 o8.a_Hi o8.b_Hi⟩:Span)):=by kernel_rfl
def qbv_sp:FnSpec TT:=spY wr0
def uq1:ze3 269 qbv_sp:=okY (v8 (q7 jl4) (v8 (q7 jl9) q8)) func269
def zar5:Ctx TT:=⟨za3,[(241,qr_sp.toCall)],0,[],v7,za4,za2⟩
def wq6:=ze2 zar5 [] f287 ⟨[],[]⟩ [zi3] [jk5]
def qbq:tZ0:=wq6 n aA
def up4:qbq n aA=j6 (qr g9 aA) fun y1=>if y1<0 then none else (some (u64.wrap ((qi7 .u64 1 y1)-1))):=by kernel_rfl
def qbq_sp:FnSpec TT:=spY wq6
def gm0:ze3 287 qbq_sp:=okY (v8 (q7 ud7) q8) func287
def zas1:Ctx TT:=⟨za3,[(278,qab_sp.toCall),(213,qas_sp.toCall),(287,qbq_sp.toCall)],0,[(3,1)],v7,za4,za2⟩
def wr2:=ze2 zas1 [] f270 ⟨[],[]⟩ ja7 yd9
def qbx:ji8:=wr2 n o8
def uq4:qbx n o8=j6 (qab g9 o8) fun y1=>j9 y1 (j6 (qas g9 (bOr .u64 o8.a_Lo o8.b_Lo)) fun y2=>some y2) (j6 (qbq g9 (bOr .u64 o8.a_Hi o8.b_Hi)) fun y3=>some (⟨zq9 o8.a_Lo o8.b_Lo,y3⟩:Span)):=by kernel_rfl
def qbx_sp:FnSpec TT:=spY wr2
def uq5:ze3 270 qbx_sp:=okY (v8 (q7 jl4) (v8 (q7 jl9) (v8 (q7 gm0) q8))) func270
def zas2:Ctx TT:=⟨za3,[(278,qab_sp.toCall),(213,qas_sp.toCall),(287,qbq_sp.toCall)],0,[],v7,za4,za2⟩
def wr3:=ze2 zas2 [] f271 ⟨[],[]⟩ ja7 yd9
def qby:ji8:=wr3 n o8
def uq6:qby n o8=j6 (qab g9 o8) fun y1=>j9 y1 (j6 (qas g9 (qw0 .u64 o8.a_Lo o8.b_Lo)) fun y2=>some y2) (j6 (qbq g9 (bOr .u64 o8.a_Hi o8.b_Hi)) fun y3=>some (⟨(0:Int),y3⟩:Span)):=by kernel_rfl
def qby_sp:FnSpec TT:=spY wr3
def uq7:ze3 271 qby_sp:=okY (v8 (q7 jl4) (v8 (q7 jl9) (v8 (q7 gm0) q8))) func271
def qbn_C:Ctx TT:=⟨za3,[(288,qt_sp.toCall),(277,qi_sp.toCall (v4 TT))],0,[],v7,za4,za2⟩
def wd6:zb1 TT prog qbn_C.E:=v8 (q7 vj7) (v8 (za6 jb6 (j8 277)) q8)
def jw7:List (Pos×Cut):= [([true,true],⟨[1,2,3],[],false,[],0,false⟩)]
def qbn:qn5:=yc4 TT prog qbn_C jw7 f272 (k7 f272) ⟨[],[],[],[],[]⟩ yp6 [] ye1 (.ifc 307 (.agg [])) n (o8,())
noncomputable abbrev zar3:=yu6 TT prog qbn_C jw7 f272 (k7 f272) ⟨[],[],[],[],[]⟩ [] [.val (.user 0)] (.ifc 307 (.agg []))
def vp8:qn5:=zar3 n [true,true] ⟨[(1,.ptr 0 0),(2,.ptr 1 0),(3,k8 aA)],[.blk 310 [k8 aB,k8 aC,k8 aD,k8 aE,cb cG,k8 aH,k8 aI],.blk 131 [k8 aJ,k8 aK]]⟩
def up0:qbn n o8=if o8.size=0 then none else (j6 (qt g9 (⟨o8.b_Lo,o8.b_Hi⟩:Span)) fun y1=>j9 y1 (if o8.b_Lo.tmod o8.size<0 then none else (j6 (qi g9 (decide (o8.a_Hi<=(ze0 .u64 o8.most (o8.b_Lo.tmod o8.size))))) fun y2=>match y2.2 with| .inl z2=>(vp8 n (o8.b_Lo.tmod o8.size) o8.a_Lo o8.a_Hi o8.b_Lo o8.b_Hi o8.narrow o8.most o8.size 0 0)| .inr e2=>(some ((),.inr ((),()))))) (j6 (qi g9 false) fun y3=>match y3.2 with| .inl z3=>(vp8 n (o8.b_Lo.tmod o8.size) o8.a_Lo o8.a_Hi o8.b_Lo o8.b_Hi o8.narrow o8.most o8.size 0 0)| .inr e3=>(some ((),.inr ((),()))))):=by kernel_rfl
def kg8:vp8 (n+1) aA aB aC aD aE cG aH aI aJ aK=if aA<0 then none else (if aA<0 then none else (some ((),.inl ((⟨qi7 .u64 aB aA,qi7 .u64 aC aA⟩:Span),())))):=by kernel_rfl
def qbn_sp:PSpec TT:=⟨yp6,[],ye1,.ifc 307 (.agg []),fun x=>qbn g9 x.1⟩
def up1:POk TT prog 272 qbn_sp:=zg5 (C:=qbn_C) (cuts:=jw7) (by kernel_rfl) wd6 func272 (show f272.body=some (k7 f272) by kernel_rfl) (by kernel_rfl) (by kernel_rfl) (by kernel_rfl) fun x y h=>⟨g9,h⟩
def wo6:Ctx TT:=⟨za3,[(288,qt_sp.toCall)],0,[],v7,za4,za2⟩
def qz6:List (Pos×Cut):= [([true,true],⟨[1,2,3,4],[],false,[],0,false⟩)]
def wo7:=ze2 wo6 qz6 f273 ⟨[],[]⟩ ja7 yd9
def qal:ji8:=wo7 n o8
noncomputable abbrev zao5:=jm9 wo6 qz6 f273 ⟨[],[]⟩ ja7 yd9
def jl7:ji8:=zao5 n 7 ⟨[(1,.ptr 0 0),(2,.ptr 1 0),(3,k8 aA),(4,k8 aB)],[.blk 310 [k8 aC,k8 aD,k8 aE,k8 aG,cb cH,k8 aI,k8 aJ],.blk 131 [k8 aK,k8 aL]]⟩
def ul0:qal n o8=j6 (qt g9 (⟨o8.b_Lo,o8.b_Hi⟩:Span)) fun y1=>j9 y1 (if o8.size=0 then none else (if o8.size=0 then none else (jl7 n (o8.b_Hi.tmod o8.size) (o8.b_Lo.tmod o8.size) o8.a_Lo o8.a_Hi o8.b_Lo o8.b_Hi o8.narrow o8.most o8.size 0 0))) (j9 (decide (o8.b_Hi>=o8.size)) (some (⟨(0:Int),o8.a_Hi⟩:Span)) (jl7 n o8.b_Hi o8.b_Lo o8.a_Lo o8.a_Hi o8.b_Lo o8.b_Hi o8.narrow o8.most o8.size 0 0)):=by kernel_rfl
def qh4:jl7 (n+1) aA aB aC aD aE aG cH aI aJ aK aL=if aA<0 then none else (if aB<0 then none else (some (⟨ze0 .u64 aC aA,ze0 .u64 aD aB⟩:Span))):=by kernel_rfl
def qal_sp:FnSpec TT:=spY wo7
def ul1:ze3 273 qal_sp:=okY (v8 (q7 vj7) q8) func273
def zao2:Ctx TT:=⟨za3,[],0,[],v7,za4,za2⟩
def wn6:=ze2 zao2 [] f280 ⟨[],[]⟩ [kl2,zi3] zk0
def qae:tZ1:=wn6 n (o8,aA)
def uk0:qae n o8 aA=if u64.wrap (o8.size-1)<0 then none else (some ((zb4 .u64 (ze0 .u64 aA (u64.wrap (o8.size-1))) 1)==1)):=by kernel_rfl
def qae_sp:FnSpec TT:=spY wn6
def gk8:ze3 280 qae_sp:=okY q8 func280
def zap5:Ctx TT:=⟨za3,[(280,qae_sp.toCall)],0,[],v7,za4,za2⟩
def wp4:=ze2 zap5 [] f279 ⟨[],[]⟩ [kl2,yz6] zk0
def qav:tZ1:=wp4 n (o8,pA)
def um6:qav n o8 pA=j6 (qae g9 o8 pA.Lo) fun y1=>j6 (qae g9 o8 pA.Hi) fun y2=>some (!(y1==y2)):=by kernel_rfl
def qav_sp:FnSpec TT:=spY wp4
def gl4:ze3 279 qav_sp:=okY (v8 (q7 gk8) q8) func279
def zaz1:Ctx TT:=⟨za3,[],2,[],v7,za4,za2⟩
def wy1:=zd6 zaz1 [] f292 nl0 ys8 ys5 yl4
def qeq:ji9:=wy1 n ((aA,()),(aB,()),())
def zac5:qeq n aA aB=some (((aA,()),(aB,()),()),(u32.wrap (aA+aB),())):=by kernel_rfl
def qeq_sp:GSpec TT:=spZ wy1
def zac6:zd7 292 qeq_sp:=okZ q8 func292
def zba0:Ctx TT:=⟨za3,[],2,[],v7,za4,za2⟩
def wz0:=zd6 zba0 [] f293 nl0 ys8 ys5 yl4
def qez:ji9:=wz0 n ((aA,()),(aB,()),())
def zae3:qez n aA aB=some (((aA,()),(aB,()),()),(u32.wrap (aA-aB),())):=by kernel_rfl
def qez_sp:GSpec TT:=spZ wz0
def zae4:zd7 293 qez_sp:=okZ q8 func293
def zba3:Ctx TT:=⟨za3,[],2,[],v7,za4,za2⟩
def wz2:=zd6 zba3 [] f294 nl0 ys8 ys5 yl4
def qfa:ji9:=wz2 n ((aA,()),(aB,()),())
def zae7:qfa n aA aB=some (((aA,()),(aB,()),()),(u32.wrap (aA*aB),())):=by kernel_rfl
def qfa_sp:GSpec TT:=spZ wz2
def zae8:zd7 294 qfa_sp:=okZ q8 func294
def zba4:Ctx TT:=⟨za3,[],2,[],v7,za4,za2⟩
def wz3:=zd6 zba4 [] f295 nl0 ys8 ys5 yl4
def qfb:ji9:=wz3 n ((aA,()),(aB,()),())
def zae9:qfb n aA aB=if aB=0 then none else (some (((aA,()),(aB,()),()),(u32.wrap (aA.tdiv aB),()))):=by kernel_rfl
def qfb_sp:GSpec TT:=spZ wz3
def zaf0:zd7 295 qfb_sp:=okZ q8 func295
def zba5:Ctx TT:=⟨za3,[],2,[],v7,za4,za2⟩
def wz4:=zd6 zba5 [] f296 nl0 ys8 ys5 yl4
def qfc:ji9:=wz4 n ((aA,()),(aB,()),())
def zaf1:qfc n aA aB=if aB=0 then none else (some (((aA,()),(aB,()),()),(aA.tmod aB,()))):=by kernel_rfl
def qfc_sp:GSpec TT:=spZ wz4
def zaf2:zd7 296 qfc_sp:=okZ q8 func296
def zba6:Ctx TT:=⟨za3,[],2,[],v7,za4,za2⟩
def wz5:=zd6 zba6 [] f297 nl0 ys8 ys5 yl4
def qfd:ji9:=wz5 n ((aA,()),(aB,()),())
def zaf3:qfd n aA aB=some (((aA,()),(aB,()),()),(zb4 .u32 aA aB,())):=by kernel_rfl
def qfd_sp:GSpec TT:=spZ wz5
def zaf4:zd7 297 qfd_sp:=okZ q8 func297
def zba7:Ctx TT:=⟨za3,[],2,[],v7,za4,za2⟩
def wz6:=zd6 zba7 [] f298 nl0 ys8 ys5 yl4
def qfe:ji9:=wz6 n ((aA,()),(aB,()),())
def zaf5:qfe n aA aB=some (((aA,()),(aB,()),()),(bOr .u32 aA aB,())):=by kernel_rfl
def qfe_sp:GSpec TT:=spZ wz6
def zaf6:zd7 298 qfe_sp:=okZ q8 func298
def zba8:Ctx TT:=⟨za3,[],2,[],v7,za4,za2⟩
def wz7:=zd6 zba8 [] f299 nl0 ys8 ys5 yl4
def qff:ji9:=wz7 n ((aA,()),(aB,()),())
def zaf7:qff n aA aB=some (((aA,()),(aB,()),()),(qw0 .u32 aA aB,())):=by kernel_rfl
def qff_sp:GSpec TT:=spZ wz7
def zaf8:zd7 299 qff_sp:=okZ q8 func299
def zba9:Ctx TT:=⟨za3,[],3,[],v7,za4,za2⟩
def wz8:=zd6 zba9 [] f300 nl0 vn9 vn4 yl4
def qfg:gp2:=wz8 n ((aA,()),(aB,()),(aC,()),())
def zaf9:qfg n aA aB aC=if aC=0 then none else (if aB.tmod aC<0 then none else (some (((aA,()),(aB,()),(aC,()),()),(qi7 .u32 aA (aB.tmod aC),())))):=by kernel_rfl
def qfg_sp:GSpec TT:=spZ wz8
def zag0:zd7 300 qfg_sp:=okZ q8 func300
def zay2:Ctx TT:=⟨za3,[],3,[],v7,za4,za2⟩
def wx2:=zd6 zay2 [] f301 nl0 vn9 vn4 yl4
def qeh:gp2:=wx2 n ((aA,()),(aB,()),(aC,()),())
def zaa7:qeh n aA aB aC=if aC=0 then none else (if aB.tmod aC<0 then none else (some (((aA,()),(aB,()),(aC,()),()),(ze0 .u32 aA (aB.tmod aC),())))):=by kernel_rfl
def qeh_sp:GSpec TT:=spZ wx2
def zaa8:zd7 301 qeh_sp:=okZ q8 func301
def zay3:Ctx TT:=⟨za3,[],3,[],v7,za4,za2⟩
def wx3:=zd6 zay3 [] f302 nl0 vn9 vn4 yl4
def qei:gp2:=wx3 n ((aA,()),(aB,()),(aC,()),())
def zaa9:qei n aA aB aC=if aC=0 then none else (if aB.tmod aC<0 then none else (some (((aA,()),(aB,()),(aC,()),()),(u32.wrap (ze0 .i32 (i32.wrap aA) (aB.tmod aC)),())))):=by kernel_rfl
def qei_sp:GSpec TT:=spZ wx3
def zab0:zd7 302 qei_sp:=okZ q8 func302
def zay4:Ctx TT:=⟨za3,[],1,[],v7,za4,za2⟩
def wx4:=zd6 zay4 [] f303 nl0 [yx8] [yx5] yl4
def qej:uf1:=wx4 n ((aA,()),())
def zab1:qej n aA=some (((aA,()),()),(aA,())):=by kernel_rfl
def qej_sp:GSpec TT:=spZ wx4
def zab2:zd7 303 qej_sp:=okZ q8 func303
def zay5:Ctx TT:=⟨za3,[],1,[],v7,za4,za2⟩
def wx5:=zd6 zay5 [] f304 nl0 [yx8] [yx5] yl4
def qek:uf1:=wx5 n ((aA,()),())
def zab3:qek n aA=some (((aA,()),()),(u32.wrap (0-aA),())):=by kernel_rfl
def qek_sp:GSpec TT:=spZ wx5
def zab4:zd7 304 qek_sp:=okZ q8 func304
def qc_C:Ctx TT:=⟨za3,[(292,qeq_sp.toCall (v4 TT)),(293,qez_sp.toCall (v4 TT)),(294,qfa_sp.toCall (v4 TT)),(295,qfb_sp.toCall (v4 TT)),(296,qfc_sp.toCall (v4 TT)),(297,qfd_sp.toCall (v4 TT)),(298,qfe_sp.toCall (v4 TT)),(299,qff_sp.toCall (v4 TT)),(300,qfg_sp.toCall (v4 TT)),(301,qeh_sp.toCall (v4 TT)),(302,qei_sp.toCall (v4 TT)),(303,qej_sp.toCall (v4 TT)),(304,qek_sp.toCall (v4 TT))],0,[],v7,za4,za2⟩
def vv4:List (Pos×Cut):= [(zb3 6,⟨[0,5,6,7,21],[],false,[],0,false⟩)]
def qc_t:=ze2 qc_C vv4 f290 ⟨[],[]⟩ [yz7,jk4,jk4,jk4] [.val (.int .u32),yk9]
def qc:vy9:=qc_t n (aA,aB,aC,aD)
noncomputable abbrev qc_z:=jm9 qc_C vv4 f290 ⟨[],[]⟩ [yz7,jk4,jk4,jk4] [.val (.int .u32),yk9]
def vj5:vy9:=qc_z n 6 ⟨[(0,cu8 aA),(5,.ptr 0 0),(6,.ptr 1 0),(7,.ptr 2 0),(21,cb cC)],[.blk 205 [cu32 aD],.blk 205 [cu32 aE],.blk 205 [cu32 aG]]⟩
def zas4:qc n aA aB aC aD=j9 (aA==4) (vj5 n aA (aD==0) aB aC aD) (j9 (aA==5) (vj5 n aA (aD==0) aB aC aD) (vj5 n aA false aB aC aD)):=by kernel_rfl
def kx5:vj5 (n+1) aA cC aD aE aG=j9 cC (some (0,113)) (if aA=1 then (j6 (qeq g9 aE aG) fun y1=>some (y1.2.1,0)) else (if aA=2 then (j6 (qez g9 aE aG) fun y2=>some (y2.2.1,0)) else (if aA=3 then (j6 (qfa g9 aE aG) fun y3=>some (y3.2.1,0)) else (if aA=4 then (j6 (qfb g9 aE aG) fun y4=>some (y4.2.1,0)) else (if aA=5 then (j6 (qfc g9 aE aG) fun y5=>some (y5.2.1,0)) else (if aA=6 then (j6 (qfd g9 aE aG) fun y6=>some (y6.2.1,0)) else (if aA=7 then (j6 (qfe g9 aE aG) fun y7=>some (y7.2.1,0)) else (if aA=8 then (j6 (qff g9 aE aG) fun y8=>some (y8.2.1,0)) else (if aA=9 then (j6 (qfg g9 aE aG aD) fun y9=>some (y9.2.1,0)) else (if aA=10 then (j6 (qeh g9 aE aG aD) fun y10=>some (y10.2.1,0)) else (if aA=11 then (j6 (qei g9 aE aG aD) fun y11=>some (y11.2.1,0)) else (if aA=12 then (j6 (qej g9 aG) fun y12=>some (y12.2.1,0)) else (if aA=13 then (j6 (qek g9 aE) fun y13=>some (y13.2.1,0)) else (some (0,2))))))))))))))):=by kernel_rfl
def qc_sp:FnSpec TT:=spY qc_t
def zas5:ze3 290 qc_sp:=okY (v8 (q9 zac6 (j8 292)) (v8 (q9 zae4 (j8 293)) (v8 (q9 zae8 (j8 294)) (v8 (q9 zaf0 (j8 295)) (v8 (q9 zaf2 (j8 296)) (v8 (q9 zaf4 (j8 297)) (v8 (q9 zaf6 (j8 298)) (v8 (q9 zaf8 (j8 299)) (v8 (q9 zag0 (j8 300)) (v8 (q9 zaa8 (j8 301)) (v8 (q9 zab0 (j8 302)) (v8 (q9 zab2 (j8 303)) (v8 (q9 zab4 (j8 304)) q8))))))))))))) func290
def zay6:Ctx TT:=⟨za3,[],2,[],v7,za4,za2⟩
def wx6:=zd6 zay6 [] f305 nl0 ys7 ys4 zw4
def qel:ji9:=wx6 n ((aA,()),(aB,()),())
def zab5:qel n aA aB=some (((aA,()),(aB,()),()),(u64.wrap (aA+aB),())):=by kernel_rfl
def qel_sp:GSpec TT:=spZ wx6
def zab6:zd7 305 qel_sp:=okZ q8 func305
def zay7:Ctx TT:=⟨za3,[],2,[],v7,za4,za2⟩
def wx7:=zd6 zay7 [] f306 nl0 ys7 ys4 zw4
def qem:ji9:=wx7 n ((aA,()),(aB,()),())
def zab7:qem n aA aB=some (((aA,()),(aB,()),()),(u64.wrap (aA-aB),())):=by kernel_rfl
def qem_sp:GSpec TT:=spZ wx7
def zab8:zd7 306 qem_sp:=okZ q8 func306
def zay8:Ctx TT:=⟨za3,[],2,[],v7,za4,za2⟩
def wx8:=zd6 zay8 [] f307 nl0 ys7 ys4 zw4
def qen:ji9:=wx8 n ((aA,()),(aB,()),())
def zab9:qen n aA aB=some (((aA,()),(aB,()),()),(u64.wrap (aA*aB),())):=by kernel_rfl
def qen_sp:GSpec TT:=spZ wx8
def zac0:zd7 307 qen_sp:=okZ q8 func307
def zay9:Ctx TT:=⟨za3,[],2,[],v7,za4,za2⟩
def wx9:=zd6 zay9 [] f308 nl0 ys7 ys4 zw4
def qeo:ji9:=wx9 n ((aA,()),(aB,()),())
def zac1:qeo n aA aB=if aB=0 then none else (some (((aA,()),(aB,()),()),(u64.wrap (aA.tdiv aB),()))):=by kernel_rfl
def qeo_sp:GSpec TT:=spZ wx9
def zac2:zd7 308 qeo_sp:=okZ q8 func308
def zaz0:Ctx TT:=⟨za3,[],2,[],v7,za4,za2⟩
def wy0:=zd6 zaz0 [] f309 nl0 ys7 ys4 zw4
def qep:ji9:=wy0 n ((aA,()),(aB,()),())
def zac3:qep n aA aB=if aB=0 then none else (some (((aA,()),(aB,()),()),(aA.tmod aB,()))):=by kernel_rfl
def qep_sp:GSpec TT:=spZ wy0
def zac4:zd7 309 qep_sp:=okZ q8 func309
def zaz2:Ctx TT:=⟨za3,[],2,[],v7,za4,za2⟩
def wy2:=zd6 zaz2 [] f310 nl0 ys7 ys4 zw4
def qer:ji9:=wy2 n ((aA,()),(aB,()),())
def zac7:qer n aA aB=some (((aA,()),(aB,()),()),(zb4 .u64 aA aB,())):=by kernel_rfl
def qer_sp:GSpec TT:=spZ wy2
def zac8:zd7 310 qer_sp:=okZ q8 func310
def zaz3:Ctx TT:=⟨za3,[],2,[],v7,za4,za2⟩
def wy3:=zd6 zaz3 [] f311 nl0 ys7 ys4 zw4
def qes:ji9:=wy3 n ((aA,()),(aB,()),())
def zac9:qes n aA aB=some (((aA,()),(aB,()),()),(bOr .u64 aA aB,())):=by kernel_rfl
def qes_sp:GSpec TT:=spZ wy3
def zad0:zd7 311 qes_sp:=okZ q8 func311
def zaz4:Ctx TT:=⟨za3,[],2,[],v7,za4,za2⟩
def wy4:=zd6 zaz4 [] f312 nl0 ys7 ys4 zw4
def qet:ji9:=wy4 n ((aA,()),(aB,()),())
def zad1:qet n aA aB=some (((aA,()),(aB,()),()),(qw0 .u64 aA aB,())):=by kernel_rfl
def qet_sp:GSpec TT:=spZ wy4
def zad2:zd7 312 qet_sp:=okZ q8 func312
def zaz5:Ctx TT:=⟨za3,[],3,[],v7,za4,za2⟩
def wy5:=zd6 zaz5 [] f313 nl0 vn8 vn3 zw4
def qeu:gp2:=wy5 n ((aA,()),(aB,()),(aC,()),())
def zad3:qeu n aA aB aC=if aC=0 then none else (if aB.tmod aC<0 then none else (some (((aA,()),(aB,()),(aC,()),()),(qi7 .u64 aA (aB.tmod aC),())))):=by kernel_rfl
def qeu_sp:GSpec TT:=spZ wy5
def zad4:zd7 313 qeu_sp:=okZ q8 func313
def zaz6:Ctx TT:=⟨za3,[],3,[],v7,za4,za2⟩
def wy6:=zd6 zaz6 [] f314 nl0 vn8 vn3 zw4
def qev:gp2:=wy6 n ((aA,()),(aB,()),(aC,()),())
def zad5:qev n aA aB aC=if aC=0 then none else (if aB.tmod aC<0 then none else (some (((aA,()),(aB,()),(aC,()),()),(ze0 .u64 aA (aB.tmod aC),())))):=by kernel_rfl
def qev_sp:GSpec TT:=spZ wy6
def zad6:zd7 314 qev_sp:=okZ q8 func314
def zaz7:Ctx TT:=⟨za3,[],3,[],v7,za4,za2⟩
def wy7:=zd6 zaz7 [] f315 nl0 vn8 vn3 zw4
def qew:gp2:=wy7 n ((aA,()),(aB,()),(aC,()),())
def zad7:qew n aA aB aC=if aC=0 then none else (if aB.tmod aC<0 then none else (some (((aA,()),(aB,()),(aC,()),()),(u64.wrap (ze0 .i64 (i64.wrap aA) (aB.tmod aC)),())))):=by kernel_rfl
def qew_sp:GSpec TT:=spZ wy7
def zad8:zd7 315 qew_sp:=okZ q8 func315
def zaz8:Ctx TT:=⟨za3,[],1,[],v7,za4,za2⟩
def wy8:=zd6 zaz8 [] f316 nl0 [yx7] [yx4] zw4
def qex:uf1:=wy8 n ((aA,()),())
def zad9:qex n aA=some (((aA,()),()),(aA,())):=by kernel_rfl
def qex_sp:GSpec TT:=spZ wy8
def zae0:zd7 316 qex_sp:=okZ q8 func316
def zaz9:Ctx TT:=⟨za3,[],1,[],v7,za4,za2⟩
def wy9:=zd6 zaz9 [] f317 nl0 [yx7] [yx4] zw4
def qey:uf1:=wy9 n ((aA,()),())
def zae1:qey n aA=some (((aA,()),()),(u64.wrap (0-aA),())):=by kernel_rfl
def qey_sp:GSpec TT:=spZ wy9
def zae2:zd7 317 qey_sp:=okZ q8 func317
def wp5:Ctx TT:=⟨za3,[(305,qel_sp.toCall (v4 TT)),(306,qem_sp.toCall (v4 TT)),(307,qen_sp.toCall (v4 TT)),(308,qeo_sp.toCall (v4 TT)),(309,qep_sp.toCall (v4 TT)),(310,qer_sp.toCall (v4 TT)),(311,qes_sp.toCall (v4 TT)),(312,qet_sp.toCall (v4 TT)),(313,qeu_sp.toCall (v4 TT)),(314,qev_sp.toCall (v4 TT)),(315,qew_sp.toCall (v4 TT)),(316,qex_sp.toCall (v4 TT)),(317,qey_sp.toCall (v4 TT))],0,[],v7,za4,za2⟩
def qz9:List (Pos×Cut):= [(zb3 6,⟨[0,5,6,7,21],[],false,[],0,false⟩)]
def wp6:=ze2 wp5 qz9 f291 ⟨[],[]⟩ [yz7,zi3,zi3,zi3] qa1
def qax:vy9:=wp6 n (aA,aB,aC,aD)
noncomputable abbrev zap7:=jm9 wp5 qz9 f291 ⟨[],[]⟩ [yz7,zi3,zi3,zi3] qa1
def qb0:vy9:=zap7 n 6 ⟨[(0,cu8 aA),(5,.ptr 0 0),(6,.ptr 1 0),(7,.ptr 2 0),(21,cb cC)],[.blk 37 [k8 aD],.blk 37 [k8 aE],.blk 37 [k8 aG]]⟩
def um7:qax n aA aB aC aD=j9 (aA==4) (qb0 n aA (aD==0) aB aC aD) (j9 (aA==5) (qb0 n aA (aD==0) aB aC aD) (qb0 n aA false aB aC aD)):=by kernel_rfl
def kg0:qb0 (n+1) aA cC aD aE aG=j9 cC (some (0,113)) (if aA=1 then (j6 (qel g9 aE aG) fun y1=>some (y1.2.1,0)) else (if aA=2 then (j6 (qem g9 aE aG) fun y2=>some (y2.2.1,0)) else (if aA=3 then (j6 (qen g9 aE aG) fun y3=>some (y3.2.1,0)) else (if aA=4 then (j6 (qeo g9 aE aG) fun y4=>some (y4.2.1,0)) else (if aA=5 then (j6 (qep g9 aE aG) fun y5=>some (y5.2.1,0)) else (if aA=6 then (j6 (qer g9 aE aG) fun y6=>some (y6.2.1,0)) else (if aA=7 then (j6 (qes g9 aE aG) fun y7=>some (y7.2.1,0)) else (if aA=8 then (j6 (qet g9 aE aG) fun y8=>some (y8.2.1,0)) else (if aA=9 then (j6 (qeu g9 aE aG aD) fun y9=>some (y9.2.1,0)) else (if aA=10 then (j6 (qev g9 aE aG aD) fun y10=>some (y10.2.1,0)) else (if aA=11 then (j6 (qew g9 aE aG aD) fun y11=>some (y11.2.1,0)) else (if aA=12 then (j6 (qex g9 aG) fun y12=>some (y12.2.1,0)) else (if aA=13 then (j6 (qey g9 aE) fun y13=>some (y13.2.1,0)) else (some (0,2))))))))))))))):=by kernel_rfl
def qax_sp:FnSpec TT:=spY wp6
def um8:ze3 291 qax_sp:=okY (v8 (q9 zab6 (j8 305)) (v8 (q9 zab8 (j8 306)) (v8 (q9 zac0 (j8 307)) (v8 (q9 zac2 (j8 308)) (v8 (q9 zac4 (j8 309)) (v8 (q9 zac8 (j8 310)) (v8 (q9 zad0 (j8 311)) (v8 (q9 zad2 (j8 312)) (v8 (q9 zad4 (j8 313)) (v8 (q9 zad6 (j8 314)) (v8 (q9 zad8 (j8 315)) (v8 (q9 zae0 (j8 316)) (v8 (q9 zae2 (j8 317)) q8))))))))))))) func291
def zau4:Ctx TT:=⟨za3,[(290,qc_sp.toCall),(291,qax_sp.toCall)],0,[],v7,za4,za2⟩
def wt5:=ze2 zau4 [] f289 ⟨[],[]⟩ vn6 qa1
def qcw:vy9:=wt5 n (aA,cC,aD,aE)
def ut8:qcw n aA cC aD aE=j9 cC (j6 (qc g9 aA 32 (u32.wrap aD) (u32.wrap aE)) fun y1=>some (u64.wrap y1.1,y1.2)) (j6 (qax g9 aA 64 aD aE) fun y2=>some (y2.1,y2.2)):=by kernel_rfl
def qcw_sp:FnSpec TT:=spY wt5
def ut9:ze3 289 qcw_sp:=okY (v8 (q7 zas5) (v8 (q7 um8) q8)) func289
def qbm_C:Ctx TT:=⟨za3,[(288,qt_sp.toCall),(279,qav_sp.toCall),(277,qi_sp.toCall (v4 TT)),(289,qcw_sp.toCall)],0,[],v7,za4,za2⟩
def wd5:zb1 TT prog qbm_C.E:=v8 (q7 vj7) (v8 (q7 gl4) (v8 (za6 jb6 (j8 277)) (v8 (q7 ut9) q8)))
def jw6:List (Pos×Cut):= [([true],⟨[1,2],[],false,[],0,false⟩)]
def qbm:qn5:=yc4 TT prog qbm_C jw6 f274 (k7 f274) ⟨[],[],[],[],[]⟩ yp6 [] ye1 (.ifc 307 (.agg [])) n (o8,())
noncomputable abbrev zar2:=yu6 TT prog qbm_C jw6 f274 (k7 f274) ⟨[],[],[],[],[]⟩ [] [.val (.user 0)] (.ifc 307 (.agg []))
def vp7:qn5:=zar2 n [true] ⟨[(1,.ptr 0 0),(2,.ptr 1 0)],[.blk 310 [k8 aA,k8 aB,k8 aC,k8 aD,cb cE,k8 aG,k8 aH],.blk 131 [k8 aI,k8 aJ]]⟩
def uo8:qbm n o8=j6 (qt g9 (⟨o8.b_Lo,o8.b_Hi⟩:Span)) fun y1=>j9 y1 (j6 (qav g9 o8 (⟨o8.a_Lo,o8.a_Hi⟩:Span)) fun y2=>j6 (qi g9 (!y2)) fun y3=>match y3.2 with| .inl z3=>(vp7 n o8.a_Lo o8.a_Hi o8.b_Lo o8.b_Hi o8.narrow o8.most o8.size 0 0)| .inr e3=>(some ((),.inr ((),())))) (j6 (qi g9 false) fun y4=>match y4.2 with| .inl z4=>(vp7 n o8.a_Lo o8.a_Hi o8.b_Lo o8.b_Hi o8.narrow o8.most o8.size 0 0)| .inr e4=>(some ((),.inr ((),())))):=by kernel_rfl
def kg7:vp7 (n+1) aA aB aC aD cE aG aH aI aJ=j6 (qcw g9 11 cE aA aC) fun y1=>j6 (qcw g9 11 cE aB aC) fun y2=>some ((),.inl ((⟨y1.1,y2.1⟩:Span),())):=by kernel_rfl
def qbm_sp:PSpec TT:=⟨yp6,[],ye1,.ifc 307 (.agg []),fun x=>qbm g9 x.1⟩
def uo9:POk TT prog 274 qbm_sp:=zg5 (C:=qbm_C) (cuts:=jw6) (by kernel_rfl) wd5 func274 (show f274.body=some (k7 f274) by kernel_rfl) (by kernel_rfl) (by kernel_rfl) (by kernel_rfl) fun x y h=>⟨g9,h⟩
def zas8:Ctx TT:=⟨za3,[],0,[],v7,za4,za2⟩
def wr8:=ze2 zas8 [] f275 ⟨[],[]⟩ ja7 yd9
def qcc:ji8:=wr8 n o8
def ur3:qcc n o8=some (⟨o8.b_Lo,o8.b_Hi⟩:Span):=by kernel_rfl
def qcc_sp:FnSpec TT:=spY wr8
def ur4:ze3 275 qcc_sp:=okY q8 func275
def qef_C:Ctx TT:=⟨za3,[(277,qi_sp.toCall (v4 TT)),(285,qbg_sp.toCall)],0,[],v7,za4,za2⟩
def we9:zb1 TT prog qef_C.E:=v8 (za6 jb6 (j8 277)) (v8 (q7 vp3) q8)
def qef:qn5:=yc4 TT prog qef_C [] f276 (k7 f276) ⟨[],[],[],[],[]⟩ yp6 [] ye1 (.ifc 307 (.agg [])) n (o8,())
def zaa3:qef n o8=j9 (o8.a_Hi==0) (some ((),.inl ((⟨o8.a_Lo,o8.a_Hi⟩:Span),()))) (j6 (qi g9 (decide (o8.a_Lo>0))) fun y1=>match y1.2 with| .inl z1=>(j6 (qbg g9 o8 (u64.wrap (0-o8.a_Hi)) (u64.wrap (0-o8.a_Lo))) fun y2=>some ((),.inl (y2,())))| .inr e1=>(some ((),.inr ((),())))):=by kernel_rfl
def qef_sp:PSpec TT:=⟨yp6,[],ye1,.ifc 307 (.agg []),fun x=>qef g9 x.1⟩
def zaa4:POk TT prog 276 qef_sp:=zg5 (C:=qef_C) (cuts:= []) (by kernel_rfl) we9 func276 (show f276.body=some (k7 f276) by kernel_rfl) (by kernel_rfl) (by kernel_rfl) (by kernel_rfl) fun x y h=>⟨g9,h⟩
def qq_C:Ctx TT:=⟨za3,[(249,qba_sp.toCall (v4 TT)),(220,qn_sp.toCall),(248,qm_sp.toCall),(222,qao_sp.toCall),(264,qbk_sp.toCall (v4 TT)),(265,qbo_sp.toCall (v4 TT)),(266,qbl_sp.toCall (v4 TT)),(267,qcb_sp.toCall),(268,qbw_sp.toCall),(269,qbv_sp.toCall),(270,qbx_sp.toCall),(271,qby_sp.toCall),(272,qbn_sp.toCall (v4 TT)),(273,qal_sp.toCall),(274,qbm_sp.toCall (v4 TT)),(275,qcc_sp.toCall),(276,qef_sp.toCall (v4 TT))],0,[],v7,za4,za2⟩
def zaj9:zb1 TT prog qq_C.E:=v8 (q9 un1 (j8 249)) (v8 (q7 kn2) (v8 (q7 kn1) (v8 (q7 gl2) (v8 (za6 uo5 (j8 264)) (v8 (za6 up3 (j8 265)) (v8 (za6 uo7 (j8 266)) (v8 (q7 ur2) (v8 (q7 uq3) (v8 (q7 uq1) (v8 (q7 uq5) (v8 (q7 uq7) (v8 (za6 up1 (j8 272)) (v8 (q7 ul1) (v8 (za6 uo9 (j8 274)) (v8 (q7 ur4) (v8 (za6 zaa4 (j8 276)) q8))))))))))))))))
def qq_D:DefP TT:=⟨3,31,[31,5,6,7,8,9],2,250,[(0,0),(1,0)],vv1,vv5⟩
def qq:Option ((Unit)×(Span×Unit)):=kq0 prog qq_C [] f219 (k7 f219) ⟨[],[],[],[],[]⟩ [.val (.int .u8),.val (.bool),.val (.user 0),.val (.user 0)] [] [.val (.user 0)] qq_D n (aA,cC,pD,pE,())
def yj3:qq n aA cC pD pE=j6 (qba g9) fun y1=>if aA=1 then (j6 (qn g9 pD) fun y2=>j9 (!y2) (j6 (qm g9 cC) fun y3=>some ((),(y3,()))) (j6 (qn g9 pE) fun y4=>j9 (!y4) (j6 (qm g9 cC) fun y5=>some ((),(y5,()))) (j6 (qao g9 cC pD pE) fun y6=>j6 (qbk g9 y6) fun y7=>match y7.2 with| .inl z7=>(j6 (qaz cC z7.1.Lo z7.1.Hi) fun y8=>some ((),((⟨y8.2.1.1,y8.2.1.2.1⟩:Span),())))| .inr e7=>(j6 (qcn cC 0 0) fun y9=>some ((),((⟨y9.2.1.1,y9.2.1.2.1⟩:Span),())))))) else (if aA=2 then (j6 (qn g9 pD) fun y10=>j9 (!y10) (j6 (qm g9 cC) fun y11=>some ((),(y11,()))) (j6 (qn g9 pE) fun y12=>j9 (!y12) (j6 (qm g9 cC) fun y13=>some ((),(y13,()))) (j6 (qao g9 cC pD pE) fun y14=>j6 (qbo g9 y14) fun y15=>match y15.2 with| .inl z15=>(j6 (qaz cC z15.1.Lo z15.1.Hi) fun y16=>some ((),((⟨y16.2.1.1,y16.2.1.2.1⟩:Span),())))| .inr e15=>(j6 (qcn cC 0 0) fun y17=>some ((),((⟨y17.2.1.1,y17.2.1.2.1⟩:Span),())))))) else (if aA=3 then (j6 (qn g9 pD) fun y18=>j9 (!y18) (j6 (qm g9 cC) fun y19=>some ((),(y19,()))) (j6 (qn g9 pE) fun y20=>j9 (!y20) (j6 (qm g9 cC) fun y21=>some ((),(y21,()))) (j6 (qao g9 cC pD pE) fun y22=>j6 (qbl g9 y22) fun y23=>match y23.2 with| .inl z23=>(j6 (qaz cC z23.1.Lo z23.1.Hi) fun y24=>some ((),((⟨y24.2.1.1,y24.2.1.2.1⟩:Span),())))| .inr e23=>(j6 (qcn cC 0 0) fun y25=>some ((),((⟨y25.2.1.1,y25.2.1.2.1⟩:Span),())))))) else (if aA=4 then (j6 (qn g9 pD) fun y26=>j9 (!y26) (j6 (qm g9 cC) fun y27=>some ((),(y27,()))) (j6 (qn g9 pE) fun y28=>j9 (!y28) (j6 (qm g9 cC) fun y29=>some ((),(y29,()))) (j6 (qao g9 cC pD pE) fun y30=>j6 (qcb g9 y30) fun y31=>j6 (qaz cC y31.Lo y31.Hi) fun y32=>some ((),((⟨y32.2.1.1,y32.2.1.2.1⟩:Span),()))))) else (if aA=5 then (j6 (qn g9 pD) fun y33=>j9 (!y33) (j6 (qm g9 cC) fun y34=>some ((),(y34,()))) (j6 (qn g9 pE) fun y35=>j9 (!y35) (j6 (qm g9 cC) fun y36=>some ((),(y36,()))) (j6 (qao g9 cC pD pE) fun y37=>j6 (qbw g9 y37) fun y38=>j6 (qaz cC y38.Lo y38.Hi) fun y39=>some ((),((⟨y39.2.1.1,y39.2.1.2.1⟩:Span),()))))) else (if aA=6 then (j6 (qn g9 pD) fun y40=>j9 (!y40) (j6 (qm g9 cC) fun y41=>some ((),(y41,()))) (j6 (qn g9 pE) fun y42=>j9 (!y42) (j6 (qm g9 cC) fun y43=>some ((),(y43,()))) (j6 (qao g9 cC pD pE) fun y44=>j6 (qbv g9 y44) fun y45=>j6 (qaz cC y45.Lo y45.Hi) fun y46=>some ((),((⟨y46.2.1.1,y46.2.1.2.1⟩:Span),()))))) else (if aA=7 then (j6 (qn g9 pD) fun y47=>j9 (!y47) (j6 (qm g9 cC) fun y48=>some ((),(y48,()))) (j6 (qn g9 pE) fun y49=>j9 (!y49) (j6 (qm g9 cC) fun y50=>some ((),(y50,()))) (j6 (qao g9 cC pD pE) fun y51=>j6 (qbx g9 y51) fun y52=>j6 (qaz cC y52.Lo y52.Hi) fun y53=>some ((),((⟨y53.2.1.1,y53.2.1.2.1⟩:Span),()))))) else (if aA=8 then (j6 (qn g9 pD) fun y54=>j9 (!y54) (j6 (qm g9 cC) fun y55=>some ((),(y55,()))) (j6 (qn g9 pE) fun y56=>j9 (!y56) (j6 (qm g9 cC) fun y57=>some ((),(y57,()))) (j6 (qao g9 cC pD pE) fun y58=>j6 (qby g9 y58) fun y59=>j6 (qaz cC y59.Lo y59.Hi) fun y60=>some ((),((⟨y60.2.1.1,y60.2.1.2.1⟩:Span),()))))) else (if aA=9 then (j6 (qn g9 pD) fun y61=>j9 (!y61) (j6 (qm g9 cC) fun y62=>some ((),(y62,()))) (j6 (qn g9 pE) fun y63=>j9 (!y63) (j6 (qm g9 cC) fun y64=>some ((),(y64,()))) (j6 (qao g9 cC pD pE) fun y65=>j6 (qbn g9 y65) fun y66=>match y66.2 with| .inl z66=>(j6 (qaz cC z66.1.Lo z66.1.Hi) fun y67=>some ((),((⟨y67.2.1.1,y67.2.1.2.1⟩:Span),())))| .inr e66=>(j6 (qcn cC 0 0) fun y68=>some ((),((⟨y68.2.1.1,y68.2.1.2.1⟩:Span),())))))) else (if aA=10 then (j6 (qn g9 pD) fun y69=>j9 (!y69) (j6 (qm g9 cC) fun y70=>some ((),(y70,()))) (j6 (qn g9 pE) fun y71=>j9 (!y71) (j6 (qm g9 cC) fun y72=>some ((),(y72,()))) (j6 (qao g9 cC pD pE) fun y73=>j6 (qal g9 y73) fun y74=>j6 (qaz cC y74.Lo y74.Hi) fun y75=>some ((),((⟨y75.2.1.1,y75.2.1.2.1⟩:Span),()))))) else (if aA=11 then (j6 (qn g9 pD) fun y76=>j9 (!y76) (j6 (qm g9 cC) fun y77=>some ((),(y77,()))) (j6 (qn g9 pE) fun y78=>j9 (!y78) (j6 (qm g9 cC) fun y79=>some ((),(y79,()))) (j6 (qao g9 cC pD pE) fun y80=>j6 (qbm g9 y80) fun y81=>match y81.2 with| .inl z81=>(j6 (qaz cC z81.1.Lo z81.1.Hi) fun y82=>some ((),((⟨y82.2.1.1,y82.2.1.2.1⟩:Span),())))| .inr e81=>(j6 (qcn cC 0 0) fun y83=>some ((),((⟨y83.2.1.1,y83.2.1.2.1⟩:Span),())))))) else (if aA=12 then (j6 (qn g9 pD) fun y84=>j9 (!y84) (j6 (qm g9 cC) fun y85=>some ((),(y85,()))) (j6 (qn g9 pE) fun y86=>j9 (!y86) (j6 (qm g9 cC) fun y87=>some ((),(y87,()))) (j6 (qao g9 cC pD pE) fun y88=>j6 (qcc g9 y88) fun y89=>j6 (qaz cC y89.Lo y89.Hi) fun y90=>some ((),((⟨y90.2.1.1,y90.2.1.2.1⟩:Span),()))))) else (if aA=13 then (j6 (qn g9 pD) fun y91=>j9 (!y91) (j6 (qm g9 cC) fun y92=>some ((),(y92,()))) (j6 (qn g9 pE) fun y93=>j9 (!y93) (j6 (qm g9 cC) fun y94=>some ((),(y94,()))) (j6 (qao g9 cC pD pE) fun y95=>j6 (qef g9 y95) fun y96=>match y96.2 with| .inl z96=>(j6 (qaz cC z96.1.Lo z96.1.Hi) fun y97=>some ((),((⟨y97.2.1.1,y97.2.1.2.1⟩:Span),())))| .inr e96=>(j6 (qcn cC 0 0) fun y98=>some ((),((⟨y98.2.1.1,y98.2.1.2.1⟩:Span),())))))) else (j6 (qm g9 cC) fun y99=>some ((),(y99,()))))))))))))))):=by kernel_rfl
def qq_sp:GSpec TT:=⟨[yu7,yo7,yz8,yz8],[],ye1,fun x=>qq g9 x.1 x.2.1 x.2.2.1 x.2.2.2.1⟩
def zbf6:GOk TT prog 219 qq_sp:=ys2 (C:=qq_C) (cuts:= []) (D:=qq_D) (by kernel_rfl) zaj9 func219 (show f219.body=some (k7 f219) by kernel_rfl) (by kernel_rfl) (by kernel_rfl) (by kernel_rfl) wc7 we1 fun x y h=>⟨g9,h⟩
def qb_C:Ctx TT:=⟨za3,[(216,qy_sp.toCall),(217,qaj_sp.toCall),(218,qbt_sp.toCall),(219,qq_sp.toCall (v4 TT))],0,[(20,1)],v7,za4,za2⟩
def vv2:List (Pos×Cut):= [([true],⟨[0,1,6,7,8],[],false,[],0,false⟩),(zb3 12,⟨[0,1,6,7,8,15],[],false,[],0,false⟩),(zb3 51,⟨[0,1,6,7,8,33],[],false,[],0,false⟩),(zb3 207,⟨[0,1,6,7,8,51],[],false,[],0,false⟩),(zb3 31,⟨[0,1,6,8,10,11,12,13,14],[],false,[],0,false⟩),(zb3 252,⟨[0,1,6,8,10,11,12,13,14,90],[],false,[],0,false⟩),(zb3 1011,⟨[0,1,6,8,10,12,14,109],[],false,[],0,false⟩),(zb3 4047,⟨[0,6,8,12,120],[],false,[],0,false⟩),(zb3 8094,⟨[0,6,8,12,14,120],[],false,[],0,false⟩)]
def qb_t:=ze2 qb_C vv2 f182 ⟨[],[]⟩ [yz7,jj2,yo6,yo6] [.val (.user 1),yk9]
def qb:vd5:=qb_t n (aA,cC,tD,tE)
noncomputable abbrev vj4:=jm9 qb_C vv2 f182 ⟨[],[]⟩ [yz7,jj2,yo6,yo6] [.val (.user 1),yk9]
def vj2:vd5:=vj4 n 12 ⟨[(0,cu8 aA),(1,cb cC),(6,.ptr 0 0),(7,.ptr 1 0),(8,.ptr 2 0),(15,cb cD)],[.blk 133 [cu8 aE,k8 aG,k8 aH],.blk 133 [cu8 aI,k8 aJ,k8 aK],.blk 133 [cu8 aL,k8 aM,k8 aN]]⟩
def qr3:vd5:=vj4 n 51 ⟨[(0,cu8 aA),(1,cb cC),(6,.ptr 0 0),(7,.ptr 1 0),(8,.ptr 2 0),(33,cb cD)],[.blk 133 [cu8 aE,k8 aG,k8 aH],.blk 133 [cu8 aI,k8 aJ,k8 aK],.blk 133 [cu8 aL,k8 aM,k8 aN]]⟩
def gs5:vd5:=vj4 n 207 ⟨[(0,cu8 aA),(1,cb cC),(6,.ptr 0 0),(7,.ptr 1 0),(8,.ptr 2 0),(51,cb cD)],[.blk 133 [cu8 aE,k8 aG,k8 aH],.blk 133 [cu8 aI,k8 aJ,k8 aK],.blk 133 [cu8 aL,k8 aM,k8 aN]]⟩
def vj1:vd5:=vj4 n 3 ⟨[(0,cu8 aA),(1,cb cC),(6,.ptr 0 0),(7,.ptr 1 0),(8,.ptr 2 0)],[.blk 133 [cu8 aD,k8 aE,k8 aG],.blk 133 [cu8 aH,k8 aI,k8 aJ],.blk 133 [cu8 aK,k8 aL,k8 aM]]⟩
def qr4:vd5:=vj4 n 31 ⟨[(0,cu8 aA),(1,cb cC),(6,.ptr 0 0),(8,.ptr 1 0),(10,.ptr 2 0),(11,cb cD),(12,.ptr 3 0),(13,cb cE),(14,cb cG)],[.blk 133 [cu8 aH,k8 aI,k8 aJ],.blk 133 [cu8 aK,k8 aL,k8 aM],.blk 131 [k8 aN,k8 aO],.blk 131 [k8 aP,k8 aQ]]⟩
def qr5:vd5:=vj4 n 252 ⟨[(0,cu8 aA),(1,cb cC),(6,.ptr 0 0),(8,.ptr 1 0),(10,.ptr 2 0),(11,cb cD),(12,.ptr 3 0),(13,cb cE),(14,cb cG),(90,cb cH)],[.blk 133 [cu8 aI,k8 aJ,k8 aK],.blk 133 [cu8 aL,k8 aM,k8 aN],.blk 131 [k8 aO,k8 aP],.blk 131 [k8 aQ,k8 aR]]⟩
def gs6:vd5:=vj4 n 1011 ⟨[(0,cu8 aA),(1,cb cC),(6,.ptr 0 0),(8,.ptr 1 0),(10,.ptr 2 0),(12,.ptr 3 0),(14,cb cD),(109,cb cE)],[.blk 133 [cu8 aG,k8 aH,k8 aI],.blk 133 [cu8 aJ,k8 aK,k8 aL],.blk 131 [k8 aM,k8 aN],.blk 131 [k8 aO,k8 aP]]⟩
def gs7:vd5:=vj4 n 8094 ⟨[(0,cu8 aA),(6,.ptr 0 0),(8,.ptr 1 0),(12,.ptr 2 0),(14,cb cC),(120,cb cD)],[.blk 133 [cu8 aE,k8 aG,k8 aH],.blk 133 [cu8 aI,k8 aJ,k8 aK],.blk 131 [k8 aL,k8 aM]]⟩
def vj3:vd5:=vj4 n 4047 ⟨[(0,cu8 aA),(6,.ptr 0 0),(8,.ptr 1 0),(12,.ptr 2 0),(120,cb cC)],[.blk 133 [cu8 aD,k8 aE,k8 aG],.blk 133 [cu8 aH,k8 aI,k8 aJ],.blk 131 [k8 aK,k8 aL]]⟩
def zap9:qb n aA cC tD tE=j9 (decide (aA<1)) (vj2 n aA cC true tD.Kind tD.In_Lo tD.In_Hi tE.Kind tE.In_Lo tE.In_Hi 0 0 0) (j9 (decide (aA>13)) (vj2 n aA cC true tD.Kind tD.In_Lo tD.In_Hi tE.Kind tE.In_Lo tE.In_Hi 0 0 0) (j6 (qy g9 tD) fun y1=>j9 (!y1) (vj2 n aA cC true tD.Kind tD.In_Lo tD.In_Hi tE.Kind tE.In_Lo tE.In_Hi 0 0 0) (j6 (qy g9 tE) fun y2=>vj2 n aA cC (!y2) tD.Kind tD.In_Lo tD.In_Hi tE.Kind tE.In_Lo tE.In_Hi 0 0 0))):=by kernel_rfl
def kw7:vj2 (n+1) aA cC cD aE aG aH aI aJ aK aL aM aN=j9 cD (some ((⟨(0:Int),0,(0:Int)⟩:Known),2)) (j9 (aA != 12) (j9 (aE==0) (qr3 n aA cC true aE aG aH aI aJ aK aL aM aN) (j9 (aA != 13) (qr3 n aA cC (aI==0) aE aG aH aI aJ aK aL aM aN) (qr3 n aA cC false aE aG aH aI aJ aK aL aM aN))) (j9 (aA != 13) (qr3 n aA cC (aI==0) aE aG aH aI aJ aK aL aM aN) (qr3 n aA cC false aE aG aH aI aJ aK aL aM aN))):=by kernel_rfl
def kw8:qr3 (n+1) aA cC cD aE aG aH aI aJ aK aL aM aN=j9 cD (some ((⟨(0:Int),0,(0:Int)⟩:Known),110)) (j9 (aA==12) (gs5 n aA cC (!cC) aE aG aH aI aJ aK aL aM aN) (gs5 n aA cC false aE aG aH aI aJ aK aL aM aN)):=by kernel_rfl
def kw9:gs5 (n+1) aA cC cD aE aG aH aI aJ aK aL aM aN=j9 cD (some ((⟨aI,aJ,aK⟩:Known),0)) (j9 (aA==12) (vj1 n aA cC aI aJ aK aI aJ aK aL aM aN) (j9 (aA==13) (vj1 n aA cC aE aG aH aE aG aH aL aM aN) (vj1 n aA cC aE aG aH aI aJ aK aL aM aN))):=by kernel_rfl
def kw6:vj1 (n+1) aA cC aD aE aG aH aI aJ aK aL aM=j6 (qaj g9 (⟨aD,aE,aG⟩:Known)) fun y1=>j6 (qaj g9 (⟨aH,aI,aJ⟩:Known)) fun y2=>j9 (aA==1) (j9 (!cC) (qr4 n aA cC y1.2 y2.2 y2.2 aD aE aG aK aL aM y1.1.Lo y1.1.Hi y2.1.Lo y2.1.Hi) (qr4 n aA cC y1.2 y2.2 false aD aE aG aK aL aM y1.1.Lo y1.1.Hi y2.1.Lo y2.1.Hi)) (j9 (aA==2) (j9 (!cC) (qr4 n aA cC y1.2 y2.2 y2.2 aD aE aG aK aL aM y1.1.Lo y1.1.Hi y2.1.Lo y2.1.Hi) (qr4 n aA cC y1.2 y2.2 false aD aE aG aK aL aM y1.1.Lo y1.1.Hi y2.1.Lo y2.1.Hi)) (qr4 n aA cC y1.2 y2.2 false aD aE aG aK aL aM y1.1.Lo y1.1.Hi y2.1.Lo y2.1.Hi)):=by kernel_rfl
def kx0:qr4 (n+1) aA cC cD cE cG aH aI aJ aK aL aM aN aO aP aQ=j9 cD (j9 cE (j9 (aA==4) (j6 (qbt g9 (⟨aP,aQ⟩:Span) cC) fun y1=>qr5 n aA cC cD cE cG y1 aH aI aJ aK aL aM aN aO aP aQ) (j9 (aA==5) (j6 (qbt g9 (⟨aP,aQ⟩:Span) cC) fun y2=>qr5 n aA cC cD cE cG y2 aH aI aJ aK aL aM aN aO aP aQ) (qr5 n aA cC cD cE cG false aH aI aJ aK aL aM aN aO aP aQ))) (qr5 n aA cC cD cE cG false aH aI aJ aK aL aM aN aO aP aQ)) (qr5 n aA cC cD cE cG false aH aI aJ aK aL aM aN aO aP aQ):=by kernel_rfl
def kx1:qr5 (n+1) aA cC cD cE cG cH aI aJ aK aL aM aN aO aP aQ aR=j9 cH (some ((⟨(0:Int),0,(0:Int)⟩:Known),113)) (j9 cD (gs6 n aA cC cG cE aI aJ aK aL aM aN aO aP aQ aR) (gs6 n aA cC cG false aI aJ aK aL aM aN aO aP aQ aR)):=by kernel_rfl
def kx2:gs6 (n+1) aA cC cD cE aG aH aI aJ aK aL aM aN aO aP=j9 cE (j6 (qq g9 aA cC (⟨aM,aN⟩:Span) (⟨aO,aP⟩:Span)) fun y1=>some ((⟨(1:Int),y1.2.1.Lo,y1.2.1.Hi⟩:Known),0)) (j9 cD (gs7 n aA cD (aG==2) aG aH aI aJ aK aL aO aP) (gs7 n aA cD false aG aH aI aJ aK aL aO aP)):=by kernel_rfl
def kx4:gs7 (n+1) aA cC cD aE aG aH aI aJ aK aL aM=j9 cD (vj3 n aA cD aE aG aH aI aJ aK aL aM) (j9 cC (j9 (aE==3) (vj3 n aA (aL==aM) aE aG aH aI aJ aK aL aM) (vj3 n aA false aE aG aH aI aJ aK aL aM)) (vj3 n aA false aE aG aH aI aJ aK aL aM)):=by kernel_rfl
def kx3:vj3 (n+1) aA cC aD aE aG aH aI aJ aK aL=j9 cC (j6 (qq g9 aA false (⟨aE,aG⟩:Span) (⟨aK,aL⟩:Span)) fun y1=>some ((⟨aD,y1.2.1.Lo,y1.2.1.Hi⟩:Known),0)) (some ((⟨(0:Int),0,(0:Int)⟩:Known),114)):=by kernel_rfl
def qb_sp:FnSpec TT:=spY qb_t
def zaq0:ze3 182 qb_sp:=okY (v8 (q7 ue1) (v8 (q7 gl0) (v8 (q7 up8) (v8 (q9 zbf6 (j8 219)) q8)))) func182
end
end Go.X
