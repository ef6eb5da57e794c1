import Derived.Test.YtcepemagnfpmdaaGreatVa
set_option linter.defProp false
namespace Go.X
open Go.RowKit Go.V Go.Proofs Tryz
noncomputable def qdy_C:Ctx TT:=⟨k9,[],4,[],q7,k7,k8⟩
def ks8:j9 TT prog qdy_C.E:=j6
def ql2:List (Pos×Cut):= []
noncomputable def qdy (n:Nat) (x0:List Ins) (x1:List Place) (x2:Int) (x3:List Flat) (x4:List Int) (x5:Int):Option (((List Ins×Unit×Int×Unit×Unit×Unit)×List Place×List Flat×List Int×Unit)×(Bool×Unit)):=za7 TT prog qdy_C ql2 f49 (z9 f49) ⟨[],[],[],[],[]⟩ [.ptr 0 112 [.val (.list (.user 2)),.row 102 (.user 4),.val (.int .i64),.row 117 (.user 5),.row 3 (.int .i64)],.val (.int .i64)] [.blk 112 [.val (.list (.user 2)),.own 1,.val (.int .i64),.own 2,.own 3],.row 102 (.user 4),.row 117 (.user 5),.row 3 (.int .i64)] [.val (.bool)] n ((x0,x1,x2,x3,x4,()),x5,())
noncomputable def qdy_sp:GSpec TT:=⟨[.ptr 0 112 [.val (.list (.user 2)),.row 102 (.user 4),.val (.int .i64),.row 117 (.user 5),.row 3 (.int .i64)],.val (.int .i64)],[.blk 112 [.val (.list (.user 2)),.own 1,.val (.int .i64),.own 2,.own 3],.row 102 (.user 4),.row 117 (.user 5),.row 3 (.int .i64)],[.val (.bool)],fun x=>qdy w7 x.1.1 x.1.2.1 x.1.2.2.1 x.1.2.2.2.1 x.1.2.2.2.2.1 x.2.1⟩
def go1:GOk TT prog 49 qdy_sp:=q8 (C:=qdy_C) (cuts:=ql2) (by kernel_rfl) ks8 func49 (show f49.body=some (z9 f49) by kernel_rfl) (by kernel_rfl) (by kernel_rfl) (by kernel_rfl) fun x y h=>⟨w7,h⟩
noncomputable def qbv_C:Ctx TT:=⟨k9,[],5,[],q7,k7,k8⟩
def kn2:j9 TT prog qbv_C.E:=j6
def qf8:List (Pos×Cut):= []
noncomputable def qbv (n:Nat) (x0:List Ins) (x1:List Place) (x2:Int) (x3:List Flat) (x4:List Int) (x5:List Flat):Option (((List Ins×Unit×Int×List Flat×Unit×Unit)×List Place×Unit×List Int×List Flat×Unit)×(Unit)):=za7 TT prog qbv_C qf8 f85 (z9 f85) ⟨[],[],[],[],[]⟩ [.ptr 0 112 [.val (.list (.user 2)),.row 102 (.user 4),.val (.int .i64),.row 117 (.user 5),.row 3 (.int .i64)],.row 117 (.user 5)] [.blk 112 [.val (.list (.user 2)),.own 1,.val (.int .i64),.row 117 (.user 5),.own 3],.row 102 (.user 4),.gone,.row 3 (.int .i64),.row 117 (.user 5)] [] n ((x0,x1,x2,x3,x4,()),x5,())
noncomputable def qbv_sp:GSpec TT:=⟨[.ptr 0 112 [.val (.list (.user 2)),.row 102 (.user 4),.val (.int .i64),.row 117 (.user 5),.row 3 (.int .i64)],.row 117 (.user 5)],[.blk 112 [.val (.list (.user 2)),.own 1,.val (.int .i64),.row 117 (.user 5),.own 3],.row 102 (.user 4),.gone,.row 3 (.int .i64),.row 117 (.user 5)],[],fun x=>qbv w7 x.1.1 x.1.2.1 x.1.2.2.1 x.1.2.2.2.1 x.1.2.2.2.2.1 x.2.1⟩
def va1:GOk TT prog 85 qbv_sp:=q8 (C:=qbv_C) (cuts:=qf8) (by kernel_rfl) kn2 func85 (show f85.body=some (z9 f85) by kernel_rfl) (by kernel_rfl) (by kernel_rfl) (by kernel_rfl) fun x y h=>⟨w7,h⟩
noncomputable def qdz_C:Ctx TT:=⟨k9,[(85,qbv_sp.toCall (z8 TT))],5,[],q7,k7,k8⟩
def ks9:j9 TT prog qdz_C.E:=j8 (z4 va1 (z5 85)) (j6)
def ql3:List (Pos×Cut):= []
noncomputable def qdz (n:Nat) (x0:List Ins) (x1:List Place) (x2:Int) (x3:List Flat) (x4:List Int):Option (((Unit×Unit)×(List Ins×Unit×Int×List Flat×Unit×Unit)×List Place×Unit×List Int×Unit)×(Unit)):=za7 TT prog qdz_C ql3 f88 (z9 f88) ⟨[],[],[],[],[]⟩ [.ptr 0 110 [.ptr 0 112 [.val (.list (.user 2)),.row 102 (.user 4),.val (.int .i64),.row 117 (.user 5),.row 3 (.int .i64)]]] [.blk 110 [.at_ 1 0],.blk 112 [.val (.list (.user 2)),.own 2,.val (.int .i64),.row 117 (.user 5),.own 4],.row 102 (.user 4),.gone,.row 3 (.int .i64)] [] n (((x0,x1,x2,x3,x4,()),()),())
noncomputable def qdz_sp:GSpec TT:=⟨[.ptr 0 110 [.ptr 0 112 [.val (.list (.user 2)),.row 102 (.user 4),.val (.int .i64),.row 117 (.user 5),.row 3 (.int .i64)]]],[.blk 110 [.at_ 1 0],.blk 112 [.val (.list (.user 2)),.own 2,.val (.int .i64),.row 117 (.user 5),.own 4],.row 102 (.user 4),.gone,.row 3 (.int .i64)],[],fun x=>qdz w7 x.1.1.1 x.1.1.2.1 x.1.1.2.2.1 x.1.1.2.2.2.1 x.1.1.2.2.2.2.1⟩
def go2:GOk TT prog 88 qdz_sp:=q8 (C:=qdz_C) (cuts:=ql3) (by kernel_rfl) ks9 func88 (show f88.body=some (z9 f88) by kernel_rfl) (by kernel_rfl) (by kernel_rfl) (by kernel_rfl) fun x y h=>⟨w7,h⟩
noncomputable def qec_C:Ctx TT:=⟨k9,[(85,qbv_sp.toCall (z8 TT))],4,[],q7,k7,k8⟩
def kt2:j9 TT prog qec_C.E:=j8 (z4 va1 (z5 85)) (j6)
def ql6:List (Pos×Cut):= []
noncomputable def qec (n:Nat) (x0:List Ins) (x1:List Place) (x2:Int) (x3:List Flat) (x4:List Int) (x5:Ins):Option (((List Ins×Unit×Int×List Flat×Unit×Unit)×List Place×Unit×List Int×Unit)×(Int×Unit)):=za7 TT prog qec_C ql6 f84 (z9 f84) ⟨[],[],[],[],[]⟩ [.ptr 0 112 [.val (.list (.user 2)),.row 102 (.user 4),.val (.int .i64),.row 117 (.user 5),.row 3 (.int .i64)],.val (.user 2)] [.blk 112 [.val (.list (.user 2)),.own 1,.val (.int .i64),.row 117 (.user 5),.own 3],.row 102 (.user 4),.gone,.row 3 (.int .i64)] [.val (.int .i64)] n ((x0,x1,x2,x3,x4,()),x5,())
noncomputable def qec_sp:GSpec TT:=⟨[.ptr 0 112 [.val (.list (.user 2)),.row 102 (.user 4),.val (.int .i64),.row 117 (.user 5),.row 3 (.int .i64)],.val (.user 2)],[.blk 112 [.val (.list (.user 2)),.own 1,.val (.int .i64),.row 117 (.user 5),.own 3],.row 102 (.user 4),.gone,.row 3 (.int .i64)],[.val (.int .i64)],fun x=>qec w7 x.1.1 x.1.2.1 x.1.2.2.1 x.1.2.2.2.1 x.1.2.2.2.2.1 x.2.1⟩
def go6:GOk TT prog 84 qec_sp:=q8 (C:=qec_C) (cuts:=ql6) (by kernel_rfl) kt2 func84 (show f84.body=some (z9 f84) by kernel_rfl) (by kernel_rfl) (by kernel_rfl) (by kernel_rfl) fun x y h=>⟨w7,h⟩
noncomputable def qeb_C:Ctx TT:=⟨k9,[(85,qbv_sp.toCall (z8 TT)),(84,qec_sp.toCall (z8 TT))],4,[],q7,k7,k8⟩
def kt1:j9 TT prog qeb_C.E:=j8 (z4 va1 (z5 85)) (j8 (z4 go6 (z5 84)) (j6))
def ql5:List (Pos×Cut):= [([true,true,false,true],⟨[0,3,37],[],false,[],0,false⟩),([true,true,true,true,false,true],⟨[0,3,59],[],false,[],0,false⟩)]
noncomputable def qeb (n:Nat) (x0:List Ins) (x1:List Place) (x2:Int) (x3:List Flat) (x4:List Int) (x5:Ins):Option (((List Ins×Unit×Int×List Flat×Unit×Unit)×List Place×Unit×List Int×Unit)×(Unit)):=za7 TT prog qeb_C ql5 f90 (z9 f90) ⟨[],[],[],[],[]⟩ [.ptr 0 112 [.val (.list (.user 2)),.row 102 (.user 4),.val (.int .i64),.row 117 (.user 5),.row 3 (.int .i64)],.val (.user 2)] [.blk 112 [.val (.list (.user 2)),.own 1,.val (.int .i64),.row 117 (.user 5),.own 3],.row 102 (.user 4),.gone,.row 3 (.int .i64)] [] n ((x0,x1,x2,x3,x4,()),x5,())
noncomputable def qeb_sp:GSpec TT:=⟨[.ptr 0 112 [.val (.list (.user 2)),.row 102 (.user 4),.val (.int .i64),.row 117 (.user 5),.row 3 (.int .i64)],.val (.user 2)],[.blk 112 [.val (.list (.user 2)),.own 1,.val (.int .i64),.row 117 (.user 5),.own 3],.row 102 (.user 4),.gone,.row 3 (.int .i64)],[],fun x=>qeb w7 x.1.1 x.1.2.1 x.1.2.2.1 x.1.2.2.2.1 x.1.2.2.2.2.1 x.2.1⟩
def go5:GOk TT prog 90 qeb_sp:=q8 (C:=qeb_C) (cuts:=ql5) (by kernel_rfl) kt1 func90 (show f90.body=some (z9 f90) by kernel_rfl) (by kernel_rfl) (by kernel_rfl) (by kernel_rfl) fun x y h=>⟨w7,h⟩
noncomputable def qea_C:Ctx TT:=⟨k9,[(88,qdz_sp.toCall (z8 TT)),(64,qbr_sp.toCall),(90,qeb_sp.toCall (z8 TT))],4,[],q7,k7,k8⟩
def kt0:j9 TT prog qea_C.E:=j8 (z4 go2 (z5 88)) (j8 (j5 qz7) (j8 (z4 go5 (z5 90)) (j6)))
def ql4:List (Pos×Cut):= []
noncomputable def qea (n:Nat) (x0:List Ins) (x1:List Place) (x2:Int) (x3:List Flat) (x4:List Int) (x5:Ins):Option (((List Ins×Unit×Int×List Flat×Unit×Unit)×List Place×Unit×List Int×Unit)×(Unit)):=za7 TT prog qea_C ql4 f50 (z9 f50) ⟨[],[],[],[],[]⟩ [.ptr 0 112 [.val (.list (.user 2)),.row 102 (.user 4),.val (.int .i64),.row 117 (.user 5),.row 3 (.int .i64)],.val (.user 2)] [.blk 112 [.val (.list (.user 2)),.own 1,.val (.int .i64),.row 117 (.user 5),.own 3],.row 102 (.user 4),.gone,.row 3 (.int .i64)] [] n ((x0,x1,x2,x3,x4,()),x5,())
noncomputable def qea_sp:GSpec TT:=⟨[.ptr 0 112 [.val (.list (.user 2)),.row 102 (.user 4),.val (.int .i64),.row 117 (.user 5),.row 3 (.int .i64)],.val (.user 2)],[.blk 112 [.val (.list (.user 2)),.own 1,.val (.int .i64),.row 117 (.user 5),.own 3],.row 102 (.user 4),.gone,.row 3 (.int .i64)],[],fun x=>qea w7 x.1.1 x.1.2.1 x.1.2.2.1 x.1.2.2.2.1 x.1.2.2.2.2.1 x.2.1⟩
def go4:GOk TT prog 50 qea_sp:=q8 (C:=qea_C) (cuts:=ql4) (by kernel_rfl) kt0 func50 (show f50.body=some (z9 f50) by kernel_rfl) (by kernel_rfl) (by kernel_rfl) (by kernel_rfl) fun x y h=>⟨w7,h⟩
noncomputable def qan_C:Ctx TT:=⟨k9,[(30,qbd_sp.toCall (z8 TT)),(49,qdy_sp.toCall (z8 TT)),(50,qea_sp.toCall (z8 TT))],0,[(3,1),(8,1),(16,1)],q7,k7,k8⟩
def kj8:j9 TT prog qan_C.E:=j8 (z4 vz5 (z5 30)) (j8 (z4 go1 (z5 49)) (j8 (z4 go4 (z5 50)) (j6)))
def qc5:List (Pos×Cut):= [([false,true,false,true,true,true,true],⟨[0,3,6,23,24],[],false,[(1,3,117,.user 5),(1,4,3,.int .i64)],0,false⟩),([true,true,false,false,true,false,true,true,true,true],⟨[0,3,6,23,24],[],false,[],0,false⟩),([false,true,false,true,true,true,true,true],⟨[3,6,63,64,65],[],false,[],0,false⟩),([true,true,false,false,true,false,true,true,true,true,true],⟨[3,6,63,64,65],[],false,[],0,false⟩),([true,false,false,true,true,false,false,true,false,true,true,true,true,true],⟨[3,6,7,8,63,64,65,77],[],false,[],0,false⟩)]
noncomputable def qan (n:Nat) (x0:List Ins):Option (List Flat×Fault):=zg5 TT prog qan_C qc5 f35 (z9 f35) ⟨[],[]⟩ [.val (.list (.user 2))] [.own 117 (.user 5),.val (.user 3)] n x0
noncomputable def qan_sp:FnSpec TT:=⟨[.val (.list (.user 2))],[.own 117 (.user 5),.val (.user 3)],fun x=>qan w7 x⟩
def gg4:zd9 TT prog 35 qan_sp:=v9 (C:=qan_C) (by kernel_rfl) kj8 func35 (show f35.body=some (z9 f35) by kernel_rfl) (by kernel_rfl) (by kernel_rfl) (cuts:=qc5) fun x y h=>⟨w7,h⟩
noncomputable def qdr_C:Ctx TT:=⟨k9,[],0,[],q7,k7,k8⟩
def ks1:j9 TT prog qdr_C.E:=j6
def qk5:List (Pos×Cut):= []
noncomputable def qdr (n:Nat):Option ((Unit)×((((Unit)×(Unit))×((Unit)×(Unit))×((Unit)×(Unit))×((Unit)×(Unit))×((Unit)×(Unit))×((Unit)×(Unit))×((Unit)×(Unit))×((Unit)×(Unit))×((Unit)×(Unit))×Unit)×Unit)):=za7 TT prog qdr_C qk5 f91 (z9 f91) ⟨[],[],[],[],[]⟩ [] [] [.mp .u8 [1,2,3,4,5,6,7,8,9] [.fn 135 [] [],.fn 136 [] [],.fn 137 [] [],.fn 138 [] [],.fn 138 [] [],.fn 139 [] [],.fn 140 [] [],.fn 141 [] [],.fn 142 [] []]] n ()
noncomputable def qdr_sp:GSpec TT:=⟨[],[],[.mp .u8 [1,2,3,4,5,6,7,8,9] [.fn 135 [] [],.fn 136 [] [],.fn 137 [] [],.fn 138 [] [],.fn 138 [] [],.fn 139 [] [],.fn 140 [] [],.fn 141 [] [],.fn 142 [] []]],fun _=>qdr w7⟩
def gn4:GOk TT prog 91 qdr_sp:=q8 (C:=qdr_C) (cuts:=qk5) (by kernel_rfl) ks1 func91 (show f91.body=some (z9 f91) by kernel_rfl) (by kernel_rfl) (by kernel_rfl) (by kernel_rfl) fun x y h=>⟨w7,h⟩
noncomputable def qbs_C:Ctx TT:=⟨k9,[],0,[],q7,k7,k8⟩
def km9:j9 TT prog qbs_C.E:=j6
def qf5:List (Pos×Cut):= []
noncomputable def qbs (n:Nat) (x0 x1:Int) (x2:Bool) (x3 x4 x5 x6 x7 x8 x9 x10:Int):Option ((Unit)×(Flat×Unit)):=za7 TT prog qbs_C qf5 f199 (z9 f199) ⟨[],[],[],[],[]⟩ [.agg [.val (.int .u8),.val (.int .u8),.val (.bool),.val (.int .i64),.val (.int .i64),.val (.int .i64),.val (.int .u64),.val (.int .i64),.val (.int .i64),.val (.int .i64),.val (.int .i64)]] [] [.val (.user 5)] n ((x0,x1,x2,x3,x4,x5,x6,x7,x8,x9,x10,()),())
noncomputable def qbs_sp:GSpec TT:=⟨[.agg [.val (.int .u8),.val (.int .u8),.val (.bool),.val (.int .i64),.val (.int .i64),.val (.int .i64),.val (.int .u64),.val (.int .i64),.val (.int .i64),.val (.int .i64),.val (.int .i64)]],[],[.val (.user 5)],fun x=>qbs w7 x.1.1 x.1.2.1 x.1.2.2.1 x.1.2.2.2.1 x.1.2.2.2.2.1 x.1.2.2.2.2.2.1 x.1.2.2.2.2.2.2.1 x.1.2.2.2.2.2.2.2.1 x.1.2.2.2.2.2.2.2.2.1 x.1.2.2.2.2.2.2.2.2.2.1 x.1.2.2.2.2.2.2.2.2.2.2.1⟩
def qz8:GOk TT prog 199 qbs_sp:=q8 (C:=qbs_C) (cuts:=qf5) (by kernel_rfl) km9 func199 (show f199.body=some (z9 f199) by kernel_rfl) (by kernel_rfl) (by kernel_rfl) (by kernel_rfl) fun x y h=>⟨w7,h⟩
noncomputable def qbt_C:Ctx TT:=⟨k9,[],0,[],q7,k7,k8⟩
def kn0:j9 TT prog qbt_C.E:=j6
def qf6:List (Pos×Cut):= [([false,true,false,true],⟨[5,6,7],[],false,[],0,false⟩),([true,false,false,true,true,false,false,true,false,true],⟨[5,6,7,16],[],false,[],0,false⟩)]
noncomputable def qbt (n:Nat) (x0:List Int):Option (Bool):=zg5 TT prog qbt_C qf6 f200 (z9 f200) ⟨[],[]⟩ [.val (.list (.int .i64))] [.val (.bool)] n x0
noncomputable def qbt_sp:FnSpec TT:=⟨[.val (.list (.int .i64))],[.val (.bool)],fun x=>qbt w7 x⟩
def qz9:zd9 TT prog 200 qbt_sp:=v9 (C:=qbt_C) (by kernel_rfl) kn0 func200 (show f200.body=some (z9 f200) by kernel_rfl) (by kernel_rfl) (by kernel_rfl) (cuts:=qf6) fun x y h=>⟨w7,h⟩
noncomputable def qdu_C:Ctx TT:=⟨k9,[(199,qbs_sp.toCall (z8 TT)),(200,qbt_sp.toCall)],0,[(2,1)],q7,k7,k8⟩
def ks4:j9 TT prog qdu_C.E:=j8 (z4 qz8 (z5 199)) (j8 (j5 qz9) (j6))
def qk8:List (Pos×Cut):= []
noncomputable def qdu (n:Nat) (x0 x1:Int) (x2:Bool) (x3 x4 x5 x6 x7 x8 x9 x10:Int):Option ((Unit)×(Bool×Unit)):=za7 TT prog qdu_C qk8 f135 (z9 f135) ⟨[],[],[],[],[]⟩ [.agg [.val (.int .u8),.val (.int .u8),.val (.bool),.val (.int .i64),.val (.int .i64),.val (.int .i64),.val (.int .u64),.val (.int .i64),.val (.int .i64),.val (.int .i64),.val (.int .i64)]] [] [.val (.bool)] n ((x0,x1,x2,x3,x4,x5,x6,x7,x8,x9,x10,()),())
noncomputable def qdu_sp:GSpec TT:=⟨[.agg [.val (.int .u8),.val (.int .u8),.val (.bool),.val (.int .i64),.val (.int .i64),.val (.int .i64),.val (.int .u64),.val (.int .i64),.val (.int .i64),.val (.int .i64),.val (.int .i64)]],[],[.val (.bool)],fun x=>qdu w7 x.1.1 x.1.2.1 x.1.2.2.1 x.1.2.2.2.1 x.1.2.2.2.2.1 x.1.2.2.2.2.2.1 x.1.2.2.2.2.2.2.1 x.1.2.2.2.2.2.2.2.1 x.1.2.2.2.2.2.2.2.2.1 x.1.2.2.2.2.2.2.2.2.2.1 x.1.2.2.2.2.2.2.2.2.2.2.1⟩
def gn7:GOk TT prog 135 qdu_sp:=q8 (C:=qdu_C) (cuts:=qk8) (by kernel_rfl) ks4 func135 (show f135.body=some (z9 f135) by kernel_rfl) (by kernel_rfl) (by kernel_rfl) (by kernel_rfl) fun x y h=>⟨w7,h⟩
noncomputable def qdt_C:Ctx TT:=⟨k9,[(199,qbs_sp.toCall (z8 TT)),(200,qbt_sp.toCall)],0,[(2,1)],q7,k7,k8⟩
def ks3:j9 TT prog qdt_C.E:=j8 (z4 qz8 (z5 199)) (j8 (j5 qz9) (j6))
def qk7:List (Pos×Cut):= []
noncomputable def qdt (n:Nat) (x0 x1:Int) (x2:Bool) (x3 x4 x5 x6 x7 x8 x9 x10:Int):Option ((Unit)×(Bool×Unit)):=za7 TT prog qdt_C qk7 f136 (z9 f136) ⟨[],[],[],[],[]⟩ [.agg [.val (.int .u8),.val (.int .u8),.val (.bool),.val (.int .i64),.val (.int .i64),.val (.int .i64),.val (.int .u64),.val (.int .i64),.val (.int .i64),.val (.int .i64),.val (.int .i64)]] [] [.val (.bool)] n ((x0,x1,x2,x3,x4,x5,x6,x7,x8,x9,x10,()),())
noncomputable def qdt_sp:GSpec TT:=⟨[.agg [.val (.int .u8),.val (.int .u8),.val (.bool),.val (.int .i64),.val (.int .i64),.val (.int .i64),.val (.int .u64),.val (.int .i64),.val (.int .i64),.val (.int .i64),.val (.int .i64)]],[],[.val (.bool)],fun x=>qdt w7 x.1.1 x.1.2.1 x.1.2.2.1 x.1.2.2.2.1 x.1.2.2.2.2.1 x.1.2.2.2.2.2.1 x.1.2.2.2.2.2.2.1 x.1.2.2.2.2.2.2.2.1 x.1.2.2.2.2.2.2.2.2.1 x.1.2.2.2.2.2.2.2.2.2.1 x.1.2.2.2.2.2.2.2.2.2.2.1⟩
def gn6:GOk TT prog 136 qdt_sp:=q8 (C:=qdt_C) (cuts:=qk7) (by kernel_rfl) ks3 func136 (show f136.body=some (z9 f136) by kernel_rfl) (by kernel_rfl) (by kernel_rfl) (by kernel_rfl) fun x y h=>⟨w7,h⟩
noncomputable def qds_C:Ctx TT:=⟨k9,[(199,qbs_sp.toCall (z8 TT)),(200,qbt_sp.toCall)],0,[],q7,k7,k8⟩
def ks2:j9 TT prog qds_C.E:=j8 (z4 qz8 (z5 199)) (j8 (j5 qz9) (j6))
def qk6:List (Pos×Cut):= []
noncomputable def qds (n:Nat) (x0 x1:Int) (x2:Bool) (x3 x4 x5 x6 x7 x8 x9 x10:Int):Option ((Unit)×(Bool×Unit)):=za7 TT prog qds_C qk6 f142 (z9 f142) ⟨[],[],[],[],[]⟩ [.agg [.val (.int .u8),.val (.int .u8),.val (.bool),.val (.int .i64),.val (.int .i64),.val (.int .i64),.val (.int .u64),.val (.int .i64),.val (.int .i64),.val (.int .i64),.val (.int .i64)]] [] [.val (.bool)] n ((x0,x1,x2,x3,x4,x5,x6,x7,x8,x9,x10,()),())
noncomputable def qds_sp:GSpec TT:=⟨[.agg [.val (.int .u8),.val (.int .u8),.val (.bool),.val (.int .i64),.val (.int .i64),.val (.int .i64),.val (.int .u64),.val (.int .i64),.val (.int .i64),.val (.int .i64),.val (.int .i64)]],[],[.val (.bool)],fun x=>qds w7 x.1.1 x.1.2.1 x.1.2.2.1 x.1.2.2.2.1 x.1.2.2.2.2.1 x.1.2.2.2.2.2.1 x.1.2.2.2.2.2.2.1 x.1.2.2.2.2.2.2.2.1 x.1.2.2.2.2.2.2.2.2.1 x.1.2.2.2.2.2.2.2.2.2.1 x.1.2.2.2.2.2.2.2.2.2.2.1⟩
def gn5:GOk TT prog 142 qds_sp:=q8 (C:=qds_C) (cuts:=qk6) (by kernel_rfl) ks2 func142 (show f142.body=some (z9 f142) by kernel_rfl) (by kernel_rfl) (by kernel_rfl) (by kernel_rfl) fun x y h=>⟨w7,h⟩
noncomputable def qam_C:Ctx TT:=⟨k9,[(91,qdr_sp.toCall (z8 TT)),(135,qdu_sp.toCall (z8 TT)),(136,qdt_sp.toCall (z8 TT)),(142,qds_sp.toCall (z8 TT))],0,[],q7,k7,k8⟩
def kj7:j9 TT prog qam_C.E:=j8 (z4 gn4 (z5 91)) (j8 (z4 gn7 (z5 135)) (j8 (z4 gn6 (z5 136)) (j8 (z4 gn5 (z5 142)) (j6))))
def qc4:List (Pos×Cut):= [([false,true,true],⟨[0,3,25],[],false,[],0,false⟩),([false,true,false,true,true,true,true],⟨[3,4,27,28,29],[],false,[],0,false⟩),([true,true,false,false,true,true,false,false,true,false,true,true,true,true],⟨[3,4,27,28,29,51],[],false,[],0,false⟩)]
noncomputable def qam (n:Nat) (x0:List Flat):Option (Bool):=zg5 TT prog qam_C qc4 f51 (z9 f51) ⟨[],[]⟩ [.val (.list (.user 5))] [.val (.bool)] n x0
noncomputable def qam_sp:FnSpec TT:=⟨[.val (.list (.user 5))],[.val (.bool)],fun x=>qam w7 x⟩
def jk4:zd9 TT prog 51 qam_sp:=v9 (C:=qam_C) (by kernel_rfl) kj7 func51 (show f51.body=some (z9 f51) by kernel_rfl) (by kernel_rfl) (by kernel_rfl) (cuts:=qc4) fun x y h=>⟨w7,h⟩
end Go.X
