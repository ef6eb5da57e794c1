import Derived.Test.YtcepemagnfpmdaaGreatSy
set_option linter.defProp false
namespace Go.X
open Go.RowKit Go.V Go.Proofs Tryz
noncomputable section
def qdp_C:Ctx TT:=⟨k9,[],0,[],q7,k7,k8⟩
def kr9:j9 TT prog qdp_C.E:=j6
def qk3:List (Pos×Cut):= [([false,false,true],⟨[0,3],[],false,[],0,false⟩)]
def qdp (n:Nat) (x0:Int):Option (Int):=zg5 TT prog qdp_C qk3 f114 (z9 f114) ⟨[],[]⟩ [.val (.int .u8)] [.val (.int .i64)] n x0
def qdp_sp:FnSpec TT:=⟨[.val (.int .u8)],[.val (.int .i64)],fun x=>qdp w7 x⟩
def gn2:zd9 TT prog 114 qdp_sp:=v9 (C:=qdp_C) (by kernel_rfl) kr9 func114 (show f114.body=some (z9 f114) by kernel_rfl) (by kernel_rfl) (by kernel_rfl) (cuts:=qk3) fun x y h=>⟨w7,h⟩
def qfl_C:Ctx TT:=⟨k9,[],0,[],q7,k7,k8⟩
def kw7:j9 TT prog qfl_C.E:=j6
def qp1:List (Pos×Cut):= [([false,true,false,true],⟨[0,1,7,8],[],false,[],0,false⟩)]
def qfl (n:Nat) (x0:List Int) (x1:Int):Option (Int):=zg5 TT prog qfl_C qp1 f172 (z9 f172) ⟨[],[]⟩ [.val (.list (.int .i64)),.val (.int .i64)] [.val (.int .i64)] n (x0,x1)
def qfl_sp:FnSpec TT:=⟨[.val (.list (.int .i64)),.val (.int .i64)],[.val (.int .i64)],fun x=>qfl w7 x.1 x.2⟩
def gs2:zd9 TT prog 172 qfl_sp:=v9 (C:=qfl_C) (by kernel_rfl) kw7 func172 (show f172.body=some (z9 f172) by kernel_rfl) (by kernel_rfl) (by kernel_rfl) (cuts:=qp1) fun x y h=>⟨w7,h⟩
def qfk_C:Ctx TT:=⟨k9,[(172,qfl_sp.toCall)],0,[],q7,k7,k8⟩
def kw6:j9 TT prog qfk_C.E:=j8 (j5 gs2) (j6)
def qp0:List (Pos×Cut):= []
def qfk (n:Nat) (x0:List Int) (x1:Int):Option (Bool):=zg5 TT prog qfk_C qp0 f115 (z9 f115) ⟨[],[]⟩ [.val (.list (.int .i64)),.val (.int .i64)] [.val (.bool)] n (x0,x1)
def qfk_sp:FnSpec TT:=⟨[.val (.list (.int .i64)),.val (.int .i64)],[.val (.bool)],fun x=>qfk w7 x.1 x.2⟩
def gs1:zd9 TT prog 115 qfk_sp:=v9 (C:=qfk_C) (by kernel_rfl) kw6 func115 (show f115.body=some (z9 f115) by kernel_rfl) (by kernel_rfl) (by kernel_rfl) (cuts:=qp0) fun x y h=>⟨w7,h⟩
def qdq_C:Ctx TT:=⟨k9,[],0,[],q7,k7,k8⟩
def ks0:j9 TT prog qdq_C.E:=j6
def qk4:List (Pos×Cut):= []
def qdq (n:Nat) (x0 x1 x2:Int):Option (Bool):=zg5 TT prog qdq_C qk4 f116 (z9 f116) ⟨[],[]⟩ [.val (.int .i64),.val (.int .i64),.val (.int .i64)] [.val (.bool)] n (x0,x1,x2)
def qdq_sp:FnSpec TT:=⟨[.val (.int .i64),.val (.int .i64),.val (.int .i64)],[.val (.bool)],fun x=>qdq w7 x.1 x.2.1 x.2.2⟩
def gn3:zd9 TT prog 116 qdq_sp:=v9 (C:=qdq_C) (by kernel_rfl) ks0 func116 (show f116.body=some (z9 f116) by kernel_rfl) (by kernel_rfl) (by kernel_rfl) (cuts:=qk4) fun x y h=>⟨w7,h⟩
def qck_C:Ctx TT:=⟨k9,[(114,qdp_sp.toCall),(115,qfk_sp.toCall),(116,qdq_sp.toCall)],0,[(8,1)],q7,k7,k8⟩
def ko8:j9 TT prog qck_C.E:=j8 (j5 gn2) (j8 (j5 gs1) (j8 (j5 gn3) (j6)))
def qh2:List (Pos×Cut):= [([true,true,true],⟨[1,3,4],[],false,[],0,false⟩),([true,true,true,true],⟨[1,3,4],[],false,[],0,false⟩),([false,true,true,true,true],⟨[1,3,4,31],[],false,[],0,false⟩),([true,true,true,true,true],⟨[1,3,4],[],false,[],0,false⟩),([false,true,true,true,true,true],⟨[1,3,4,41],[],false,[],0,false⟩),([true,true,true,true,true,true],⟨[1,3,4],[],false,[],0,false⟩),([true,true,true,true,true,true,true],⟨[1,3,4],[],false,[],0,false⟩),([true,true,true,true,true,true,true,true],⟨[1,3,4],[],false,[],0,false⟩),([true,true,true,true,true,true,true,true,true,true],⟨[1,3,4,5],[],false,[],0,false⟩),([true,true,true,true,true,true,true,true,true,true,true],⟨[1,3,4,5,6],[],false,[],0,false⟩)]
def qck (n:Nat) (x0:Ins):Option (Bool):=zg5 TT prog qck_C qh2 f62 (z9 f62) ⟨[],[]⟩ [.val (.user 2)] [.val (.bool)] n x0
def qck_sp:FnSpec TT:=⟨[.val (.user 2)],[.val (.bool)],fun x=>qck w7 x⟩
def kb1:zd9 TT prog 62 qck_sp:=v9 (C:=qck_C) (by kernel_rfl) ko8 func62 (show f62.body=some (z9 f62) by kernel_rfl) (by kernel_rfl) (by kernel_rfl) (cuts:=qh2) fun x y h=>⟨w7,h⟩
def qbc_C:Ctx TT:=⟨k9,[],0,[],q7,k7,k8⟩
def kl3:j9 TT prog qbc_C.E:=j6
def qd9:List (Pos×Cut):= []
def qbc (n:Nat) (x0:Bool) (x1:Int):Option (Int):=zg5 TT prog qbc_C qd9 f61 (z9 f61) ⟨[],[]⟩ [.val (.bool),.val (.int .i64)] [.val (.int .i64)] n (x0,x1)
def qbc_sp:FnSpec TT:=⟨[.val (.bool),.val (.int .i64)],[.val (.int .i64)],fun x=>qbc w7 x.1 x.2⟩
def jv3:zd9 TT prog 61 qbc_sp:=v9 (C:=qbc_C) (by kernel_rfl) kl3 func61 (show f61.body=some (z9 f61) by kernel_rfl) (by kernel_rfl) (by kernel_rfl) (cuts:=qd9) fun x y h=>⟨w7,h⟩
def qfb_C:Ctx TT:=⟨k9,[(62,qck_sp.toCall),(61,qbc_sp.toCall)],1,[],q7,k7,k8⟩
def kv7:j9 TT prog qfb_C.E:=j8 (j5 kb1) (j8 (j5 jv3) (j6))
def qo1:List (Pos×Cut):= []
def qfb (n:Nat) (x0:Int) (x1:List Ins):Option (((List Ins×Unit)×Unit)×(Int×Unit)):=za7 TT prog qfb_C qo1 f60 (z9 f60) ⟨[],[],[],[],[]⟩ [.val (.int .i64),.ptr 0 38 [.val (.list (.user 2))]] [.blk 38 [.val (.list (.user 2))]] [.val (.int .i64)] n (x0,(x1,()),())
def qfb_sp:GSpec TT:=⟨[.val (.int .i64),.ptr 0 38 [.val (.list (.user 2))]],[.blk 38 [.val (.list (.user 2))]],[.val (.int .i64)],fun x=>qfb w7 x.1 x.2.1.1⟩
def gr2:GOk TT prog 60 qfb_sp:=q8 (C:=qfb_C) (cuts:=qo1) (by kernel_rfl) kv7 func60 (show f60.body=some (z9 f60) by kernel_rfl) (by kernel_rfl) (by kernel_rfl) (by kernel_rfl) fun x y h=>⟨w7,h⟩
def qbr_C:Ctx TT:=⟨k9,[],0,[],q7,k7,k8⟩
def km8:j9 TT prog qbr_C.E:=j6
def qf4:List (Pos×Cut):= []
def qbr (n:Nat) (x0:Ins):Option (Bool):=zg5 TT prog qbr_C qf4 f64 (z9 f64) ⟨[],[]⟩ [.val (.user 2)] [.val (.bool)] n x0
def qbr_sp:FnSpec TT:=⟨[.val (.user 2)],[.val (.bool)],fun x=>qbr w7 x⟩
def qz7:zd9 TT prog 64 qbr_sp:=v9 (C:=qbr_C) (by kernel_rfl) km8 func64 (show f64.body=some (z9 f64) by kernel_rfl) (by kernel_rfl) (by kernel_rfl) (cuts:=qf4) fun x y h=>⟨w7,h⟩
def qfc_C:Ctx TT:=⟨k9,[(64,qbr_sp.toCall),(61,qbc_sp.toCall)],1,[],q7,k7,k8⟩
def kv8:j9 TT prog qfc_C.E:=j8 (j5 qz7) (j8 (j5 jv3) (j6))
def qo2:List (Pos×Cut):= []
def qfc (n:Nat) (x0:Int) (x1:List Ins):Option (((List Ins×Unit)×Unit)×(Int×Unit)):=za7 TT prog qfc_C qo2 f63 (z9 f63) ⟨[],[],[],[],[]⟩ [.val (.int .i64),.ptr 0 38 [.val (.list (.user 2))]] [.blk 38 [.val (.list (.user 2))]] [.val (.int .i64)] n (x0,(x1,()),())
def qfc_sp:GSpec TT:=⟨[.val (.int .i64),.ptr 0 38 [.val (.list (.user 2))]],[.blk 38 [.val (.list (.user 2))]],[.val (.int .i64)],fun x=>qfc w7 x.1 x.2.1.1⟩
def gr3:GOk TT prog 63 qfc_sp:=q8 (C:=qfc_C) (cuts:=qo2) (by kernel_rfl) kv8 func63 (show f63.body=some (z9 f63) by kernel_rfl) (by kernel_rfl) (by kernel_rfl) (by kernel_rfl) fun x y h=>⟨w7,h⟩
def qfd_C:Ctx TT:=⟨k9,[(61,qbc_sp.toCall)],1,[],q7,k7,k8⟩
def kv9:j9 TT prog qfd_C.E:=j8 (j5 jv3) (j6)
def qo3:List (Pos×Cut):= []
def qfd (n:Nat) (x0:Int) (x1:List Ins):Option (((List Ins×Unit)×Unit)×(Int×Unit)):=za7 TT prog qfd_C qo3 f65 (z9 f65) ⟨[],[],[],[],[]⟩ [.val (.int .i64),.ptr 0 38 [.val (.list (.user 2))]] [.blk 38 [.val (.list (.user 2))]] [.val (.int .i64)] n (x0,(x1,()),())
def qfd_sp:GSpec TT:=⟨[.val (.int .i64),.ptr 0 38 [.val (.list (.user 2))]],[.blk 38 [.val (.list (.user 2))]],[.val (.int .i64)],fun x=>qfd w7 x.1 x.2.1.1⟩
def gr4:GOk TT prog 65 qfd_sp:=q8 (C:=qfd_C) (cuts:=qo3) (by kernel_rfl) kv9 func65 (show f65.body=some (z9 f65) by kernel_rfl) (by kernel_rfl) (by kernel_rfl) (by kernel_rfl) fun x y h=>⟨w7,h⟩
def qcx_C:Ctx TT:=⟨k9,[],0,[],q7,k7,k8⟩
def kq1:j9 TT prog qcx_C.E:=j6
def qi5:List (Pos×Cut):= [([true],⟨[0,2],[],false,[],0,false⟩),([true,true],⟨[0,2],[],false,[],0,false⟩),([true,true,true],⟨[0,2],[],false,[],0,false⟩)]
def qcx (n:Nat) (x0:Int):Option (Int):=zg5 TT prog qcx_C qi5 f231 (z9 f231) ⟨[],[]⟩ [.val (.int .u64)] [.val (.int .i64)] n x0
def qcx_sp:FnSpec TT:=⟨[.val (.int .u64)],[.val (.int .i64)],fun x=>qcx w7 x⟩
def gl3:zd9 TT prog 231 qcx_sp:=v9 (C:=qcx_C) (by kernel_rfl) kq1 func231 (show f231.body=some (z9 f231) by kernel_rfl) (by kernel_rfl) (by kernel_rfl) (cuts:=qi5) fun x y h=>⟨w7,h⟩
def qcg_C:Ctx TT:=⟨k9,[(231,qcx_sp.toCall)],0,[],q7,k7,k8⟩
def ko4:j9 TT prog qcg_C.E:=j8 (j5 gl3) (j6)
def qg8:List (Pos×Cut):= []
def qcg (n:Nat) (x0:Int):Option (Int):=zg5 TT prog qcg_C qg8 f174 (z9 f174) ⟨[],[]⟩ [.val (.int .u64)] [.val (.int .i64)] n x0
def qcg_sp:FnSpec TT:=⟨[.val (.int .u64)],[.val (.int .i64)],fun x=>qcg w7 x⟩
def ka7:zd9 TT prog 174 qcg_sp:=v9 (C:=qcg_C) (by kernel_rfl) ko4 func174 (show f174.body=some (z9 f174) by kernel_rfl) (by kernel_rfl) (by kernel_rfl) (cuts:=qg8) fun x y h=>⟨w7,h⟩
def qdk_C:Ctx TT:=⟨k9,[],0,[],q7,k7,k8⟩
def kr4:j9 TT prog qdk_C.E:=j6
def qj8:List (Pos×Cut):= []
def qdk (n:Nat) (x0:Int):Option (Bool):=zg5 TT prog qdk_C qj8 f300 (z9 f300) ⟨[],[]⟩ [.val (.int .i64)] [.val (.bool)] n x0
def qdk_sp:FnSpec TT:=⟨[.val (.int .i64)],[.val (.bool)],fun x=>qdk w7 x⟩
def gm7:zd9 TT prog 300 qdk_sp:=v9 (C:=qdk_C) (by kernel_rfl) kr4 func300 (show f300.body=some (z9 f300) by kernel_rfl) (by kernel_rfl) (by kernel_rfl) (cuts:=qj8) fun x y h=>⟨w7,h⟩
def qci_C:Ctx TT:=⟨k9,[(300,qdk_sp.toCall)],0,[],q7,k7,k8⟩
def ko6:j9 TT prog qci_C.E:=j8 (j5 gm7) (j6)
def qh0:List (Pos×Cut):= []
def qci (n:Nat) (x0 x1:Int):Option (Bool):=zg5 TT prog qci_C qh0 f227 (z9 f227) ⟨[],[]⟩ [.val (.int .i64),.val (.int .i64)] [.val (.bool)] n (x0,x1)
def qci_sp:FnSpec TT:=⟨[.val (.int .i64),.val (.int .i64)],[.val (.bool)],fun x=>qci w7 x.1 x.2⟩
def ka9:zd9 TT prog 227 qci_sp:=v9 (C:=qci_C) (by kernel_rfl) ko6 func227 (show f227.body=some (z9 f227) by kernel_rfl) (by kernel_rfl) (by kernel_rfl) (cuts:=qh0) fun x y h=>⟨w7,h⟩
def qcv_C:Ctx TT:=⟨k9,[(227,qci_sp.toCall)],1,[(6,1)],q7,k7,k8⟩
def kp9:j9 TT prog qcv_C.E:=j8 (j5 ka9) (j6)
def qi3:List (Pos×Cut):= [([false,true],⟨[0,1,2,6],[],false,[],0,false⟩),([false,true,false,false,true,false,false,true],⟨[0,1,2,6,7],[],false,[],0,false⟩),([false,false,false,true,false,false,true,false,false,true],⟨[0,1,2,6,7,30],[],false,[],0,false⟩)]
def qcv (n:Nat) (x0:List Int) (x1 x2:Int):Option (List Int×Unit):=zg5 TT prog qcv_C qi3 f221 (z9 f221) ⟨[],[]⟩ [.io 3 (.int .i64),.val (.int .i64),.val (.int .i64)] [] n (x0,x1,x2)
def qcv_sp:FnSpec TT:=⟨[.io 3 (.int .i64),.val (.int .i64),.val (.int .i64)],[],fun x=>qcv w7 x.1 x.2.1 x.2.2⟩
def kc2:zd9 TT prog 221 qcv_sp:=v9 (C:=qcv_C) (by kernel_rfl) kp9 func221 (show f221.body=some (z9 f221) by kernel_rfl) (by kernel_rfl) (by kernel_rfl) (cuts:=qi3) fun x y h=>⟨w7,h⟩
def qcw_C:Ctx TT:=⟨k9,[(221,qcv_sp.toCall)],1,[],q7,k7,k8⟩
def kq0:j9 TT prog qcw_C.E:=j8 (j5 kc2) (j6)
def qi4:List (Pos×Cut):= [([false,true,true],⟨[0,1,2,3,8,9],[],false,[],0,false⟩),([true,true,true,false,false,false,true,true],⟨[0,1,2,3,8,9,10],[],false,[],0,false⟩)]
def qcw (n:Nat) (x0:List Int) (x1 x2 x3:Int):Option (List Int×Unit):=zg5 TT prog qcw_C qi4 f173 (z9 f173) ⟨[],[]⟩ [.io 3 (.int .i64),.val (.int .i64),.val (.int .i64),.val (.int .i64)] [] n (x0,x1,x2,x3)
def qcw_sp:FnSpec TT:=⟨[.io 3 (.int .i64),.val (.int .i64),.val (.int .i64),.val (.int .i64)],[],fun x=>qcw w7 x.1 x.2.1 x.2.2.1 x.2.2.2⟩
def kc3:zd9 TT prog 173 qcw_sp:=v9 (C:=qcw_C) (by kernel_rfl) kq0 func173 (show f173.body=some (z9 f173) by kernel_rfl) (by kernel_rfl) (by kernel_rfl) (cuts:=qi4) fun x y h=>⟨w7,h⟩
def qfm_C:Ctx TT:=⟨k9,[(174,qcg_sp.toCall),(173,qcw_sp.toCall)],1,[],q7,k7,k8⟩
def kw8:j9 TT prog qfm_C.E:=j8 (j5 ka7) (j8 (j5 kc3) (j6))
def qp2:List (Pos×Cut):= []
def qfm (n:Nat) (x0:List Int):Option (List Int×Unit):=zg5 TT prog qfm_C qp2 f117 (z9 f117) ⟨[],[]⟩ [.io 3 (.int .i64)] [] n x0
def qfm_sp:FnSpec TT:=⟨[.io 3 (.int .i64)],[],fun x=>qfm w7 x⟩
def gs3:zd9 TT prog 117 qfm_sp:=v9 (C:=qfm_C) (by kernel_rfl) kw8 func117 (show f117.body=some (z9 f117) by kernel_rfl) (by kernel_rfl) (by kernel_rfl) (cuts:=qp2) fun x y h=>⟨w7,h⟩
def qfo_C:Ctx TT:=⟨k9,[(227,qci_sp.toCall)],1,[(6,1)],q7,k7,k8⟩
def kx0:j9 TT prog qfo_C.E:=j8 (j5 ka9) (j6)
def qp4:List (Pos×Cut):= [([false,true],⟨[0,1,2,6],[],false,[],0,false⟩),([false,true,false,false,true,false,false,true],⟨[0,1,2,6,7],[],false,[],0,false⟩),([false,false,false,true,false,false,true,false,false,true],⟨[0,1,2,6,7,30],[],false,[],0,false⟩)]
def qfo (n:Nat) (x0:List Int) (x1 x2:Nat) (x3 x4:Int):Option ((List Int×Unit)×(Unit)):=za7 TT prog qfo_C qp4 f221 (z9 f221) ⟨[],[],[],[],[]⟩ [.slr 3 (.int .i64),.val (.int .i64),.val (.int .i64)] [.row 3 (.int .i64)] [] n ((x0,x1,x2),x3,x4,())
def qfo_sp:GSpec TT:=⟨[.slr 3 (.int .i64),.val (.int .i64),.val (.int .i64)],[.row 3 (.int .i64)],[],fun x=>qfo w7 x.1.1 x.1.2.1 x.1.2.2 x.2.1 x.2.2.1⟩
def gs5:GOk TT prog 221 qfo_sp:=q8 (C:=qfo_C) (cuts:=qp4) (by kernel_rfl) kx0 func221 (show f221.body=some (z9 f221) by kernel_rfl) (by kernel_rfl) (by kernel_rfl) (by kernel_rfl) fun x y h=>⟨w7,h⟩
def qfp_C:Ctx TT:=⟨k9,[(221,qfo_sp.toCall (qcv_sp.toCall))],1,[],q7,k7,k8⟩
def kx1:j9 TT prog qfp_C.E:=j8 (z4 gs5 (j5 kc2)) (j6)
def qp5:List (Pos×Cut):= [([false,true,true],⟨[0,1,2,3,8,9],[],false,[],0,false⟩),([true,true,true,false,false,false,true,true],⟨[0,1,2,3,8,9,10],[],false,[],0,false⟩)]
def qfp (n:Nat) (x0:List Int) (x1 x2:Nat) (x3 x4 x5:Int):Option ((List Int×Unit)×(Unit)):=za7 TT prog qfp_C qp5 f173 (z9 f173) ⟨[],[],[],[],[]⟩ [.slr 3 (.int .i64),.val (.int .i64),.val (.int .i64),.val (.int .i64)] [.row 3 (.int .i64)] [] n ((x0,x1,x2),x3,x4,x5,())
def qfp_sp:GSpec TT:=⟨[.slr 3 (.int .i64),.val (.int .i64),.val (.int .i64),.val (.int .i64)],[.row 3 (.int .i64)],[],fun x=>qfp w7 x.1.1 x.1.2.1 x.1.2.2 x.2.1 x.2.2.1 x.2.2.2.1⟩
def gs6:GOk TT prog 173 qfp_sp:=q8 (C:=qfp_C) (cuts:=qp5) (by kernel_rfl) kx1 func173 (show f173.body=some (z9 f173) by kernel_rfl) (by kernel_rfl) (by kernel_rfl) (by kernel_rfl) fun x y h=>⟨w7,h⟩
def qfn_C:Ctx TT:=⟨k9,[(174,qcg_sp.toCall),(173,qfp_sp.toCall (qcw_sp.toCall))],1,[],q7,k7,k8⟩
def kw9:j9 TT prog qfn_C.E:=j8 (j5 ka7) (j8 (z4 gs6 (j5 kc3)) (j6))
def qp3:List (Pos×Cut):= []
def qfn (n:Nat) (x0:List Int) (x1 x2:Nat):Option ((List Int×Unit)×(Unit)):=za7 TT prog qfn_C qp3 f117 (z9 f117) ⟨[],[],[],[],[]⟩ [.slr 3 (.int .i64)] [.row 3 (.int .i64)] [] n ((x0,x1,x2),())
def qfn_sp:GSpec TT:=⟨[.slr 3 (.int .i64)],[.row 3 (.int .i64)],[],fun x=>qfn w7 x.1.1 x.1.2.1 x.1.2.2⟩
def gs4:GOk TT prog 117 qfn_sp:=q8 (C:=qfn_C) (cuts:=qp3) (by kernel_rfl) kw9 func117 (show f117.body=some (z9 f117) by kernel_rfl) (by kernel_rfl) (by kernel_rfl) (by kernel_rfl) fun x y h=>⟨w7,h⟩
def qfi_C:Ctx TT:=⟨k9,[],1,[],q7,k7,k8⟩
def kw4:j9 TT prog qfi_C.E:=j6
def qo8:List (Pos×Cut):= [([false,true,false,true,true],⟨[0,3],[],false,[],0,false⟩),([false,true,false,true,false,true,false,false,true,false,false,true,false,true,true],⟨[0,3,4,5],[],false,[],0,false⟩),([true,false,false,true,false,true,false,true,false,false,true,false,false,true,false,true,true],⟨[0,3,4,5],[],false,[],0,false⟩)]
def qfi (n:Nat) (x0:List Int) (x1 x2:Nat):Option ((List Int×Unit)×((Nat×Nat)×Unit)):=za7 TT prog qfi_C qo8 f118 (z9 f118) ⟨[],[],[],[],[]⟩ [.slr 3 (.int .i64)] [.row 3 (.int .i64)] [.part 0 1] n ((x0,x1,x2),())
def qfi_sp:GSpec TT:=⟨[.slr 3 (.int .i64)],[.row 3 (.int .i64)],[.part 0 1],fun x=>qfi w7 x.1.1 x.1.2.1 x.1.2.2⟩
def gr9:GOk TT prog 118 qfi_sp:=q8 (C:=qfi_C) (cuts:=qo8) (by kernel_rfl) kw4 func118 (show f118.body=some (z9 f118) by kernel_rfl) (by kernel_rfl) (by kernel_rfl) (by kernel_rfl) fun x y h=>⟨w7,h⟩
def qfj_C:Ctx TT:=⟨k9,[],1,[],q7,k7,k8⟩
def kw5:j9 TT prog qfj_C.E:=j6
def qo9:List (Pos×Cut):= [([false,true,false,true,true],⟨[0,3],[],false,[],0,false⟩),([false,true,false,true,false,true,false,false,true,false,false,true,false,true,true],⟨[0,3,4,5],[],false,[],0,false⟩),([true,false,false,true,false,true,false,true,false,false,true,false,false,true,false,true,true],⟨[0,3,4,5],[],false,[],0,false⟩)]
def qfj (n:Nat) (x0:List Int):Option ((List Int×Unit)×((Nat×Nat)×Unit)):=za7 TT prog qfj_C qo9 f118 (z9 f118) ⟨[],[0],[],[],[]⟩ [.row 3 (.int .i64)] [.row 3 (.int .i64)] [.part 0 1] n (x0,())
def qfj_sp:GSpec TT:=⟨[.row 3 (.int .i64)],[.row 3 (.int .i64)],[.part 0 1],fun x=>qfj w7 x.1⟩
def gs0:GOk TT prog 118 qfj_sp:=q8 (C:=qfj_C) (cuts:=qo9) (by kernel_rfl) kw5 func118 (show f118.body=some (z9 f118) by kernel_rfl) (by kernel_rfl) (by kernel_rfl) (by kernel_rfl) fun x y h=>⟨w7,h⟩
def qdo_C:Ctx TT:=⟨k9,[(62,qck_sp.toCall),(64,qbr_sp.toCall),(117,qfn_sp.toCall (qfm_sp.toCall)),(118,qfj_sp.toCall (qfi_sp.toCall (z8 TT)))],0,[],q7,k7,k8⟩
def kr8:j9 TT prog qdo_C.E:=j8 (j5 kb1) (j8 (j5 qz7) (j8 (z4 gs4 (j5 gs3)) (j8 (z4 gs0 (z4 gr9 (z5 118))) (j6))))
def qk2:List (Pos×Cut):= [([false,true],⟨[0,1,29],[],false,[],0,false⟩),([true,true,true],⟨[0,1,5],[],false,[],0,false⟩)]
def qdo (n:Nat) (x0:List Ins) (x1:Int):Option ((Unit)×((List Int×Nat×Nat)×Unit)):=za7 TT prog qdo_C qk2 f67 (z9 f67) ⟨[(0,3,.int .i64,false)],[],[],[],[]⟩ [.val (.list (.user 2)),.val (.int .i64)] [] [.slr 3 (.int .i64)] n (x0,x1,())
def qdo_sp:GSpec TT:=⟨[.val (.list (.user 2)),.val (.int .i64)],[],[.slr 3 (.int .i64)],fun x=>qdo w7 x.1 x.2.1⟩
def gn1:GOk TT prog 67 qdo_sp:=q8 (C:=qdo_C) (cuts:=qk2) (by kernel_rfl) kr8 func67 (show f67.body=some (z9 f67) by kernel_rfl) (by kernel_rfl) (by kernel_rfl) (by kernel_rfl) fun x y h=>⟨w7,h⟩
def qfe_C:Ctx TT:=⟨k9,[(67,qdo_sp.toCall (z8 TT)),(61,qbc_sp.toCall)],3,[(4,1)],q7,k7,k8⟩
def kw0:j9 TT prog qfe_C.E:=j8 (z4 gn1 (z5 67)) (j8 (j5 jv3) (j6))
def qo4:List (Pos×Cut):= [([false,true,false,true],⟨[0,2,9,10,11],[],false,[],0,false⟩),([true,true,false,false,true,false,true],⟨[0,2,9,10,11],[],false,[],0,false⟩)]
def qfe (n:Nat) (x0:Int) (x1:List Ins) (x2:List Bool):Option (((List Ins×Unit)×(Unit×Unit)×List Bool×Unit)×(Int×Unit)):=za7 TT prog qfe_C qo4 f66 (z9 f66) ⟨[],[],[],[],[]⟩ [.val (.int .i64),.ptr 0 38 [.val (.list (.user 2))],.ptr 0 100 [.row 4 (.bool)]] [.blk 38 [.val (.list (.user 2))],.blk 100 [.own 2],.row 4 (.bool)] [.val (.int .i64)] n (x0,(x1,()),(x2,()),())
def qfe_sp:GSpec TT:=⟨[.val (.int .i64),.ptr 0 38 [.val (.list (.user 2))],.ptr 0 100 [.row 4 (.bool)]],[.blk 38 [.val (.list (.user 2))],.blk 100 [.own 2],.row 4 (.bool)],[.val (.int .i64)],fun x=>qfe w7 x.1 x.2.1.1 x.2.2.1.1⟩
def gr5:GOk TT prog 66 qfe_sp:=q8 (C:=qfe_C) (cuts:=qo4) (by kernel_rfl) kw0 func66 (show f66.body=some (z9 f66) by kernel_rfl) (by kernel_rfl) (by kernel_rfl) (by kernel_rfl) fun x y h=>⟨w7,h⟩
def qff_C:Ctx TT:=⟨k9,[(60,qfb_sp.toCall (z8 TT)),(63,qfc_sp.toCall (z8 TT)),(65,qfd_sp.toCall (z8 TT)),(66,qfe_sp.toCall (z8 TT))],4,[],q7,k7,k8⟩
def kw1:j9 TT prog qff_C.E:=j8 (z4 gr2 (z5 60)) (j8 (z4 gr3 (z5 63)) (j8 (z4 gr4 (z5 65)) (j8 (z4 gr5 (z5 66)) (j6))))
def qo5:List (Pos×Cut):= [([false,true,false,true],⟨[0,4,9,10,11],[],true,[],0,false⟩),([false,true,true,false,false,true,true,false,false,true,false,true],⟨[0,4,6,9,10,11,15,16],[],false,[],0,false⟩)]
def qff (n:Nat) (x0:Int) (x1:List Ins) (x2:List Bool):Option (((((Unit)×(Unit×Unit))×((Unit)×(Unit×Unit))×((Unit)×(Unit×Unit))×((Unit)×(Unit×Unit×Unit))×Unit)×(List Ins×Unit)×(Unit×Unit)×List Bool×Unit)×(Fault×Unit)):=za7 TT prog qff_C qo5 f59 (z9 f59) ⟨[],[],[],[],[]⟩ [.val (.int .i64),.slb 1 4 143 [.fn 60 [] [.ptr 0 38 [.val (.list (.user 2))]],.fn 63 [] [.at_ 1 0],.fn 65 [] [.at_ 1 0],.fn 66 [] [.at_ 1 0,.ptr 0 100 [.row 4 (.bool)]]]] [.blk 143 [.fn 60 [] [.at_ 1 0],.fn 63 [] [.at_ 1 0],.fn 65 [] [.at_ 1 0],.fn 66 [] [.at_ 1 0,.at_ 2 0]],.blk 38 [.val (.list (.user 2))],.blk 100 [.own 3],.row 4 (.bool)] [.val (.user 3)] n (x0,(((),((x1,()),())),((),((),())),((),((),())),((),((),(x2,()),())),()),())
def qff_sp:GSpec TT:=⟨[.val (.int .i64),.slb 1 4 143 [.fn 60 [] [.ptr 0 38 [.val (.list (.user 2))]],.fn 63 [] [.at_ 1 0],.fn 65 [] [.at_ 1 0],.fn 66 [] [.at_ 1 0,.ptr 0 100 [.row 4 (.bool)]]]],[.blk 143 [.fn 60 [] [.at_ 1 0],.fn 63 [] [.at_ 1 0],.fn 65 [] [.at_ 1 0],.fn 66 [] [.at_ 1 0,.at_ 2 0]],.blk 38 [.val (.list (.user 2))],.blk 100 [.own 3],.row 4 (.bool)],[.val (.user 3)],fun x=>qff w7 x.1 x.2.1.1.2.1.1 x.2.1.2.2.2.1.2.2.1.1⟩
def gr6:GOk TT prog 59 qff_sp:=q8 (C:=qff_C) (cuts:=qo5) (by kernel_rfl) kw1 func59 (show f59.body=some (z9 f59) by kernel_rfl) (by kernel_rfl) (by kernel_rfl) (by kernel_rfl) fun x y h=>⟨w7,h⟩
def qfa_C:Ctx TT:=⟨k9,[(59,qff_sp.toCall (z8 TT))],0,[],q7,k7,k8⟩
def kv6:j9 TT prog qfa_C.E:=j8 (z4 gr6 (z5 59)) (j6)
def qo0:List (Pos×Cut):= []
def qfa (n:Nat) (x0:List Ins):Option (Fault):=zg5 TT prog qfa_C qo0 f42 (z9 f42) ⟨[],[]⟩ [.val (.list (.user 2))] [.val (.user 3)] n x0
def qfa_sp:FnSpec TT:=⟨[.val (.list (.user 2))],[.val (.user 3)],fun x=>qfa w7 x⟩
def gr1:zd9 TT prog 42 qfa_sp:=v9 (C:=qfa_C) (by kernel_rfl) kv6 func42 (show f42.body=some (z9 f42) by kernel_rfl) (by kernel_rfl) (by kernel_rfl) (cuts:=qo0) fun x y h=>⟨w7,h⟩
end
end Go.X
