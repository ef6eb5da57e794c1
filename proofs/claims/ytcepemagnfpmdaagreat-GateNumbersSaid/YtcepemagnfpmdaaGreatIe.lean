import Derived.Test.YtcepemagnfpmdaaGreatId
set_option linter.defProp false
namespace Go.X
open Go.RowKit Go.V Go.Proofs Tryz
noncomputable section
def qej_C:Ctx TT:=⟨k9,[],0,[],q7,k7,k8⟩
def kt9:j9 TT prog qej_C.E:=j6
def qm3:List (Pos×Cut):= []
def qej (n:Nat) (x0:Int):Option (Bool):=zg5 TT prog qej_C qm3 f158 (z9 f158) ⟨[],[]⟩ [.val (.int .i64)] [.val (.bool)] n x0
def qej_sp:FnSpec TT:=⟨[.val (.int .i64)],[.val (.bool)],fun x=>qej w7 x⟩
def gp3:zd9 TT prog 158 qej_sp:=v9 (C:=qej_C) (by kernel_rfl) kt9 func158 (show f158.body=some (z9 f158) by kernel_rfl) (by kernel_rfl) (by kernel_rfl) (cuts:=qm3) fun x y h=>⟨w7,h⟩
def qco_C:Ctx TT:=⟨k9,[],0,[],q7,k7,k8⟩
def kp2:j9 TT prog qco_C.E:=j6
def qh6:List (Pos×Cut):= []
def qco (n:Nat) (x0:Int):Option (Bool):=zg5 TT prog qco_C qh6 f160 (z9 f160) ⟨[],[]⟩ [.val (.int .i64)] [.val (.bool)] n x0
def qco_sp:FnSpec TT:=⟨[.val (.int .i64)],[.val (.bool)],fun x=>qco w7 x⟩
def kb5:zd9 TT prog 160 qco_sp:=v9 (C:=qco_C) (by kernel_rfl) kp2 func160 (show f160.body=some (z9 f160) by kernel_rfl) (by kernel_rfl) (by kernel_rfl) (cuts:=qh6) fun x y h=>⟨w7,h⟩
def qeh_C:Ctx TT:=⟨k9,[(160,qco_sp.toCall)],0,[],q7,k7,k8⟩
def kt7:j9 TT prog qeh_C.E:=j8 (j5 kb5) (j6)
def qm1:List (Pos×Cut):= [([false,true,false,true],⟨[2],[],false,[],0,false⟩)]
def qeh (n:Nat) (x0:Ins):Option (Bool):=zg5 TT prog qeh_C qm1 f159 (z9 f159) ⟨[],[]⟩ [.val (.user 2)] [.val (.bool)] n x0
def qeh_sp:FnSpec TT:=⟨[.val (.user 2)],[.val (.bool)],fun x=>qeh w7 x⟩
def gp1:zd9 TT prog 159 qeh_sp:=v9 (C:=qeh_C) (by kernel_rfl) kt7 func159 (show f159.body=some (z9 f159) by kernel_rfl) (by kernel_rfl) (by kernel_rfl) (cuts:=qm1) fun x y h=>⟨w7,h⟩
def qeg_C:Ctx TT:=⟨k9,[],0,[],q7,k7,k8⟩
def kt6:j9 TT prog qeg_C.E:=j6
def qm0:List (Pos×Cut):= []
def qeg (n:Nat) (x0:Ins):Option (Bool):=zg5 TT prog qeg_C qm0 f161 (z9 f161) ⟨[],[]⟩ [.val (.user 2)] [.val (.bool)] n x0
def qeg_sp:FnSpec TT:=⟨[.val (.user 2)],[.val (.bool)],fun x=>qeg w7 x⟩
def gp0:zd9 TT prog 161 qeg_sp:=v9 (C:=qeg_C) (by kernel_rfl) kt6 func161 (show f161.body=some (z9 f161) by kernel_rfl) (by kernel_rfl) (by kernel_rfl) (cuts:=qm0) fun x y h=>⟨w7,h⟩
def qei_C:Ctx TT:=⟨k9,[],0,[],q7,k7,k8⟩
def kt8:j9 TT prog qei_C.E:=j6
def qm2:List (Pos×Cut):= []
def qei (n:Nat) (x0:Ins):Option (Bool):=zg5 TT prog qei_C qm2 f162 (z9 f162) ⟨[],[]⟩ [.val (.user 2)] [.val (.bool)] n x0
def qei_sp:FnSpec TT:=⟨[.val (.user 2)],[.val (.bool)],fun x=>qei w7 x⟩
def gp2:zd9 TT prog 162 qei_sp:=v9 (C:=qei_C) (by kernel_rfl) kt8 func162 (show f162.body=some (z9 f162) by kernel_rfl) (by kernel_rfl) (by kernel_rfl) (cuts:=qm2) fun x y h=>⟨w7,h⟩
def qbw_C:Ctx TT:=⟨k9,[],0,[],q7,k7,k8⟩
def kn4:j9 TT prog qbw_C.E:=j6
def qf9:List (Pos×Cut):= []
def qbw (n:Nat) (x0:Ins):Option (Bool):=zg5 TT prog qbw_C qf9 f163 (z9 f163) ⟨[],[]⟩ [.val (.user 2)] [.val (.bool)] n x0
def qbw_sp:FnSpec TT:=⟨[.val (.user 2)],[.val (.bool)],fun x=>qbw w7 x⟩
def va2:zd9 TT prog 163 qbw_sp:=v9 (C:=qbw_C) (by kernel_rfl) kn4 func163 (show f163.body=some (z9 f163) by kernel_rfl) (by kernel_rfl) (by kernel_rfl) (cuts:=qf9) fun x y h=>⟨w7,h⟩
def qcn_C:Ctx TT:=⟨k9,[(158,qej_sp.toCall),(159,qeh_sp.toCall),(160,qco_sp.toCall),(161,qeg_sp.toCall),(162,qei_sp.toCall),(163,qbw_sp.toCall)],0,[],q7,k7,k8⟩
def kp1:j9 TT prog qcn_C.E:=j8 (j5 gp3) (j8 (j5 gp1) (j8 (j5 kb5) (j8 (j5 gp0) (j8 (j5 gp2) (j8 (j5 va2) (j6))))))
def qh5:List (Pos×Cut):= [([false,false,true],⟨[1,3],[],false,[],0,false⟩)]
def qcn (n:Nat) (x0:Ins):Option (Bool):=zg5 TT prog qcn_C qh5 f104 (z9 f104) ⟨[],[]⟩ [.val (.user 2)] [.val (.bool)] n x0
def qcn_sp:FnSpec TT:=⟨[.val (.user 2)],[.val (.bool)],fun x=>qcn w7 x⟩
def kb4:zd9 TT prog 104 qcn_sp:=v9 (C:=qcn_C) (by kernel_rfl) kp1 func104 (show f104.body=some (z9 f104) by kernel_rfl) (by kernel_rfl) (by kernel_rfl) (cuts:=qh5) fun x y h=>⟨w7,h⟩
def qee_C:Ctx TT:=⟨k9,[(163,qbw_sp.toCall)],0,[],q7,k7,k8⟩
def kt4:j9 TT prog qee_C.E:=j8 (j5 va2) (j6)
def ql8:List (Pos×Cut):= []
def qee (n:Nat) (x0:Ins):Option (Bool):=zg5 TT prog qee_C ql8 f105 (z9 f105) ⟨[],[]⟩ [.val (.user 2)] [.val (.bool)] n x0
def qee_sp:FnSpec TT:=⟨[.val (.user 2)],[.val (.bool)],fun x=>qee w7 x⟩
def go8:zd9 TT prog 105 qee_sp:=v9 (C:=qee_C) (by kernel_rfl) kt4 func105 (show f105.body=some (z9 f105) by kernel_rfl) (by kernel_rfl) (by kernel_rfl) (cuts:=ql8) fun x y h=>⟨w7,h⟩
def qef_C:Ctx TT:=⟨k9,[(104,qcn_sp.toCall),(163,qbw_sp.toCall)],0,[],q7,k7,k8⟩
def kt5:j9 TT prog qef_C.E:=j8 (j5 kb4) (j8 (j5 va2) (j6))
def ql9:List (Pos×Cut):= [([false,true],⟨[0,1,22],[],false,[],0,false⟩),([true,true,true,true,false,false,true,true,true,true],⟨[1,5,6,42],[],false,[],0,false⟩),([true,true,true,true,true,true,false,false,true,true,true,true],⟨[1,6,55],[],false,[],0,false⟩)]
def qef (n:Nat) (x0:List Ins) (x1:Int):Option (List Int):=zg5 TT prog qef_C ql9 f164 (z9 f164) ⟨[],[]⟩ [.val (.list (.user 2)),.val (.int .i64)] [.own 3 (.int .i64)] n (x0,x1)
def qef_sp:FnSpec TT:=⟨[.val (.list (.user 2)),.val (.int .i64)],[.own 3 (.int .i64)],fun x=>qef w7 x.1 x.2⟩
def go9:zd9 TT prog 164 qef_sp:=v9 (C:=qef_C) (by kernel_rfl) kt5 func164 (show f164.body=some (z9 f164) by kernel_rfl) (by kernel_rfl) (by kernel_rfl) (cuts:=ql9) fun x y h=>⟨w7,h⟩
def qek_C:Ctx TT:=⟨k9,[(164,qef_sp.toCall)],0,[],q7,k7,k8⟩
def ku0:j9 TT prog qek_C.E:=j8 (j5 go9) (j6)
def qm4:List (Pos×Cut):= [([false,true,false,true,true,true],⟨[0,3,4],[],false,[],0,false⟩),([false,true,true,false,true,false,false,true,false,true,true,true],⟨[0,3,4,5],[],false,[],0,false⟩),([true,false,false,true,true,false,true,false,false,true,false,true,true,true],⟨[0,3,4,5],[],false,[],0,false⟩),([false,true,true,true,false,false,true,false,false,true,true,false,true,false,false,true,false,true,true,true],⟨[0,3,4,5,6,7],[],false,[],0,false⟩),([true,false,false,true,true,true,false,false,true,false,false,true,true,false,true,false,false,true,false,true,true,true],⟨[0,3,4,5,6,7],[],false,[],0,false⟩)]
def qek (n:Nat) (x0:List Ins):Option (List Bool):=zg5 TT prog qek_C qm4 f106 (z9 f106) ⟨[],[]⟩ [.val (.list (.user 2))] [.own 4 (.bool)] n x0
def qek_sp:FnSpec TT:=⟨[.val (.list (.user 2))],[.own 4 (.bool)],fun x=>qek w7 x⟩
def gp4:zd9 TT prog 106 qek_sp:=v9 (C:=qek_C) (by kernel_rfl) ku0 func106 (show f106.body=some (z9 f106) by kernel_rfl) (by kernel_rfl) (by kernel_rfl) (cuts:=qm4) fun x y h=>⟨w7,h⟩
def qcp_C:Ctx TT:=⟨k9,[(104,qcn_sp.toCall),(105,qee_sp.toCall),(106,qek_sp.toCall)],0,[],q7,k7,k8⟩
def kp3:j9 TT prog qcp_C.E:=j8 (j5 kb4) (j8 (j5 go8) (j8 (j5 gp4) (j6)))
def qh7:List (Pos×Cut):= [([false,true,false,true,true,true],⟨[0,2,3],[],false,[],0,false⟩),([false,true,false,true,true,true,true],⟨[0,2,4],[],false,[],0,false⟩),([false,false,false,true,false,false,true,false,true,true,true,true],⟨[0,2,4,48],[],false,[],0,false⟩),([true,false,false,true,false,false,true,false,true,true,true,true],⟨[0,2,4,68],[],false,[],0,false⟩),([false,true,true,true,true,true,true],⟨[0,2,5,87],[],false,[],0,false⟩),([false,true,false,true,true,true,true,true,true,true,true],⟨[0,2,6,7],[],false,[],0,false⟩)]
def qcp (n:Nat) (x0:List Ins):Option (Fault):=zg5 TT prog qcp_C qh7 f56 (z9 f56) ⟨[],[]⟩ [.val (.list (.user 2))] [.val (.user 3)] n x0
def qcp_sp:FnSpec TT:=⟨[.val (.list (.user 2))],[.val (.user 3)],fun x=>qcp w7 x⟩
def kb6:zd9 TT prog 56 qcp_sp:=v9 (C:=qcp_C) (by kernel_rfl) kp3 func56 (show f56.body=some (z9 f56) by kernel_rfl) (by kernel_rfl) (by kernel_rfl) (cuts:=qh7) fun x y h=>⟨w7,h⟩
def qew_C:Ctx TT:=⟨k9,[],0,[(1,1)],q7,k7,k8⟩
def kv2:j9 TT prog qew_C.E:=j6
def qn6:List (Pos×Cut):= []
def qew (n:Nat):Option ((Unit)×((Bool×List Known×List Bool×Int×Unit)×Unit)):=za7 TT prog qew_C qn6 f101 (z9 f101) ⟨[],[],[],[],[]⟩ [] [] [.agg [.val (.bool),.row 149 (.user 1),.row 4 (.bool),.val (.int .i64)]] n ()
def qew_sp:GSpec TT:=⟨[],[],[.agg [.val (.bool),.row 149 (.user 1),.row 4 (.bool),.val (.int .i64)]],fun _=>qew w7⟩
def gq6:GOk TT prog 101 qew_sp:=q8 (C:=qew_C) (cuts:=qn6) (by kernel_rfl) kv2 func101 (show f101.body=some (z9 f101) by kernel_rfl) (by kernel_rfl) (by kernel_rfl) (by kernel_rfl) fun x y h=>⟨w7,h⟩
def qbx_C:Ctx TT:=⟨k9,[],2,[(1,1)],q7,k7,k8⟩
def kn5:j9 TT prog qbx_C.E:=j6
def qg0:List (Pos×Cut):= []
def qbx (n:Nat) (x0:Bool) (x1:List Known) (x2:List Bool) (x3:Int):Option ((List Known×List Bool×Unit)×((Bool×List Known×List Bool×Int×Unit)×Unit)):=za7 TT prog qbx_C qg0 f150 (z9 f150) ⟨[],[],[],[],[]⟩ [.agg [.val (.bool),.row 149 (.user 1),.row 4 (.bool),.val (.int .i64)]] [.row 149 (.user 1),.row 4 (.bool)] [.agg [.val (.bool),.row 149 (.user 1),.row 4 (.bool),.val (.int .i64)]] n ((x0,x1,x2,x3,()),())
def qbx_sp:GSpec TT:=⟨[.agg [.val (.bool),.row 149 (.user 1),.row 4 (.bool),.val (.int .i64)]],[.row 149 (.user 1),.row 4 (.bool)],[.agg [.val (.bool),.row 149 (.user 1),.row 4 (.bool),.val (.int .i64)]],fun x=>qbx w7 x.1.1 x.1.2.1 x.1.2.2.1 x.1.2.2.2.1⟩
def va3:GOk TT prog 150 qbx_sp:=q8 (C:=qbx_C) (cuts:=qg0) (by kernel_rfl) kn5 func150 (show f150.body=some (z9 f150) by kernel_rfl) (by kernel_rfl) (by kernel_rfl) (by kernel_rfl) fun x y h=>⟨w7,h⟩
def qez_C:Ctx TT:=⟨k9,[],0,[],q7,k7,k8⟩
def kv5:j9 TT prog qez_C.E:=j6
def qn9:List (Pos×Cut):= []
def qez (n:Nat) (x0:Ins) (x1:Place):Option (Known):=zg5 TT prog qez_C qn9 f151 (z9 f151) ⟨[],[]⟩ [.val (.user 2),.val (.user 4)] [.val (.user 1)] n (x0,x1)
def qez_sp:FnSpec TT:=⟨[.val (.user 2),.val (.user 4)],[.val (.user 1)],fun x=>qez w7 x.1 x.2⟩
def gq9:zd9 TT prog 151 qez_sp:=v9 (C:=qez_C) (by kernel_rfl) kv5 func151 (show f151.body=some (z9 f151) by kernel_rfl) (by kernel_rfl) (by kernel_rfl) (cuts:=qn9) fun x y h=>⟨w7,h⟩
def qep_C:Ctx TT:=⟨k9,[],0,[],q7,k7,k8⟩
def ku5:j9 TT prog qep_C.E:=j6
def qm9:List (Pos×Cut):= []
def qep (n:Nat) (x0:Span):Option (Bool):=zg5 TT prog qep_C qm9 f282 (z9 f282) ⟨[],[]⟩ [.val (.user 0)] [.val (.bool)] n x0
def qep_sp:FnSpec TT:=⟨[.val (.user 0)],[.val (.bool)],fun x=>qep w7 x⟩
def gp9:zd9 TT prog 282 qep_sp:=v9 (C:=qep_C) (by kernel_rfl) ku5 func282 (show f282.body=some (z9 f282) by kernel_rfl) (by kernel_rfl) (by kernel_rfl) (cuts:=qm9) fun x y h=>⟨w7,h⟩
def qes_C:Ctx TT:=⟨k9,[(282,qep_sp.toCall)],0,[],q7,k7,k8⟩
def ku8:j9 TT prog qes_C.E:=j8 (j5 gp9) (j6)
def qn2:List (Pos×Cut):= [([false,true,false,true],⟨[1,4,5],[],false,[],0,false⟩),([true,true,false,true,false,true],⟨[1,4,12],[],false,[],0,false⟩)]
def qes (n:Nat) (x0:Known):Option (Bool):=zg5 TT prog qes_C qn2 f212 (z9 f212) ⟨[],[]⟩ [.val (.user 1)] [.val (.bool)] n x0
def qes_sp:FnSpec TT:=⟨[.val (.user 1)],[.val (.bool)],fun x=>qes w7 x⟩
def gq2:zd9 TT prog 212 qes_sp:=v9 (C:=qes_C) (by kernel_rfl) ku8 func212 (show f212.body=some (z9 f212) by kernel_rfl) (by kernel_rfl) (by kernel_rfl) (cuts:=qn2) fun x y h=>⟨w7,h⟩
def qer_C:Ctx TT:=⟨k9,[],0,[(3,1)],q7,k7,k8⟩
def ku7:j9 TT prog qer_C.E:=j6
def qn1:List (Pos×Cut):= []
def qer (n:Nat) (x0:Known):Option (Span×Bool):=zg5 TT prog qer_C qn1 f213 (z9 f213) ⟨[],[]⟩ [.val (.user 1)] [.val (.user 0),.val (.bool)] n x0
def qer_sp:FnSpec TT:=⟨[.val (.user 1)],[.val (.user 0),.val (.bool)],fun x=>qer w7 x⟩
def gq1:zd9 TT prog 213 qer_sp:=v9 (C:=qer_C) (by kernel_rfl) ku7 func213 (show f213.body=some (z9 f213) by kernel_rfl) (by kernel_rfl) (by kernel_rfl) (cuts:=qn1) fun x y h=>⟨w7,h⟩
def qeq_C:Ctx TT:=⟨k9,[(212,qes_sp.toCall),(213,qer_sp.toCall)],0,[(21,1)],q7,k7,k8⟩
def ku6:j9 TT prog qeq_C.E:=j8 (j5 gq2) (j8 (j5 gq1) (j6))
def qn0:List (Pos×Cut):= [([false,true],⟨[0,1,6,7,8,29],[],false,[],0,false⟩),([false,true,true],⟨[0,1,6,7,8,46],[],false,[],0,false⟩),([true,true,true,true,true],⟨[0,1,6,8,10,11,12,13],[],false,[],0,false⟩),([true,true,true,true,true,true],⟨[0,1,6,8,10,11,12,13],[],false,[],0,false⟩),([false,true,true,true,true,true,true,true],⟨[0,1,6,8,10,11,12,13,72],[],false,[],0,false⟩),([false,false,true,false,true,true,true,true,true,true,true],⟨[0,1,8,10,12,91],[],false,[],0,false⟩),([false,true,true,true,true,true,true,true,true],⟨[0,6,8,12,126],[],false,[],0,false⟩)]
def qeq (n:Nat) (x0:Int) (x1:Bool) (x2 x3:Known):Option (Known×Int):=zg5 TT prog qeq_C qn0 f152 (z9 f152) ⟨[],[]⟩ [.val (.int .u8),.val (.bool),.val (.user 1),.val (.user 1)] [.val (.user 1),.val (.int .i64)] n (x0,x1,x2,x3)
def qeq_sp:FnSpec TT:=⟨[.val (.int .u8),.val (.bool),.val (.user 1),.val (.user 1)],[.val (.user 1),.val (.int .i64)],fun x=>qeq w7 x.1 x.2.1 x.2.2.1 x.2.2.2⟩
def gq0:zd9 TT prog 152 qeq_sp:=v9 (C:=qeq_C) (by kernel_rfl) ku6 func152 (show f152.body=some (z9 f152) by kernel_rfl) (by kernel_rfl) (by kernel_rfl) (cuts:=qn0) fun x y h=>⟨w7,h⟩
def qey_C:Ctx TT:=⟨k9,[],0,[(3,1)],q7,k7,k8⟩
def kv4:j9 TT prog qey_C.E:=j6
def qn8:List (Pos×Cut):= []
def qey (n:Nat) (x0:Known) (x1:Place):Option (Span×Bool):=zg5 TT prog qey_C qn8 f155 (z9 f155) ⟨[],[]⟩ [.val (.user 1),.val (.user 4)] [.val (.user 0),.val (.bool)] n (x0,x1)
def qey_sp:FnSpec TT:=⟨[.val (.user 1),.val (.user 4)],[.val (.user 0),.val (.bool)],fun x=>qey w7 x.1 x.2⟩
def gq8:zd9 TT prog 155 qey_sp:=v9 (C:=qey_C) (by kernel_rfl) kv4 func155 (show f155.body=some (z9 f155) by kernel_rfl) (by kernel_rfl) (by kernel_rfl) (cuts:=qn8) fun x y h=>⟨w7,h⟩
def qex_C:Ctx TT:=⟨k9,[(150,qbx_sp.toCall (z8 TT)),(151,qez_sp.toCall),(152,qeq_sp.toCall),(155,qey_sp.toCall)],2,[(7,1),(9,1),(11,1),(26,1),(28,1),(30,1),(32,1),(33,1),(34,1),(38,1),(40,1),(41,1)],q7,k7,k8⟩
def kv3:j9 TT prog qex_C.E:=j8 (z4 va3 (z5 150)) (j8 (j5 gq9) (j8 (j5 gq0) (j8 (j5 gq8) (j6))))
def qn7:List (Pos×Cut):= []
def qex (n:Nat) (x0:Ins) (x1:Bool) (x2:List Known) (x3:List Bool) (x4:Int):Option ((List Known×List Bool×Unit)×(Place×Place×Int×Unit)):=za7 TT prog qex_C qn7 f102 (z9 f102) ⟨[],[],[],[(0,.user 4),(1,.user 4)],[]⟩ [.val (.user 2),.agg [.val (.bool),.row 149 (.user 1),.row 4 (.bool),.val (.int .i64)]] [.row 149 (.user 1),.row 4 (.bool)] [.val (.user 4),.val (.user 4),.val (.int .i64)] n (x0,(x1,x2,x3,x4,()),())
def qex_sp:GSpec TT:=⟨[.val (.user 2),.agg [.val (.bool),.row 149 (.user 1),.row 4 (.bool),.val (.int .i64)]],[.row 149 (.user 1),.row 4 (.bool)],[.val (.user 4),.val (.user 4),.val (.int .i64)],fun x=>qex w7 x.1 x.2.1.1 x.2.1.2.1 x.2.1.2.2.1 x.2.1.2.2.2.1⟩
def gq7:GOk TT prog 102 qex_sp:=q8 (C:=qex_C) (cuts:=qn7) (by kernel_rfl) kv3 func102 (show f102.body=some (z9 f102) by kernel_rfl) (by kernel_rfl) (by kernel_rfl) (by kernel_rfl) fun x y h=>⟨w7,h⟩
def qcr_C:Ctx TT:=⟨k9,[],0,[(1,1)],q7,k7,k8⟩
def kp5:j9 TT prog qcr_C.E:=j6
def qh9:List (Pos×Cut):= []
def qcr (n:Nat) (x0:Place):Option ((Unit)×((Bool×List Known×List Bool×Int×Unit)×Unit)):=za7 TT prog qcr_C qh9 f150 (z9 f150) ⟨[],[],[],[],[]⟩ [.val (.user 4)] [] [.agg [.val (.bool),.row 149 (.user 1),.row 4 (.bool),.val (.int .i64)]] n (x0,())
def qcr_sp:GSpec TT:=⟨[.val (.user 4)],[],[.agg [.val (.bool),.row 149 (.user 1),.row 4 (.bool),.val (.int .i64)]],fun x=>qcr w7 x.1⟩
def kb8:GOk TT prog 150 qcr_sp:=q8 (C:=qcr_C) (cuts:=qh9) (by kernel_rfl) kp5 func150 (show f150.body=some (z9 f150) by kernel_rfl) (by kernel_rfl) (by kernel_rfl) (by kernel_rfl) fun x y h=>⟨w7,h⟩
def qet_C:Ctx TT:=⟨k9,[(150,qcr_sp.toCall (qbx_sp.toCall (z8 TT)))],0,[(9,1),(13,1)],q7,k7,k8⟩
def ku9:j9 TT prog qet_C.E:=j8 (z4 kb8 (z4 va3 (z5 150))) (j6)
def qn3:List (Pos×Cut):= [([false,true,false,true,true,true,true],⟨[2,3,4,5,6],[],false,[(2,1,149,.user 1),(2,2,4,.bool)],0,false⟩),([false,true,false,true,true,true,true,true],⟨[2,3,4,5,7],[],false,[],0,false⟩),([true,false,false,true,false,true,true,true,true,true],⟨[2,3,4,5,7],[],false,[],0,false⟩)]
def qet (n:Nat) (x0 x1:Place):Option (Place):=zg5 TT prog qet_C qn3 f103 (z9 f103) ⟨[],[(0,.user 4)]⟩ [.val (.user 4),.val (.user 4)] [.val (.user 4)] n (x0,x1)
def qet_sp:FnSpec TT:=⟨[.val (.user 4),.val (.user 4)],[.val (.user 4)],fun x=>qet w7 x.1 x.2⟩
def gq3:zd9 TT prog 103 qet_sp:=v9 (C:=qet_C) (by kernel_rfl) ku9 func103 (show f103.body=some (z9 f103) by kernel_rfl) (by kernel_rfl) (by kernel_rfl) (cuts:=qn3) fun x y h=>⟨w7,h⟩
def qeu_C:Ctx TT:=⟨k9,[(150,qcr_sp.toCall (qbx_sp.toCall (z8 TT)))],2,[(9,1),(13,1)],q7,k7,k8⟩
def kv0:j9 TT prog qeu_C.E:=j8 (z4 kb8 (z4 va3 (z5 150))) (j6)
def qn4:List (Pos×Cut):= [([false,true,false,true,true,true,true],⟨[2,3,4,5,6],[],false,[(4,1,149,.user 1),(4,2,4,.bool)],0,false⟩),([false,true,false,true,true,true,true,true],⟨[2,3,4,5,7],[],false,[],0,false⟩),([true,false,false,true,false,true,true,true,true,true],⟨[2,3,4,5,7],[],false,[],0,false⟩)]
def qeu (n:Nat) (x0:Bool) (x1:List Known) (x2:List Bool) (x3:Int) (x4:Place):Option ((List Known×List Bool×Unit)×((Bool×List Known×List Bool×Int×Unit)×Unit)):=za7 TT prog qeu_C qn4 f103 (z9 f103) ⟨[],[],[],[],[]⟩ [.agg [.val (.bool),.row 149 (.user 1),.row 4 (.bool),.val (.int .i64)],.val (.user 4)] [.row 149 (.user 1),.row 4 (.bool)] [.agg [.val (.bool),.row 149 (.user 1),.row 4 (.bool),.val (.int .i64)]] n ((x0,x1,x2,x3,()),x4,())
def qeu_sp:GSpec TT:=⟨[.agg [.val (.bool),.row 149 (.user 1),.row 4 (.bool),.val (.int .i64)],.val (.user 4)],[.row 149 (.user 1),.row 4 (.bool)],[.agg [.val (.bool),.row 149 (.user 1),.row 4 (.bool),.val (.int .i64)]],fun x=>qeu w7 x.1.1 x.1.2.1 x.1.2.2.1 x.1.2.2.2.1 x.2.1⟩
def gq4:GOk TT prog 103 qeu_sp:=q8 (C:=qeu_C) (cuts:=qn4) (by kernel_rfl) kv0 func103 (show f103.body=some (z9 f103) by kernel_rfl) (by kernel_rfl) (by kernel_rfl) (by kernel_rfl) fun x y h=>⟨w7,h⟩
def qev_C:Ctx TT:=⟨k9,[(56,qcp_sp.toCall),(101,qew_sp.toCall (z8 TT)),(102,qex_sp.toCall (z8 TT)),(103,qeu_sp.toCall (qet_sp.toCall))],0,[(3,1),(10,1),(14,1),(16,1)],q7,k7,k8⟩
def kv1:j9 TT prog qev_C.E:=j8 (j5 kb6) (j8 (z4 gq6 (z5 101)) (j8 (z4 gq7 (z5 102)) (j8 (z4 gq4 (j5 gq3)) (j6))))
def qn5:List (Pos×Cut):= [([false,true,false,true,true,true,true,true],⟨[0,3,5,6],[],false,[],1,false⟩),([true,false,false,true,false,true,true,true,true,true],⟨[0,3,5,6],[],false,[],1,false⟩),([true,true,true,false,false,true,false,false,true,false,true,true,true,true,true],⟨[0,3,5,6,8],[],false,[],1,false⟩),([true,true,true,true,true],⟨[],[],false,[],2,true⟩),([true,true,false,false,true,false,false,true,false,true,true,true,true,true],⟨[],[],false,[],1,true⟩)]
def qev (n:Nat) (x0:List Ins):Option (List Place×Fault):=zg5 TT prog qev_C qn5 f55 (z9 f55) ⟨[],[]⟩ [.val (.list (.user 2))] [.own 102 (.user 4),.val (.user 3)] n x0
def qev_sp:FnSpec TT:=⟨[.val (.list (.user 2))],[.own 102 (.user 4),.val (.user 3)],fun x=>qev w7 x⟩
def gq5:zd9 TT prog 55 qev_sp:=v9 (C:=qev_C) (by kernel_rfl) kv1 func55 (show f55.body=some (z9 f55) by kernel_rfl) (by kernel_rfl) (by kernel_rfl) (cuts:=qn5) fun x y h=>⟨w7,h⟩
def qap_C:Ctx TT:=⟨k9,[(55,qev_sp.toCall)],0,[],q7,k7,k8⟩
def kk0:j9 TT prog qap_C.E:=j8 (j5 gq5) (j6)
def qc7:List (Pos×Cut):= []
def qap (n:Nat) (x0:List Ins):Option (Fault):=zg5 TT prog qap_C qc7 f38 (z9 f38) ⟨[],[]⟩ [.val (.list (.user 2))] [.val (.user 3)] n x0
def qap_sp:FnSpec TT:=⟨[.val (.list (.user 2))],[.val (.user 3)],fun x=>qap w7 x⟩
def gh0:zd9 TT prog 38 qap_sp:=v9 (C:=qap_C) (by kernel_rfl) kk0 func38 (show f38.body=some (z9 f38) by kernel_rfl) (by kernel_rfl) (by kernel_rfl) (cuts:=qc7) fun x y h=>⟨w7,h⟩
def qeo_C:Ctx TT:=⟨k9,[],1,[(1,1)],q7,k7,k8⟩
def ku4:j9 TT prog qeo_C.E:=j6
def qm8:List (Pos×Cut):= []
def qeo (n:Nat) (x0:List Int):Option ((List Int×Unit)×((List RVal×List Int×List Bool×Unit×Unit)×Unit)):=za7 TT prog qeo_C qm8 f57 (z9 f57) ⟨[],[],[],[],[]⟩ [.row 5 (.int .u8)] [.row 5 (.int .u8)] [.ptr 0 139 [.row 136 (.user 7),.row 5 (.int .u8),.row 4 (.bool),.own 0]] n (x0,())
def qeo_sp:GSpec TT:=⟨[.row 5 (.int .u8)],[.row 5 (.int .u8)],[.ptr 0 139 [.row 136 (.user 7),.row 5 (.int .u8),.row 4 (.bool),.own 0]],fun x=>qeo w7 x.1⟩
def gp8:GOk TT prog 57 qeo_sp:=q8 (C:=qeo_C) (cuts:=qm8) (by kernel_rfl) ku4 func57 (show f57.body=some (z9 f57) by kernel_rfl) (by kernel_rfl) (by kernel_rfl) (by kernel_rfl) fun x y h=>⟨w7,h⟩
def qed_C:Ctx TT:=⟨k9,[],0,[],q7,k7,k8⟩
def kt3:j9 TT prog qed_C.E:=j6
def ql7:List (Pos×Cut):= []
def qed (n:Nat) (x0:Int):Option (Int):=zg5 TT prog qed_C ql7 f220 (z9 f220) ⟨[],[]⟩ [.val (.int .i64)] [.val (.int .u64)] n x0
def qed_sp:FnSpec TT:=⟨[.val (.int .i64)],[.val (.int .u64)],fun x=>qed w7 x⟩
def go7:zd9 TT prog 220 qed_sp:=v9 (C:=qed_C) (by kernel_rfl) kt3 func220 (show f220.body=some (z9 f220) by kernel_rfl) (by kernel_rfl) (by kernel_rfl) (cuts:=ql7) fun x y h=>⟨w7,h⟩
def qcq_C:Ctx TT:=⟨k9,[],5,[],q7,k7,k8⟩
def kp4:j9 TT prog qcq_C.E:=j6
def qh8:List (Pos×Cut):= []
def qcq (n:Nat) (x0:List RVal) (x1:List Int) (x2:List Bool) (x3:List Int) (x4:Int):Option (((Unit×Unit×Unit×Unit×Unit)×List RVal×List Int×List Bool×List Int×Unit)×(RVal×Int×Unit)):=za7 TT prog qcq_C qh8 f108 (z9 f108) ⟨[],[],[],[],[]⟩ [.ptr 0 139 [.row 136 (.user 7),.row 5 (.int .u8),.row 4 (.bool),.row 5 (.int .u8)],.val (.int .i64)] [.blk 139 [.own 1,.own 2,.own 3,.own 4],.row 136 (.user 7),.row 5 (.int .u8),.row 4 (.bool),.row 5 (.int .u8)] [.val (.user 7),.val (.int .i64)] n ((x0,x1,x2,x3,()),x4,())
def qcq_sp:GSpec TT:=⟨[.ptr 0 139 [.row 136 (.user 7),.row 5 (.int .u8),.row 4 (.bool),.row 5 (.int .u8)],.val (.int .i64)],[.blk 139 [.own 1,.own 2,.own 3,.own 4],.row 136 (.user 7),.row 5 (.int .u8),.row 4 (.bool),.row 5 (.int .u8)],[.val (.user 7),.val (.int .i64)],fun x=>qcq w7 x.1.1 x.1.2.1 x.1.2.2.1 x.1.2.2.2.1 x.2.1⟩
def kb7:GOk TT prog 108 qcq_sp:=q8 (C:=qcq_C) (cuts:=qh8) (by kernel_rfl) kp4 func108 (show f108.body=some (z9 f108) by kernel_rfl) (by kernel_rfl) (by kernel_rfl) (by kernel_rfl) fun x y h=>⟨w7,h⟩
def qen_C:Ctx TT:=⟨k9,[(220,qed_sp.toCall),(108,qcq_sp.toCall (z8 TT))],5,[],q7,k7,k8⟩
def ku3:j9 TT prog qen_C.E:=j8 (j5 go7) (j8 (z4 kb7 (z5 108)) (j6))
def qm7:List (Pos×Cut):= []
def qen (n:Nat) (x0:List RVal) (x1:List Int) (x2:List Bool) (x3:List Int) (x4:Ins):Option (((Unit×Unit×Unit×Unit×Unit)×List RVal×List Int×List Bool×List Int×Unit)×(RVal×Int×Unit)):=za7 TT prog qen_C qm7 f165 (z9 f165) ⟨[],[],[],[],[]⟩ [.ptr 0 139 [.row 136 (.user 7),.row 5 (.int .u8),.row 4 (.bool),.row 5 (.int .u8)],.val (.user 2)] [.blk 139 [.own 1,.own 2,.own 3,.own 4],.row 136 (.user 7),.row 5 (.int .u8),.row 4 (.bool),.row 5 (.int .u8)] [.val (.user 7),.val (.int .i64)] n ((x0,x1,x2,x3,()),x4,())
def qen_sp:GSpec TT:=⟨[.ptr 0 139 [.row 136 (.user 7),.row 5 (.int .u8),.row 4 (.bool),.row 5 (.int .u8)],.val (.user 2)],[.blk 139 [.own 1,.own 2,.own 3,.own 4],.row 136 (.user 7),.row 5 (.int .u8),.row 4 (.bool),.row 5 (.int .u8)],[.val (.user 7),.val (.int .i64)],fun x=>qen w7 x.1.1 x.1.2.1 x.1.2.2.1 x.1.2.2.2.1 x.2.1⟩
def gp7:GOk TT prog 165 qen_sp:=q8 (C:=qen_C) (cuts:=qm7) (by kernel_rfl) ku3 func165 (show f165.body=some (z9 f165) by kernel_rfl) (by kernel_rfl) (by kernel_rfl) (by kernel_rfl) fun x y h=>⟨w7,h⟩
def qem_C:Ctx TT:=⟨k9,[(165,qen_sp.toCall (z8 TT))],5,[(8,1)],q7,k7,k8⟩
def ku2:j9 TT prog qem_C.E:=j8 (z4 gp7 (z5 165)) (j6)
def qm6:List (Pos×Cut):= [([false,true,true,true],⟨[0,3,5,22],[],false,[],0,false⟩),([true,true,true,true],⟨[0,3,5],[],false,[],0,false⟩)]
def qem (n:Nat) (x0:List RVal) (x1:List Int) (x2:List Bool) (x3:List Int) (x4:Ins):Option (((Unit×Unit×Unit×Unit×Unit)×List RVal×List Int×List Bool×List Int×Unit)×(Int×Unit)):=za7 TT prog qem_C qm6 f107 (z9 f107) ⟨[],[],[],[],[]⟩ [.ptr 0 139 [.row 136 (.user 7),.row 5 (.int .u8),.row 4 (.bool),.row 5 (.int .u8)],.val (.user 2)] [.blk 139 [.own 1,.own 2,.own 3,.own 4],.row 136 (.user 7),.row 5 (.int .u8),.row 4 (.bool),.row 5 (.int .u8)] [.val (.int .i64)] n ((x0,x1,x2,x3,()),x4,())
def qem_sp:GSpec TT:=⟨[.ptr 0 139 [.row 136 (.user 7),.row 5 (.int .u8),.row 4 (.bool),.row 5 (.int .u8)],.val (.user 2)],[.blk 139 [.own 1,.own 2,.own 3,.own 4],.row 136 (.user 7),.row 5 (.int .u8),.row 4 (.bool),.row 5 (.int .u8)],[.val (.int .i64)],fun x=>qem w7 x.1.1 x.1.2.1 x.1.2.2.1 x.1.2.2.2.1 x.2.1⟩
def gp6:GOk TT prog 107 qem_sp:=q8 (C:=qem_C) (cuts:=qm6) (by kernel_rfl) ku2 func107 (show f107.body=some (z9 f107) by kernel_rfl) (by kernel_rfl) (by kernel_rfl) (by kernel_rfl) fun x y h=>⟨w7,h⟩
def qel_C:Ctx TT:=⟨k9,[(107,qem_sp.toCall (z8 TT)),(108,qcq_sp.toCall (z8 TT))],5,[],q7,k7,k8⟩
def ku1:j9 TT prog qel_C.E:=j8 (z4 gp6 (z5 107)) (j8 (z4 kb7 (z5 108)) (j6))
def qm5:List (Pos×Cut):= [([true,false,true,true,true,false,false,true],⟨[0,3,7,8],[],false,[],0,false⟩),([false,true,false,true,true,true,false,false,true],⟨[0,3,7,8,39],[],false,[],0,false⟩),([true,true,false,true,true,true,false,false,true],⟨[8],[],false,[],0,false⟩),([true,false,true,true,true,true,true,true,true,true,true,true,true,true,true,false,false,true],⟨[12],[],false,[],0,false⟩),([false,true,false,true,true,true,true,true,true,true,true,true,true,true,true,true,false,false,true],⟨[12,104],[],false,[],0,false⟩)]
def qel (n:Nat) (x0:List RVal) (x1:List Int) (x2:List Bool) (x3:List Int) (x4:Ins):Option (((Unit×Unit×Unit×Unit×Unit)×List RVal×List Int×List Bool×List Int×Unit)×(Int×Bool×Int×Unit)):=za7 TT prog qel_C qm5 f58 (z9 f58) ⟨[],[],[],[],[]⟩ [.ptr 0 139 [.row 136 (.user 7),.row 5 (.int .u8),.row 4 (.bool),.row 5 (.int .u8)],.val (.user 2)] [.blk 139 [.own 1,.own 2,.own 3,.own 4],.row 136 (.user 7),.row 5 (.int .u8),.row 4 (.bool),.row 5 (.int .u8)] [.val (.int .i64),.val (.bool),.val (.int .i64)] n ((x0,x1,x2,x3,()),x4,())
def qel_sp:GSpec TT:=⟨[.ptr 0 139 [.row 136 (.user 7),.row 5 (.int .u8),.row 4 (.bool),.row 5 (.int .u8)],.val (.user 2)],[.blk 139 [.own 1,.own 2,.own 3,.own 4],.row 136 (.user 7),.row 5 (.int .u8),.row 4 (.bool),.row 5 (.int .u8)],[.val (.int .i64),.val (.bool),.val (.int .i64)],fun x=>qel w7 x.1.1 x.1.2.1 x.1.2.2.1 x.1.2.2.2.1 x.2.1⟩
def gp5:GOk TT prog 58 qel_sp:=q8 (C:=qel_C) (cuts:=qm5) (by kernel_rfl) ku1 func58 (show f58.body=some (z9 f58) by kernel_rfl) (by kernel_rfl) (by kernel_rfl) (by kernel_rfl) fun x y h=>⟨w7,h⟩
def qao_C:Ctx TT:=⟨k9,[(56,qcp_sp.toCall),(57,qeo_sp.toCall (z8 TT)),(58,qel_sp.toCall (z8 TT))],0,[],q7,k7,k8⟩
def kj9:j9 TT prog qao_C.E:=j8 (j5 kb6) (j8 (z4 gp8 (z5 57)) (j8 (z4 gp5 (z5 58)) (j6)))
def qc6:List (Pos×Cut):= [([false,true,true,true,true,true,true,true],⟨[0,4,6,7,8],[],false,[],0,false⟩)]
def qao (n:Nat) (x0:List Ins) (x1:List Int):Option (Outcome):=zg5 TT prog qao_C qc6 f41 (z9 f41) ⟨[],[]⟩ [.val (.list (.user 2)),.val (.list (.int .u8))] [.val (.user 6)] n (x0,x1)
def qao_sp:FnSpec TT:=⟨[.val (.list (.user 2)),.val (.list (.int .u8))],[.val (.user 6)],fun x=>qao w7 x.1 x.2⟩
def gg7:zd9 TT prog 41 qao_sp:=v9 (C:=qao_C) (by kernel_rfl) kj9 func41 (show f41.body=some (z9 f41) by kernel_rfl) (by kernel_rfl) (by kernel_rfl) (cuts:=qc6) fun x y h=>⟨w7,h⟩
end
end Go.X
