import Derived.Test.YtcepemagnfpmdaaGreatVc
set_option linter.defProp false
namespace Go.X
open Go.RowKit Go.V Go.Proofs Tryz
noncomputable section
def qcm_C:Ctx TT:=⟨k9,[],0,[],q7,k7,k8⟩
def kp0:j9 TT prog qcm_C.E:=j6
def qh4:List (Pos×Cut):= []
def qcm (n:Nat) (x0 x1:Int):Option (Int):=zg5 TT prog qcm_C qh4 f54 (z9 f54) ⟨[],[]⟩ [.val (.int .i64),.val (.int .i64)] [.val (.int .i64)] n (x0,x1)
def qcm_sp:FnSpec TT:=⟨[.val (.int .i64),.val (.int .i64)],[.val (.int .i64)],fun x=>qcm w7 x.1 x.2⟩
def kb3:zd9 TT prog 54 qcm_sp:=v9 (C:=qcm_C) (by kernel_rfl) kp0 func54 (show f54.body=some (z9 f54) by kernel_rfl) (by kernel_rfl) (by kernel_rfl) (cuts:=qh4) fun x y h=>⟨w7,h⟩
def qbu_C:Ctx TT:=⟨k9,[(54,qcm_sp.toCall)],0,[],q7,k7,k8⟩
def kn1:j9 TT prog qbu_C.E:=j8 (j5 kb3) (j6)
def qf7:List (Pos×Cut):= []
def qbu (n:Nat) (x0 x1:Int):Option (Ins):=zg5 TT prog qbu_C qf7 f37 (z9 f37) ⟨[],[]⟩ [.val (.int .i64),.val (.int .i64)] [.val (.user 2)] n (x0,x1)
def qbu_sp:FnSpec TT:=⟨[.val (.int .i64),.val (.int .i64)],[.val (.user 2)],fun x=>qbu w7 x.1 x.2⟩
def va0:zd9 TT prog 37 qbu_sp:=v9 (C:=qbu_C) (by kernel_rfl) kn1 func37 (show f37.body=some (z9 f37) by kernel_rfl) (by kernel_rfl) (by kernel_rfl) (cuts:=qf7) fun x y h=>⟨w7,h⟩
def qaz_C:Ctx TT:=⟨k9,[(37,qbu_sp.toCall)],1,[],q7,k7,k8⟩
def kl0:j9 TT prog qaz_C.E:=j8 (j5 va0) (j6)
def qd6:List (Pos×Cut):= [([false,true,false,true,true,true],⟨[0,3,4],[],false,[],0,false⟩)]
def qaz (n:Nat) (x0:List Ins):Option ((List Ins×Unit)×((List Ins×Nat×Nat)×Unit)):=za7 TT prog qaz_C qd6 f21 (z9 f21) ⟨[],[],[],[],[]⟩ [.row 52 (.user 2)] [.row 52 (.user 2)] [.slr 52 (.user 2)] n (x0,())
def gh8:GSpec TT:=⟨[.row 52 (.user 2)],[.row 52 (.user 2)],[.slr 52 (.user 2)],fun x=>qaz w7 x.1⟩
def gh7:GOk TT prog 21 gh8:=q8 (C:=qaz_C) (cuts:=qd6) (by kernel_rfl) kl0 func21 (show f21.body=some (z9 f21) by kernel_rfl) (by kernel_rfl) (by kernel_rfl) (by kernel_rfl) fun x y h=>⟨w7,h⟩
def qay_C:Ctx TT:=⟨k9,[(37,qbu_sp.toCall)],2,[],q7,k7,k8⟩
def kk9:j9 TT prog qay_C.E:=j8 (j5 va0) (j6)
def qd5:List (Pos×Cut):= [([false,true,false,true,true,true],⟨[1,5,6],[],false,[],0,false⟩),([false,false,true,false,false,true,false,true,true,true],⟨[1,5,6,57],[],false,[],0,false⟩)]
def qay (n:Nat) (x0:List Ins) (x1 x2:Nat) (x3:List Ins):Option ((List Ins×List Ins×Unit)×(Bool×Unit)):=za7 TT prog qay_C qd5 f23 (z9 f23) ⟨[],[],[],[],[]⟩ [.slr 52 (.user 2),.row 52 (.user 2)] [.row 52 (.user 2),.row 52 (.user 2)] [.val (.bool)] n ((x0,x1,x2),x3,())
def gh4:GSpec TT:=⟨[.slr 52 (.user 2),.row 52 (.user 2)],[.row 52 (.user 2),.row 52 (.user 2)],[.val (.bool)],fun x=>qay w7 x.1.1 x.1.2.1 x.1.2.2 x.2.1⟩
def gh3:GOk TT prog 23 gh4:=q8 (C:=qay_C) (cuts:=qd5) (by kernel_rfl) kk9 func23 (show f23.body=some (z9 f23) by kernel_rfl) (by kernel_rfl) (by kernel_rfl) (by kernel_rfl) fun x y h=>⟨w7,h⟩
def qba_C:Ctx TT:=⟨k9,[(37,qbu_sp.toCall)],1,[],q7,k7,k8⟩
def kl1:j9 TT prog qba_C.E:=j8 (j5 va0) (j6)
def qd7:List (Pos×Cut):= [([false,true,true],⟨[2,3],[],false,[],0,false⟩)]
def qba (n:Nat) (x0:List Ins) (x1 x2:Nat):Option ((List Ins×Unit)×(Unit)):=za7 TT prog qba_C qd7 f24 (z9 f24) ⟨[],[],[],[],[]⟩ [.slr 52 (.user 2)] [.row 52 (.user 2)] [] n ((x0,x1,x2),())
def gi3:GSpec TT:=⟨[.slr 52 (.user 2)],[.row 52 (.user 2)],[],fun x=>qba w7 x.1.1 x.1.2.1 x.1.2.2⟩
def gi2:GOk TT prog 24 gi3:=q8 (C:=qba_C) (cuts:=qd7) (by kernel_rfl) kl1 func24 (show f24.body=some (z9 f24) by kernel_rfl) (by kernel_rfl) (by kernel_rfl) (by kernel_rfl) fun x y h=>⟨w7,h⟩
def qbb_C:Ctx TT:=⟨k9,[(54,qcm_sp.toCall)],0,[],q7,k7,k8⟩
def kl2:j9 TT prog qbb_C.E:=j8 (j5 kb3) (j6)
def qd8:List (Pos×Cut):= []
def qbb (n:Nat) (x0 x1:Int):Option (Int):=zg5 TT prog qbb_C qd8 f40 (z9 f40) ⟨[],[]⟩ [.val (.int .i64),.val (.int .i64)] [.val (.int .u8)] n (x0,x1)
def qbb_sp:FnSpec TT:=⟨[.val (.int .i64),.val (.int .i64)],[.val (.int .u8)],fun x=>qbb w7 x.1 x.2⟩
def jv2:zd9 TT prog 40 qbb_sp:=v9 (C:=qbb_C) (by kernel_rfl) kl2 func40 (show f40.body=some (z9 f40) by kernel_rfl) (by kernel_rfl) (by kernel_rfl) (cuts:=qd8) fun x y h=>⟨w7,h⟩
def qca_C:Ctx TT:=⟨k9,[(40,qbb_sp.toCall)],1,[],q7,k7,k8⟩
def kn8:j9 TT prog qca_C.E:=j8 (j5 jv2) (j6)
def qg3:List (Pos×Cut):= [([false,true,false,true,true,true],⟨[0,3,4],[],false,[],0,false⟩)]
def qca (n:Nat) (x0:List Int):Option ((List Int×Unit)×((List Int×Nat×Nat)×Unit)):=za7 TT prog qca_C qg3 f26 (z9 f26) ⟨[],[],[],[],[]⟩ [.row 5 (.int .u8)] [.row 5 (.int .u8)] [.slr 5 (.int .u8)] n (x0,())
def gk6:GSpec TT:=⟨[.row 5 (.int .u8)],[.row 5 (.int .u8)],[.slr 5 (.int .u8)],fun x=>qca w7 x.1⟩
def gk5:GOk TT prog 26 gk6:=q8 (C:=qca_C) (cuts:=qg3) (by kernel_rfl) kn8 func26 (show f26.body=some (z9 f26) by kernel_rfl) (by kernel_rfl) (by kernel_rfl) (by kernel_rfl) fun x y h=>⟨w7,h⟩
def qcb_C:Ctx TT:=⟨k9,[(40,qbb_sp.toCall)],0,[],q7,k7,k8⟩
def kn9:j9 TT prog qcb_C.E:=j8 (j5 jv2) (j6)
def qg4:List (Pos×Cut):= [([false,true,false,true,true,true],⟨[0,3,4],[(0,5,.int .u8)],false,[],0,false⟩)]
def qcb (n:Nat):Option ((Unit)×((List Int×Nat×Nat)×Unit)):=za7 TT prog qcb_C qg4 f26 (z9 f26) ⟨[],[],[],[],[]⟩ [.nils] [] [.slr 5 (.int .u8)] n ((),())
def gk9:GSpec TT:=⟨[.nils],[],[.slr 5 (.int .u8)],fun _=>qcb w7⟩
def gk8:GOk TT prog 26 gk9:=q8 (C:=qcb_C) (cuts:=qg4) (by kernel_rfl) kn9 func26 (show f26.body=some (z9 f26) by kernel_rfl) (by kernel_rfl) (by kernel_rfl) (by kernel_rfl) fun x y h=>⟨w7,h⟩
def qby_C:Ctx TT:=⟨k9,[(40,qbb_sp.toCall)],2,[],q7,k7,k8⟩
def kn6:j9 TT prog qby_C.E:=j8 (j5 jv2) (j6)
def qg1:List (Pos×Cut):= [([false,true,false,true,true,true],⟨[1,5,6],[],false,[],0,false⟩),([false,false,true,false,false,true,false,true,true,true],⟨[1,5,6,57],[],false,[],0,false⟩)]
def qby (n:Nat) (x0:List Int) (x1 x2:Nat) (x3:List Int):Option ((List Int×List Int×Unit)×(Bool×Unit)):=za7 TT prog qby_C qg1 f28 (z9 f28) ⟨[],[],[],[],[]⟩ [.slr 5 (.int .u8),.row 5 (.int .u8)] [.row 5 (.int .u8),.row 5 (.int .u8)] [.val (.bool)] n ((x0,x1,x2),x3,())
def gj9:GSpec TT:=⟨[.slr 5 (.int .u8),.row 5 (.int .u8)],[.row 5 (.int .u8),.row 5 (.int .u8)],[.val (.bool)],fun x=>qby w7 x.1.1 x.1.2.1 x.1.2.2 x.2.1⟩
def gj8:GOk TT prog 28 gj9:=q8 (C:=qby_C) (cuts:=qg1) (by kernel_rfl) kn6 func28 (show f28.body=some (z9 f28) by kernel_rfl) (by kernel_rfl) (by kernel_rfl) (by kernel_rfl) fun x y h=>⟨w7,h⟩
def qbz_C:Ctx TT:=⟨k9,[(40,qbb_sp.toCall)],1,[],q7,k7,k8⟩
def kn7:j9 TT prog qbz_C.E:=j8 (j5 jv2) (j6)
def qg2:List (Pos×Cut):= [([false,true,false,true,true,true],⟨[1,5,6],[(1,5,.int .u8)],false,[],0,false⟩),([false,false,true,false,false,true,false,true,true,true],⟨[1,5,6,57],[],false,[],0,false⟩)]
def qbz (n:Nat) (x0:List Int) (x1 x2:Nat):Option ((List Int×Unit)×(Bool×Unit)):=za7 TT prog qbz_C qg2 f28 (z9 f28) ⟨[],[],[],[],[]⟩ [.slr 5 (.int .u8),.nils] [.row 5 (.int .u8)] [.val (.bool)] n ((x0,x1,x2),(),())
def gk2:GSpec TT:=⟨[.slr 5 (.int .u8),.nils],[.row 5 (.int .u8)],[.val (.bool)],fun x=>qbz w7 x.1.1 x.1.2.1 x.1.2.2⟩
def gk1:GOk TT prog 28 gk2:=q8 (C:=qbz_C) (cuts:=qg2) (by kernel_rfl) kn7 func28 (show f28.body=some (z9 f28) by kernel_rfl) (by kernel_rfl) (by kernel_rfl) (by kernel_rfl) fun x y h=>⟨w7,h⟩
end
end Go.X
