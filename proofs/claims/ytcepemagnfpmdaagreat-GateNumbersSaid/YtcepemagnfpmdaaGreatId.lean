import Derived.Test.YtcepemagnfpmdaaGreatVb
set_option linter.defProp false
namespace Go.X
open Go.RowKit Go.V Go.Proofs Tryz
noncomputable section
def qn_C:Ctx TT:=⟨k9,[],0,[],q7,k7,k8⟩
def gt6:j9 TT prog qn_C.E:=j6
def ve4:List (Pos×Cut):= []
def qn (n:Nat):Option ((Unit)×((Unit×Bool×Unit)×Unit)):=za7 TT prog qn_C ve4 f12 (z9 f12) ⟨[],[],[],[],[]⟩ [] [] [.ptr 0 32 [.nilp,.val (.bool)]] n ()
def qn_sp:GSpec TT:=⟨[],[],[.ptr 0 32 [.nilp,.val (.bool)]],fun _=>qn w7⟩
def ys4:GOk TT prog 12 qn_sp:=q8 (C:=qn_C) (cuts:=ve4) (by kernel_rfl) gt6 func12 (show f12.body=some (z9 f12) by kernel_rfl) (by kernel_rfl) (by kernel_rfl) (by kernel_rfl) fun x y h=>⟨w7,h⟩
def qg_C:Ctx TT:=⟨k9,[],1,[],q7,k7,k8⟩
def gs9:j9 TT prog qg_C.E:=j6
def vd7:List (Pos×Cut):= []
def qg (n:Nat) (x0:Bool):Option (((Unit×Bool×Unit)×Unit)×(Bool×Unit)):=za7 TT prog qg_C vd7 f13 (z9 f13) ⟨[],[],[],[],[]⟩ [.ptr 0 32 [.nilp,.val (.bool)]] [.blk 32 [.nilp,.val (.bool)]] [.val (.bool)] n (((),x0,()),())
def qg_sp:GSpec TT:=⟨[.ptr 0 32 [.nilp,.val (.bool)]],[.blk 32 [.nilp,.val (.bool)]],[.val (.bool)],fun x=>qg w7 x.1.2.1⟩
def zn4:GOk TT prog 13 qg_sp:=q8 (C:=qg_C) (cuts:=vd7) (by kernel_rfl) gs9 func13 (show f13.body=some (z9 f13) by kernel_rfl) (by kernel_rfl) (by kernel_rfl) (by kernel_rfl) fun x y h=>⟨w7,h⟩
def qo_C:Ctx TT:=⟨k9,[(13,qg_sp.toCall (z8 TT)),(17,zz1 TT 69 6)],2,[],q7,k7,k8⟩
def gt7:j9 TT prog qo_C.E:=j8 (z4 zn4 (z5 13)) (j8 (zf7 zm1) (j6))
def ve5:List (Pos×Cut):= []
def qo (n:Nat) (x0:Bool) (x1:List Int):Option (((Unit×Bool×Unit)×List Int×Unit)×(Int×Int×Unit)):=za7 TT prog qo_C ve5 f8 (z9 f8) ⟨[],[],[],[],[]⟩ [.ptr 0 32 [.nilp,.val (.bool)],.row 5 (.int .u8)] [.blk 32 [.nilp,.val (.bool)],.row 5 (.int .u8)] [.val (.int .u64),.val (.int .i64)] n (((),x0,()),x1,())
def qo_sp:GSpec TT:=⟨[.ptr 0 32 [.nilp,.val (.bool)],.row 5 (.int .u8)],[.blk 32 [.nilp,.val (.bool)],.row 5 (.int .u8)],[.val (.int .u64),.val (.int .i64)],fun x=>qo w7 x.1.2.1 x.2.1⟩
def ys5:GOk TT prog 8 qo_sp:=q8 (C:=qo_C) (cuts:=ve5) (by kernel_rfl) gt7 func8 (show f8.body=some (z9 f8) by kernel_rfl) (by kernel_rfl) (by kernel_rfl) (by kernel_rfl) fun x y h=>⟨w7,h⟩
def qq_C:Ctx TT:=⟨k9,[],0,[],q7,k7,k8⟩
def gt9:j9 TT prog qq_C.E:=j6
def ve7:List (Pos×Cut):= []
def qq (n:Nat):Option (List Ins):=zg5 TT prog qq_C ve7 f6 (z9 f6) ⟨[],[]⟩ [] [.own 52 (.user 2)] n ()
def qq_sp:FnSpec TT:=⟨[],[.own 52 (.user 2)],fun _=>qq w7⟩
def gc5:zd9 TT prog 6 qq_sp:=v9 (C:=qq_C) (by kernel_rfl) gt9 func6 (show f6.body=some (z9 f6) by kernel_rfl) (by kernel_rfl) (by kernel_rfl) (cuts:=ve7) fun x y h=>⟨w7,h⟩
def qu_C:Ctx TT:=⟨k9,[],0,[],q7,k7,k8⟩
def gu2:j9 TT prog qu_C.E:=j6
def vf0:List (Pos×Cut):= []
def qu (n:Nat) (x0:List Ins):Option (List Ins):=zg5 TT prog qu_C vf0 f16 (z9 f16) ⟨[],[]⟩ [.val (.list (.user 2))] [.own 52 (.user 2)] n x0
def qu_sp:FnSpec TT:=⟨[.val (.list (.user 2))],[.own 52 (.user 2)],fun x=>qu w7 x⟩
def ys8:zd9 TT prog 16 qu_sp:=v9 (C:=qu_C) (by kernel_rfl) gu2 func16 (show f16.body=some (z9 f16) by kernel_rfl) (by kernel_rfl) (by kernel_rfl) (cuts:=vf0) fun x y h=>⟨w7,h⟩
def qb_C:Ctx TT:=⟨k9,[(13,qg_sp.toCall (z8 TT)),(14,checkFilterT_sp.toCall),(16,qu_sp.toCall),(15,zl4 TT 69 6)],2,[(8,1)],q7,k7,k8⟩
def gi1:j9 TT prog qb_C.E:=j8 (z4 zn4 (z5 13)) (j8 (j5 zb6) (j8 (j5 ys8) (j8 (zc9 zh4) (j6))))
def vd0:List (Pos×Cut):= []
def qb (n:Nat) (x0:Bool) (x1:Int) (x2:List Ins):Option (((Unit×Bool×Unit)×List Ins×Unit)×(Fault×Unit)):=za7 TT prog qb_C vd0 f5 (z9 f5) ⟨[],[],[],[],[]⟩ [.ptr 0 32 [.nilp,.val (.bool)],.val (.int .i64),.row 52 (.user 2)] [.blk 32 [.nilp,.val (.bool)],.row 52 (.user 2)] [.val (.user 3)] n (((),x0,()),x1,x2,())
def qb_sp:GSpec TT:=⟨[.ptr 0 32 [.nilp,.val (.bool)],.val (.int .i64),.row 52 (.user 2)],[.blk 32 [.nilp,.val (.bool)],.row 52 (.user 2)],[.val (.user 3)],fun x=>qb w7 x.1.2.1 x.2.1 x.2.2.1⟩
def v7:GOk TT prog 5 qb_sp:=q8 (C:=qb_C) (cuts:=vd0) (by kernel_rfl) gi1 func5 (show f5.body=some (z9 f5) by kernel_rfl) (by kernel_rfl) (by kernel_rfl) (by kernel_rfl) fun x y h=>⟨w7,h⟩
def qa_C:Ctx TT:=⟨k9,[(13,qg_sp.toCall (z8 TT)),(14,checkFilterT_sp.toCall),(16,qu_sp.toCall),(15,zl4 TT 69 6)],2,[(8,1)],q7,k7,k8⟩
def gf9:j9 TT prog qa_C.E:=j8 (z4 zn4 (z5 13)) (j8 (j5 zb6) (j8 (j5 ys8) (j8 (zc9 zh4) (j6))))
def vc9:List (Pos×Cut):= []
def qa (n:Nat) (x0:Bool) (x1:Int) (x2:List Ins):Option ((((Int×List Ins×Int×Int×Int×Unit×Unit)×Bool×Unit)×List Ins×Unit)×(Fault×Unit)):=za7 TT prog qa_C vc9 f5 (z9 f5) ⟨[],[],[],[],[]⟩ [.ptr 0 32 [.nilp,.val (.bool)],.val (.int .i64),.row 52 (.user 2)] [.blk 32 [.ptr 0 69 [.val (.int .i64),.row 52 (.user 2),.val (.int .u32),.val (.int .i32),.val (.int .u32),.nils],.val (.bool)],.row 52 (.user 2)] [.val (.user 3)] n (((),x0,()),x1,x2,())
def qa_sp:GSpec TT:=⟨[.ptr 0 32 [.nilp,.val (.bool)],.val (.int .i64),.row 52 (.user 2)],[.blk 32 [.ptr 0 69 [.val (.int .i64),.row 52 (.user 2),.val (.int .u32),.val (.int .i32),.val (.int .u32),.nils],.val (.bool)],.row 52 (.user 2)],[.val (.user 3)],fun x=>qa w7 x.1.2.1 x.2.1 x.2.2.1⟩
def v6:GOk TT prog 5 qa_sp:=q8 (C:=qa_C) (cuts:=vc9) (by kernel_rfl) gf9 func5 (show f5.body=some (z9 f5) by kernel_rfl) (by kernel_rfl) (by kernel_rfl) (by kernel_rfl) fun x y h=>⟨w7,h⟩
def z7 (x0:Bool) (x1:Int) (x2:List Ins):Bool:=(match qg w7 x0 with|some y1=>((!y1.2.1)||((decide (x1<(1:Int)))||((decide (x1>(1073741824:Int)))||(match zf0 x2 with|some y2=>(y2.Err != (0:Int))|none=>false))))|none=>false)
def qi_C:Ctx TT:=⟨k9,[],3,[],q7,k7,k8⟩
def gt1:j9 TT prog qi_C.E:=j6
def vd9:List (Pos×Cut):= []
def qi (n:Nat) (x0:Int) (x1:List Ins) (x2 x3 x4:Int) (x5:Bool):Option (((Unit×Bool×Unit)×(Int×Unit×Int×Int×Int×Unit×Unit)×List Ins×Unit)×(Bool×Unit)):=za7 TT prog qi_C vd9 f13 (z9 f13) ⟨[],[],[],[],[]⟩ [.ptr 0 32 [.ptr 0 69 [.val (.int .i64),.row 52 (.user 2),.val (.int .u32),.val (.int .i32),.val (.int .u32),.nils],.val (.bool)]] [.blk 32 [.at_ 1 0,.val (.bool)],.blk 69 [.val (.int .i64),.own 2,.val (.int .u32),.val (.int .i32),.val (.int .u32),.nils],.row 52 (.user 2)] [.val (.bool)] n (((x0,x1,x2,x3,x4,(),()),x5,()),())
def qi_sp:GSpec TT:=⟨[.ptr 0 32 [.ptr 0 69 [.val (.int .i64),.row 52 (.user 2),.val (.int .u32),.val (.int .i32),.val (.int .u32),.nils],.val (.bool)]],[.blk 32 [.at_ 1 0,.val (.bool)],.blk 69 [.val (.int .i64),.own 2,.val (.int .u32),.val (.int .i32),.val (.int .u32),.nils],.row 52 (.user 2)],[.val (.bool)],fun x=>qi w7 x.1.1.1 x.1.1.2.1 x.1.1.2.2.1 x.1.1.2.2.2.1 x.1.1.2.2.2.2.1 x.1.2.1⟩
def zr2:GOk TT prog 13 qi_sp:=q8 (C:=qi_C) (cuts:=vd9) (by kernel_rfl) gt1 func13 (show f13.body=some (z9 f13) by kernel_rfl) (by kernel_rfl) (by kernel_rfl) (by kernel_rfl) fun x y h=>⟨w7,h⟩
def qal_C:Ctx TT:=⟨k9,[(35,lowerMakeT_sp.toCall)],3,[(0,1)],q7,k7,k8⟩
def kj6:j9 TT prog qal_C.E:=j8 (j5 yl2) (j6)
def qc3:List (Pos×Cut):= []
def qal (n:Nat) (x0:Int) (x1:List Ins) (x2 x3 x4:Int):Option (((Unit×Unit)×(Int×Unit×Int×Int×Int×List Flat×Unit)×List Ins×Unit)×(Unit)):=za7 TT prog qal_C qc3 f34 (z9 f34) ⟨[],[],[],[],[]⟩ [.ptr 0 24 [.ptr 0 69 [.val (.int .i64),.row 52 (.user 2),.val (.int .u32),.val (.int .i32),.val (.int .u32),.nils]]] [.blk 24 [.at_ 1 0],.blk 69 [.val (.int .i64),.own 2,.val (.int .u32),.val (.int .i32),.val (.int .u32),.row 117 (.user 5)],.row 52 (.user 2)] [] n (((x0,x1,x2,x3,x4,(),()),()),())
def qal_sp:GSpec TT:=⟨[.ptr 0 24 [.ptr 0 69 [.val (.int .i64),.row 52 (.user 2),.val (.int .u32),.val (.int .i32),.val (.int .u32),.nils]]],[.blk 24 [.at_ 1 0],.blk 69 [.val (.int .i64),.own 2,.val (.int .u32),.val (.int .i32),.val (.int .u32),.row 117 (.user 5)],.row 52 (.user 2)],[],fun x=>qal w7 x.1.1.1 x.1.1.2.1 x.1.1.2.2.1 x.1.1.2.2.2.1 x.1.1.2.2.2.2.1⟩
def ja4:GOk TT prog 34 qal_sp:=q8 (C:=qal_C) (cuts:=qc3) (by kernel_rfl) kj6 func34 (show f34.body=some (z9 f34) by kernel_rfl) (by kernel_rfl) (by kernel_rfl) (by kernel_rfl) fun x y h=>⟨w7,h⟩
def qaq_C:Ctx TT:=⟨k9,[],0,[],q7,k7,k8⟩
def kk1:j9 TT prog qaq_C.E:=j6
def qc8:List (Pos×Cut):= []
def qaq (n:Nat):Option ((Unit)×((((Unit)×(Unit))×((Unit)×(Unit))×((Unit)×(Unit))×((Unit)×(Unit))×((Unit)×(Unit))×((Unit)×(Unit))×((Unit)×(Unit))×((Unit)×(Unit))×((Unit)×(Unit))×Unit)×Unit)):=za7 TT prog qaq_C qc8 f53 (z9 f53) ⟨[],[],[],[],[]⟩ [] [] [.mp .u8 [1,2,3,4,5,6,7,8,9] [.fn 92 [] [],.fn 93 [] [],.fn 94 [] [],.fn 95 [] [],.fn 96 [] [],.fn 97 [] [],.fn 98 [] [],.fn 99 [] [],.fn 100 [] []]] n ()
def qaq_sp:GSpec TT:=⟨[],[],[.mp .u8 [1,2,3,4,5,6,7,8,9] [.fn 92 [] [],.fn 93 [] [],.fn 94 [] [],.fn 95 [] [],.fn 96 [] [],.fn 97 [] [],.fn 98 [] [],.fn 99 [] [],.fn 100 [] []]],fun _=>qaq w7⟩
def jk5:GOk TT prog 53 qaq_sp:=q8 (C:=qaq_C) (cuts:=qc8) (by kernel_rfl) kk1 func53 (show f53.body=some (z9 f53) by kernel_rfl) (by kernel_rfl) (by kernel_rfl) (by kernel_rfl) fun x y h=>⟨w7,h⟩
def qat_C:Ctx TT:=⟨k9,[],2,[(1,1)],q7,k7,k8⟩
def kk4:j9 TT prog qat_C.E:=j6
def qd1:List (Pos×Cut):= []
def qat (n:Nat) (x0 x1 x2:List Int) (x3 x4:Int) (x5:Bool) (x6:Flat):Option (((List Int×List Int×Unit×Int×Int×Bool×Unit)×List Int×Unit)×(Unit)):=za7 TT prog qat_C qd1 f92 (z9 f92) ⟨[],[],[],[],[]⟩ [.ptr 0 124 [.arr (.int .u64) 16,.arr (.int .u8) 512,.row 5 (.int .u8),.val (.int .i64),.val (.int .i64),.val (.bool)],.val (.user 5)] [.blk 124 [.arr (.int .u64) 16,.arr (.int .u8) 512,.own 1,.val (.int .i64),.val (.int .i64),.val (.bool)],.row 5 (.int .u8)] [] n ((x0,x1,x2,x3,x4,x5,()),x6,())
def qat_sp:GSpec TT:=⟨[.ptr 0 124 [.arr (.int .u64) 16,.arr (.int .u8) 512,.row 5 (.int .u8),.val (.int .i64),.val (.int .i64),.val (.bool)],.val (.user 5)],[.blk 124 [.arr (.int .u64) 16,.arr (.int .u8) 512,.own 1,.val (.int .i64),.val (.int .i64),.val (.bool)],.row 5 (.int .u8)],[],fun x=>qat w7 x.1.1 x.1.2.1 x.1.2.2.1 x.1.2.2.2.1 x.1.2.2.2.2.1 x.1.2.2.2.2.2.1 x.2.1⟩
def jk8:GOk TT prog 92 qat_sp:=q8 (C:=qat_C) (cuts:=qd1) (by kernel_rfl) kk4 func92 (show f92.body=some (z9 f92) by kernel_rfl) (by kernel_rfl) (by kernel_rfl) (by kernel_rfl) fun x y h=>⟨w7,h⟩
def qas_C:Ctx TT:=⟨k9,[],2,[(1,1)],q7,k7,k8⟩
def kk3:j9 TT prog qas_C.E:=j6
def qd0:List (Pos×Cut):= []
def qas (n:Nat) (x0 x1 x2:List Int) (x3 x4:Int) (x5:Bool) (x6:Flat):Option (((List Int×List Int×Unit×Int×Int×Bool×Unit)×List Int×Unit)×(Unit)):=za7 TT prog qas_C qd0 f93 (z9 f93) ⟨[],[],[],[],[]⟩ [.ptr 0 124 [.arr (.int .u64) 16,.arr (.int .u8) 512,.row 5 (.int .u8),.val (.int .i64),.val (.int .i64),.val (.bool)],.val (.user 5)] [.blk 124 [.arr (.int .u64) 16,.arr (.int .u8) 512,.own 1,.val (.int .i64),.val (.int .i64),.val (.bool)],.row 5 (.int .u8)] [] n ((x0,x1,x2,x3,x4,x5,()),x6,())
def qas_sp:GSpec TT:=⟨[.ptr 0 124 [.arr (.int .u64) 16,.arr (.int .u8) 512,.row 5 (.int .u8),.val (.int .i64),.val (.int .i64),.val (.bool)],.val (.user 5)],[.blk 124 [.arr (.int .u64) 16,.arr (.int .u8) 512,.own 1,.val (.int .i64),.val (.int .i64),.val (.bool)],.row 5 (.int .u8)],[],fun x=>qas w7 x.1.1 x.1.2.1 x.1.2.2.1 x.1.2.2.2.1 x.1.2.2.2.2.1 x.1.2.2.2.2.2.1 x.2.1⟩
def jk7:GOk TT prog 93 qas_sp:=q8 (C:=qas_C) (cuts:=qd0) (by kernel_rfl) kk3 func93 (show f93.body=some (z9 f93) by kernel_rfl) (by kernel_rfl) (by kernel_rfl) (by kernel_rfl) fun x y h=>⟨w7,h⟩
def qar_C:Ctx TT:=⟨k9,[],2,[],q7,k7,k8⟩
def kk2:j9 TT prog qar_C.E:=j6
def qc9:List (Pos×Cut):= []
def qar (n:Nat) (x0 x1 x2:List Int) (x3 x4:Int) (x5:Bool) (x6:Flat):Option (((List Int×List Int×Unit×Int×Int×Bool×Unit)×List Int×Unit)×(Unit)):=za7 TT prog qar_C qc9 f100 (z9 f100) ⟨[],[],[],[],[]⟩ [.ptr 0 124 [.arr (.int .u64) 16,.arr (.int .u8) 512,.row 5 (.int .u8),.val (.int .i64),.val (.int .i64),.val (.bool)],.val (.user 5)] [.blk 124 [.arr (.int .u64) 16,.arr (.int .u8) 512,.own 1,.val (.int .i64),.val (.int .i64),.val (.bool)],.row 5 (.int .u8)] [] n ((x0,x1,x2,x3,x4,x5,()),x6,())
def qar_sp:GSpec TT:=⟨[.ptr 0 124 [.arr (.int .u64) 16,.arr (.int .u8) 512,.row 5 (.int .u8),.val (.int .i64),.val (.int .i64),.val (.bool)],.val (.user 5)],[.blk 124 [.arr (.int .u64) 16,.arr (.int .u8) 512,.own 1,.val (.int .i64),.val (.int .i64),.val (.bool)],.row 5 (.int .u8)],[],fun x=>qar w7 x.1.1 x.1.2.1 x.1.2.2.1 x.1.2.2.2.1 x.1.2.2.2.2.1 x.1.2.2.2.2.2.1 x.2.1⟩
def jk6:GOk TT prog 100 qar_sp:=q8 (C:=qar_C) (cuts:=qc9) (by kernel_rfl) kk2 func100 (show f100.body=some (z9 f100) by kernel_rfl) (by kernel_rfl) (by kernel_rfl) (by kernel_rfl) fun x y h=>⟨w7,h⟩
def qau_C:Ctx TT:=⟨k9,[],5,[],q7,k7,k8⟩
def kk5:j9 TT prog qau_C.E:=j6
def qau (x0:Int) (x1 x2 x3:List Int) (x4 x5:Int) (x6:Bool) (x7 x8 x9 x10:Int):Option ((Int×Unit)×(Unit×Unit)×(List Int×List Int×Unit×Int×Int×Bool×Unit)×List Int×(Int×Int×Int×Int×Unit)×Unit):=jv8 prog qau_C f52 (z9 f52) [.ptr 0 3 [.val (.int .i64)],.ptr 0 119 [.ptr 0 124 [.arr (.int .u64) 16,.arr (.int .u8) 512,.row 5 (.int .u8),.val (.int .i64),.val (.int .i64),.val (.bool)]],.ptr 0 91 [.val (.int .i64),.val (.int .i64),.val (.int .u64),.val (.int .i64)]] (.rw 1) [.blk 3 [.val (.int .i64)],.blk 119 [.at_ 2 0],.blk 124 [.arr (.int .u64) 16,.arr (.int .u8) 512,.own 3,.val (.int .i64),.val (.int .i64),.val (.bool)],.row 5 (.int .u8),.blk 91 [.val (.int .i64),.val (.int .i64),.val (.int .u64),.val (.int .i64)]] ((x0,()),((x1,x2,x3,x4,x5,x6,()),()),(x7,x8,x9,x10,()),(),())
def ye4:DSpec TT:=⟨[.ptr 0 3 [.val (.int .i64)],.ptr 0 119 [.ptr 0 124 [.arr (.int .u64) 16,.arr (.int .u8) 512,.row 5 (.int .u8),.val (.int .i64),.val (.int .i64),.val (.bool)]],.ptr 0 91 [.val (.int .i64),.val (.int .i64),.val (.int .u64),.val (.int .i64)]],.rw 1,[.blk 3 [.val (.int .i64)],.blk 119 [.at_ 2 0],.blk 124 [.arr (.int .u64) 16,.arr (.int .u8) 512,.own 3,.val (.int .i64),.val (.int .i64),.val (.bool)],.row 5 (.int .u8),.blk 91 [.val (.int .i64),.val (.int .i64),.val (.int .u64),.val (.int .i64)]],fun x=>qau x.1.1 x.2.1.1.1 x.2.1.1.2.1 x.2.1.1.2.2.1 x.2.1.1.2.2.2.1 x.2.1.1.2.2.2.2.1 x.2.1.1.2.2.2.2.2.1 x.2.2.1.1 x.2.2.1.2.1 x.2.2.1.2.2.1 x.2.2.1.2.2.2.1⟩
def ym4:DOk TT prog 52 ye4:=jt7 (C:=qau_C) (by kernel_rfl) kk5 func52 (show f52.body=some (z9 f52) by kernel_rfl) (by kernel_rfl) (by kernel_rfl) (by kernel_rfl) (by kernel_rfl) fun x y h=>h
def qav_C:Ctx TT:=⟨k9,[(51,qam_sp.toCall),(53,qaq_sp.toCall (z8 TT)),(92,qat_sp.toCall (z8 TT)),(93,qas_sp.toCall (z8 TT)),(100,qar_sp.toCall (z8 TT))],2,[(14,1),(15,1)],q7,k7,k8⟩
def kk6:j9 TT prog qav_C.E:=j8 (j5 jk4) (j8 (z4 jk5 (z5 53)) (j8 (z4 jk8 (z5 92)) (j8 (z4 jk7 (z5 93)) (j8 (z4 jk6 (z5 100)) (j6)))))
def qd2:List (Pos×Cut):= [([false,false,true],⟨[0,4,5,6,7],[],false,[],0,false⟩)]
def gb8:DefP TT:=⟨5,28,[28,0,4,5,6],5,52,[(2,0),(3,0),(4,0)],ye4,ye4⟩
def qav (n:Nat) (x0:List Flat) (x1:List Int):Option ((List Flat×List Int×Unit)×(Outcome×Unit)):=vq3 prog qav_C qd2 f36 (z9 f36) ⟨[],[],[],[],[]⟩ [.row 117 (.user 5),.row 5 (.int .u8)] [.row 117 (.user 5),.row 5 (.int .u8)] [.val (.user 6)] gb8 n (x0,x1,())
def qav_sp:GSpec TT:=⟨[.row 117 (.user 5),.row 5 (.int .u8)],[.row 117 (.user 5),.row 5 (.int .u8)],[.val (.user 6)],fun x=>qav w7 x.1 x.2.1⟩
def qz4:GOk TT prog 36 qav_sp:=yl0 (C:=qav_C) (cuts:=qd2) (D:=gb8) (by kernel_rfl) kk6 func36 (show f36.body=some (z9 f36) by kernel_rfl) (by kernel_rfl) (by kernel_rfl) (by kernel_rfl) ym4 ym4 fun x y h=>⟨w7,h⟩
def qaw_C:Ctx TT:=⟨k9,[(51,qam_sp.toCall),(53,qaq_sp.toCall (z8 TT)),(92,qat_sp.toCall (z8 TT)),(93,qas_sp.toCall (z8 TT)),(100,qar_sp.toCall (z8 TT))],1,[(14,1),(15,1)],q7,k7,k8⟩
def kk7:j9 TT prog qaw_C.E:=j8 (j5 jk4) (j8 (z4 jk5 (z5 53)) (j8 (z4 jk8 (z5 92)) (j8 (z4 jk7 (z5 93)) (j8 (z4 jk6 (z5 100)) (j6)))))
def qd3:List (Pos×Cut):= [([false,false,true],⟨[0,4,5,6,7],[(0,117,.user 5)],false,[],0,false⟩)]
def gb9:DefP TT:=⟨5,28,[28,0,4,5,6],4,52,[(1,0),(2,0),(3,0)],ye4,ye4⟩
def qaw (n:Nat) (x0:List Int):Option ((List Int×Unit)×(Outcome×Unit)):=vq3 prog qaw_C qd3 f36 (z9 f36) ⟨[],[],[],[],[]⟩ [.nils,.row 5 (.int .u8)] [.row 5 (.int .u8)] [.val (.user 6)] gb9 n ((),x0,())
def qaw_sp:GSpec TT:=⟨[.nils,.row 5 (.int .u8)],[.row 5 (.int .u8)],[.val (.user 6)],fun x=>qaw w7 x.2.1⟩
def qz5:GOk TT prog 36 qaw_sp:=yl0 (C:=qaw_C) (cuts:=qd3) (D:=gb9) (by kernel_rfl) kk7 func36 (show f36.body=some (z9 f36) by kernel_rfl) (by kernel_rfl) (by kernel_rfl) (by kernel_rfl) ym4 ym4 fun x y h=>⟨w7,h⟩
def qbq_C:Ctx TT:=⟨k9,[(33,yy8 TT 34 (qal_sp.toCall (z8 TT))),(34,qal_sp.toCall (z8 TT)),(36,qaw_sp.toCall (qav_sp.toCall (z8 TT)))],3,[],q7,k7,k8⟩
def km7:j9 TT prog qbq_C.E:=j8 (yg2 jh3 (z4 ja4 (z5 34))) (j8 (z4 ja4 (z5 34)) (j8 (z4 qz5 (z4 qz4 (z5 36))) (j6)))
def qf3:List (Pos×Cut):= []
def qbq (n:Nat) (x0:Int) (x1:List Ins) (x2 x3 x4:Int) (x5:List Int):Option (((Int×Unit×Int×Int×Int×List Flat×Unit)×List Ins×List Int×Unit)×(Int×Unit)):=za7 TT prog qbq_C qf3 f18 (z9 f18) ⟨[],[],[(0,5,117,.user 5)],[],[]⟩ [.ptr 0 69 [.val (.int .i64),.row 52 (.user 2),.val (.int .u32),.val (.int .i32),.val (.int .u32),.nils],.row 5 (.int .u8)] [.blk 69 [.val (.int .i64),.own 1,.val (.int .u32),.val (.int .i32),.val (.int .u32),.row 117 (.user 5)],.row 52 (.user 2),.row 5 (.int .u8)] [.val (.int .u64)] n ((x0,x1,x2,x3,x4,(),()),x5,())
def qbq_sp:GSpec TT:=⟨[.ptr 0 69 [.val (.int .i64),.row 52 (.user 2),.val (.int .u32),.val (.int .i32),.val (.int .u32),.nils],.row 5 (.int .u8)],[.blk 69 [.val (.int .i64),.own 1,.val (.int .u32),.val (.int .i32),.val (.int .u32),.row 117 (.user 5)],.row 52 (.user 2),.row 5 (.int .u8)],[.val (.int .u64)],fun x=>qbq w7 x.1.1 x.1.2.1 x.1.2.2.1 x.1.2.2.2.1 x.1.2.2.2.2.1 x.2.1⟩
def qz6:GOk TT prog 18 qbq_sp:=q8 (C:=qbq_C) (cuts:=qf3) (by kernel_rfl) km7 func18 (show f18.body=some (z9 f18) by kernel_rfl) (by kernel_rfl) (by kernel_rfl) (by kernel_rfl) fun x y h=>⟨w7,h⟩
def qr_C:Ctx TT:=⟨k9,[(13,qi_sp.toCall (qg_sp.toCall (z8 TT))),(17,zz1 TT 69 6),(18,qbq_sp.toCall (z8 TT))],4,[(8,1)],q7,k7,k8⟩
def gu0:j9 TT prog qr_C.E:=j8 (z4 zr2 (z4 zn4 (z5 13))) (j8 (zf7 zm1) (j8 (z4 qz6 (z5 18)) (j6)))
def ve8:List (Pos×Cut):= []
def qr (n:Nat) (x0:Int) (x1:List Ins) (x2 x3 x4:Int) (x5:Bool) (x6:List Int):Option (((Unit×Bool×Unit)×(Int×Unit×Int×Int×Int×List Flat×Unit)×List Ins×List Int×Unit)×(Int×Int×Unit)):=za7 TT prog qr_C ve8 f8 (z9 f8) ⟨[],[],[(1,5,117,.user 5)],[],[]⟩ [.ptr 0 32 [.ptr 0 69 [.val (.int .i64),.row 52 (.user 2),.val (.int .u32),.val (.int .i32),.val (.int .u32),.nils],.val (.bool)],.row 5 (.int .u8)] [.blk 32 [.at_ 1 0,.val (.bool)],.blk 69 [.val (.int .i64),.own 2,.val (.int .u32),.val (.int .i32),.val (.int .u32),.row 117 (.user 5)],.row 52 (.user 2),.row 5 (.int .u8)] [.val (.int .u64),.val (.int .i64)] n (((x0,x1,x2,x3,x4,(),()),x5,()),x6,())
def qr_sp:GSpec TT:=⟨[.ptr 0 32 [.ptr 0 69 [.val (.int .i64),.row 52 (.user 2),.val (.int .u32),.val (.int .i32),.val (.int .u32),.nils],.val (.bool)],.row 5 (.int .u8)],[.blk 32 [.at_ 1 0,.val (.bool)],.blk 69 [.val (.int .i64),.own 2,.val (.int .u32),.val (.int .i32),.val (.int .u32),.row 117 (.user 5)],.row 52 (.user 2),.row 5 (.int .u8)],[.val (.int .u64),.val (.int .i64)],fun x=>qr w7 x.1.1.1 x.1.1.2.1 x.1.1.2.2.1 x.1.1.2.2.2.1 x.1.1.2.2.2.2.1 x.1.2.1 x.2.1⟩
def ys7:GOk TT prog 8 qr_sp:=q8 (C:=qr_C) (cuts:=ve8) (by kernel_rfl) gu0 func8 (show f8.body=some (z9 f8) by kernel_rfl) (by kernel_rfl) (by kernel_rfl) (by kernel_rfl) fun x y h=>⟨w7,h⟩
def qh_C:Ctx TT:=⟨k9,[],4,[],q7,k7,k8⟩
def gt0:j9 TT prog qh_C.E:=j6
def vd8:List (Pos×Cut):= []
def qh (n:Nat) (x0:Int) (x1:List Ins) (x2 x3 x4:Int) (x5:List Flat) (x6:Bool):Option (((Unit×Bool×Unit)×(Int×Unit×Int×Int×Int×Unit×Unit)×List Ins×List Flat×Unit)×(Bool×Unit)):=za7 TT prog qh_C vd8 f13 (z9 f13) ⟨[],[],[],[],[]⟩ [.ptr 0 32 [.ptr 0 69 [.val (.int .i64),.row 52 (.user 2),.val (.int .u32),.val (.int .i32),.val (.int .u32),.row 117 (.user 5)],.val (.bool)]] [.blk 32 [.at_ 1 0,.val (.bool)],.blk 69 [.val (.int .i64),.own 2,.val (.int .u32),.val (.int .i32),.val (.int .u32),.own 3],.row 52 (.user 2),.row 117 (.user 5)] [.val (.bool)] n (((x0,x1,x2,x3,x4,x5,()),x6,()),())
def qh_sp:GSpec TT:=⟨[.ptr 0 32 [.ptr 0 69 [.val (.int .i64),.row 52 (.user 2),.val (.int .u32),.val (.int .i32),.val (.int .u32),.row 117 (.user 5)],.val (.bool)]],[.blk 32 [.at_ 1 0,.val (.bool)],.blk 69 [.val (.int .i64),.own 2,.val (.int .u32),.val (.int .i32),.val (.int .u32),.own 3],.row 52 (.user 2),.row 117 (.user 5)],[.val (.bool)],fun x=>qh w7 x.1.1.1 x.1.1.2.1 x.1.1.2.2.1 x.1.1.2.2.2.1 x.1.1.2.2.2.2.1 x.1.1.2.2.2.2.2.1 x.1.2.1⟩
def zt0:GOk TT prog 13 qh_sp:=q8 (C:=qh_C) (cuts:=vd8) (by kernel_rfl) gt0 func13 (show f13.body=some (z9 f13) by kernel_rfl) (by kernel_rfl) (by kernel_rfl) (by kernel_rfl) fun x y h=>⟨w7,h⟩
def qc_C:Ctx TT:=⟨k9,[(13,qh_sp.toCall (qi_sp.toCall (qg_sp.toCall (z8 TT)))),(14,checkFilterT_sp.toCall),(16,qu_sp.toCall),(15,zl4 TT 69 6)],5,[(8,1)],q7,k7,k8⟩
def gk4:j9 TT prog qc_C.E:=j8 (z4 zt0 (z4 zr2 (z4 zn4 (z5 13)))) (j8 (j5 zb6) (j8 (j5 ys8) (j8 (zc9 zh4) (j6))))
def vd1:List (Pos×Cut):= []
def qc (n:Nat) (x0:Int) (x1:List Ins) (x2 x3 x4:Int) (x5:List Flat) (x6:Bool) (x7:Int) (x8:List Ins):Option (((Unit×Bool×Unit)×(Int×Unit×Int×Int×Int×Unit×Unit)×List Ins×List Flat×List Ins×Unit)×(Fault×Unit)):=za7 TT prog qc_C vd1 f5 (z9 f5) ⟨[],[],[],[],[]⟩ [.ptr 0 32 [.ptr 0 69 [.val (.int .i64),.row 52 (.user 2),.val (.int .u32),.val (.int .i32),.val (.int .u32),.row 117 (.user 5)],.val (.bool)],.val (.int .i64),.row 52 (.user 2)] [.blk 32 [.at_ 1 0,.val (.bool)],.blk 69 [.val (.int .i64),.own 2,.val (.int .u32),.val (.int .i32),.val (.int .u32),.own 3],.row 52 (.user 2),.row 117 (.user 5),.row 52 (.user 2)] [.val (.user 3)] n (((x0,x1,x2,x3,x4,x5,()),x6,()),x7,x8,())
def qc_sp:GSpec TT:=⟨[.ptr 0 32 [.ptr 0 69 [.val (.int .i64),.row 52 (.user 2),.val (.int .u32),.val (.int .i32),.val (.int .u32),.row 117 (.user 5)],.val (.bool)],.val (.int .i64),.row 52 (.user 2)],[.blk 32 [.at_ 1 0,.val (.bool)],.blk 69 [.val (.int .i64),.own 2,.val (.int .u32),.val (.int .i32),.val (.int .u32),.own 3],.row 52 (.user 2),.row 117 (.user 5),.row 52 (.user 2)],[.val (.user 3)],fun x=>qc w7 x.1.1.1 x.1.1.2.1 x.1.1.2.2.1 x.1.1.2.2.2.1 x.1.1.2.2.2.2.1 x.1.1.2.2.2.2.2.1 x.1.2.1 x.2.1 x.2.2.1⟩
def za8:GOk TT prog 5 qc_sp:=q8 (C:=qc_C) (cuts:=vd1) (by kernel_rfl) gk4 func5 (show f5.body=some (z9 f5) by kernel_rfl) (by kernel_rfl) (by kernel_rfl) (by kernel_rfl) fun x y h=>⟨w7,h⟩
def qd_C:Ctx TT:=⟨k9,[(13,qh_sp.toCall (qi_sp.toCall (qg_sp.toCall (z8 TT)))),(14,checkFilterT_sp.toCall),(16,qu_sp.toCall),(15,zl4 TT 69 6)],5,[(8,1)],q7,k7,k8⟩
def gl6:j9 TT prog qd_C.E:=j8 (z4 zt0 (z4 zr2 (z4 zn4 (z5 13)))) (j8 (j5 zb6) (j8 (j5 ys8) (j8 (zc9 zh4) (j6))))
def vd2:List (Pos×Cut):= []
def qd (n:Nat) (x0:Int) (x1:List Ins) (x2 x3 x4:Int) (x5:List Flat) (x6:Bool) (x7:Int) (x8:List Ins):Option ((((Int×List Ins×Int×Int×Int×Unit×Unit)×Bool×Unit)×(Int×Unit×Int×Int×Int×Unit×Unit)×List Ins×List Flat×List Ins×Unit)×(Fault×Unit)):=za7 TT prog qd_C vd2 f5 (z9 f5) ⟨[],[],[],[],[]⟩ [.ptr 0 32 [.ptr 0 69 [.val (.int .i64),.row 52 (.user 2),.val (.int .u32),.val (.int .i32),.val (.int .u32),.row 117 (.user 5)],.val (.bool)],.val (.int .i64),.row 52 (.user 2)] [.blk 32 [.ptr 0 69 [.val (.int .i64),.row 52 (.user 2),.val (.int .u32),.val (.int .i32),.val (.int .u32),.nils],.val (.bool)],.blk 69 [.val (.int .i64),.own 2,.val (.int .u32),.val (.int .i32),.val (.int .u32),.own 3],.row 52 (.user 2),.row 117 (.user 5),.row 52 (.user 2)] [.val (.user 3)] n (((x0,x1,x2,x3,x4,x5,()),x6,()),x7,x8,())
def qd_sp:GSpec TT:=⟨[.ptr 0 32 [.ptr 0 69 [.val (.int .i64),.row 52 (.user 2),.val (.int .u32),.val (.int .i32),.val (.int .u32),.row 117 (.user 5)],.val (.bool)],.val (.int .i64),.row 52 (.user 2)],[.blk 32 [.ptr 0 69 [.val (.int .i64),.row 52 (.user 2),.val (.int .u32),.val (.int .i32),.val (.int .u32),.nils],.val (.bool)],.blk 69 [.val (.int .i64),.own 2,.val (.int .u32),.val (.int .i32),.val (.int .u32),.own 3],.row 52 (.user 2),.row 117 (.user 5),.row 52 (.user 2)],[.val (.user 3)],fun x=>qd w7 x.1.1.1 x.1.1.2.1 x.1.1.2.2.1 x.1.1.2.2.2.1 x.1.1.2.2.2.2.1 x.1.1.2.2.2.2.2.1 x.1.2.1 x.2.1 x.2.2.1⟩
def za9:GOk TT prog 5 qd_sp:=q8 (C:=qd_C) (cuts:=vd2) (by kernel_rfl) gl6 func5 (show f5.body=some (z9 f5) by kernel_rfl) (by kernel_rfl) (by kernel_rfl) (by kernel_rfl) fun x y h=>⟨w7,h⟩
def j4 (x0:Int) (x1:List Ins) (x2 x3 x4:Int) (x5:List Flat) (x6:Bool) (x7:Int) (x8:List Ins):Bool:=(match qh w7 x0 x1 x2 x3 x4 x5 x6 with|some y1=>((!y1.2.1)||((decide (x7<(1:Int)))||((decide (x7>(1073741824:Int)))||(match zf0 x8 with|some y2=>(y2.Err != (0:Int))|none=>false))))|none=>false)
def qw_C:Ctx TT:=⟨k9,[(13,qh_sp.toCall (qi_sp.toCall (qg_sp.toCall (z8 TT)))),(17,zz1 TT 69 6)],4,[],q7,k7,k8⟩
def gu4:j9 TT prog qw_C.E:=j8 (z4 zt0 (z4 zr2 (z4 zn4 (z5 13)))) (j8 (zf7 zm1) (j6))
def vf2:List (Pos×Cut):= []
def qw (n:Nat) (x0:Int) (x1:List Ins) (x2 x3 x4:Int) (x5:List Flat) (x6:Bool):Option (((Unit×Bool×Unit)×(Int×Unit×Int×Int×Int×Unit×Unit)×List Ins×List Flat×Unit)×(Int×Unit)):=za7 TT prog qw_C vf2 f9 (z9 f9) ⟨[],[],[],[],[]⟩ [.ptr 0 32 [.ptr 0 69 [.val (.int .i64),.row 52 (.user 2),.val (.int .u32),.val (.int .i32),.val (.int .u32),.row 117 (.user 5)],.val (.bool)]] [.blk 32 [.at_ 1 0,.val (.bool)],.blk 69 [.val (.int .i64),.own 2,.val (.int .u32),.val (.int .i32),.val (.int .u32),.own 3],.row 52 (.user 2),.row 117 (.user 5)] [.val (.int .i64)] n (((x0,x1,x2,x3,x4,x5,()),x6,()),())
def qw_sp:GSpec TT:=⟨[.ptr 0 32 [.ptr 0 69 [.val (.int .i64),.row 52 (.user 2),.val (.int .u32),.val (.int .i32),.val (.int .u32),.row 117 (.user 5)],.val (.bool)]],[.blk 32 [.at_ 1 0,.val (.bool)],.blk 69 [.val (.int .i64),.own 2,.val (.int .u32),.val (.int .i32),.val (.int .u32),.own 3],.row 52 (.user 2),.row 117 (.user 5)],[.val (.int .i64)],fun x=>qw w7 x.1.1.1 x.1.1.2.1 x.1.1.2.2.1 x.1.1.2.2.2.1 x.1.1.2.2.2.2.1 x.1.1.2.2.2.2.2.1 x.1.2.1⟩
def yz3:GOk TT prog 9 qw_sp:=q8 (C:=qw_C) (cuts:=vf2) (by kernel_rfl) gu4 func9 (show f9.body=some (z9 f9) by kernel_rfl) (by kernel_rfl) (by kernel_rfl) (by kernel_rfl) fun x y h=>⟨w7,h⟩
def qdl_C:Ctx TT:=⟨k9,[(13,qh_sp.toCall (qi_sp.toCall (qg_sp.toCall (z8 TT)))),(15,zl4 TT 69 6)],4,[],q7,k7,k8⟩
def kr5:j9 TT prog qdl_C.E:=j8 (z4 zt0 (z4 zr2 (z4 zn4 (z5 13)))) (j8 (zc9 zh4) (j6))
def qj9:List (Pos×Cut):= []
def qdl (n:Nat) (x0:Int) (x1:List Ins) (x2 x3 x4:Int) (x5:List Flat) (x6:Bool):Option (((Unit×Bool×Unit)×(Int×Unit×Int×Int×Int×Unit×Unit)×List Ins×List Flat×Unit)×(Unit)):=za7 TT prog qdl_C qj9 f7 (z9 f7) ⟨[],[],[],[],[]⟩ [.ptr 0 32 [.ptr 0 69 [.val (.int .i64),.row 52 (.user 2),.val (.int .u32),.val (.int .i32),.val (.int .u32),.row 117 (.user 5)],.val (.bool)]] [.blk 32 [.nilp,.val (.bool)],.blk 69 [.val (.int .i64),.own 2,.val (.int .u32),.val (.int .i32),.val (.int .u32),.own 3],.row 52 (.user 2),.row 117 (.user 5)] [] n (((x0,x1,x2,x3,x4,x5,()),x6,()),())
def qdl_sp:GSpec TT:=⟨[.ptr 0 32 [.ptr 0 69 [.val (.int .i64),.row 52 (.user 2),.val (.int .u32),.val (.int .i32),.val (.int .u32),.row 117 (.user 5)],.val (.bool)]],[.blk 32 [.nilp,.val (.bool)],.blk 69 [.val (.int .i64),.own 2,.val (.int .u32),.val (.int .i32),.val (.int .u32),.own 3],.row 52 (.user 2),.row 117 (.user 5)],[],fun x=>qdl w7 x.1.1.1 x.1.1.2.1 x.1.1.2.2.1 x.1.1.2.2.2.1 x.1.1.2.2.2.2.1 x.1.1.2.2.2.2.2.1 x.1.2.1⟩
def gm8:GOk TT prog 7 qdl_sp:=q8 (C:=qdl_C) (cuts:=qj9) (by kernel_rfl) kr5 func7 (show f7.body=some (z9 f7) by kernel_rfl) (by kernel_rfl) (by kernel_rfl) (by kernel_rfl) fun x y h=>⟨w7,h⟩
def qdm_C:Ctx TT:=⟨k9,[(13,qh_sp.toCall (qi_sp.toCall (qg_sp.toCall (z8 TT)))),(15,zl4 TT 69 6)],4,[],q7,k7,k8⟩
def kr6:j9 TT prog qdm_C.E:=j8 (z4 zt0 (z4 zr2 (z4 zn4 (z5 13)))) (j8 (zc9 zh4) (j6))
def qk0:List (Pos×Cut):= []
def qdm (n:Nat) (x0:Int) (x1:List Ins) (x2 x3 x4:Int) (x5:List Flat) (x6:Bool):Option (((Unit×Bool×Unit)×(Int×Unit×Int×Int×Int×Unit×Unit)×List Ins×List Flat×Unit)×(Unit)):=za7 TT prog qdm_C qk0 f7 (z9 f7) ⟨[],[],[],[],[]⟩ [.ptr 0 32 [.ptr 0 69 [.val (.int .i64),.row 52 (.user 2),.val (.int .u32),.val (.int .i32),.val (.int .u32),.row 117 (.user 5)],.val (.bool)]] [.blk 32 [.at_ 1 0,.val (.bool)],.blk 69 [.val (.int .i64),.own 2,.val (.int .u32),.val (.int .i32),.val (.int .u32),.own 3],.row 52 (.user 2),.row 117 (.user 5)] [] n (((x0,x1,x2,x3,x4,x5,()),x6,()),())
def qdm_sp:GSpec TT:=⟨[.ptr 0 32 [.ptr 0 69 [.val (.int .i64),.row 52 (.user 2),.val (.int .u32),.val (.int .i32),.val (.int .u32),.row 117 (.user 5)],.val (.bool)]],[.blk 32 [.at_ 1 0,.val (.bool)],.blk 69 [.val (.int .i64),.own 2,.val (.int .u32),.val (.int .i32),.val (.int .u32),.own 3],.row 52 (.user 2),.row 117 (.user 5)],[],fun x=>qdm w7 x.1.1.1 x.1.1.2.1 x.1.1.2.2.1 x.1.1.2.2.2.1 x.1.1.2.2.2.2.1 x.1.1.2.2.2.2.2.1 x.1.2.1⟩
def gm9:GOk TT prog 7 qdm_sp:=q8 (C:=qdm_C) (cuts:=qk0) (by kernel_rfl) kr6 func7 (show f7.body=some (z9 f7) by kernel_rfl) (by kernel_rfl) (by kernel_rfl) (by kernel_rfl) fun x y h=>⟨w7,h⟩
def yf1 (x0:Int) (x1:List Ins) (x2 x3 x4:Int) (x5:List Flat) (x6:Bool):Bool:=(match qh w7 x0 x1 x2 x3 x4 x5 x6 with|some y1=>(y1.2.1)|none=>false)
def qp_C:Ctx TT:=⟨k9,[(13,qh_sp.toCall (qi_sp.toCall (qg_sp.toCall (z8 TT)))),(17,zz1 TT 69 6)],1,[],q7,k7,k8⟩
def gt8:j9 TT prog qp_C.E:=j8 (z4 zt0 (z4 zr2 (z4 zn4 (z5 13)))) (j8 (zf7 zm1) (j6))
def ve6:List (Pos×Cut):= []
def qp (n:Nat) (x0:Bool):Option (((Unit×Bool×Unit)×Unit)×(Int×Int×Unit)):=za7 TT prog qp_C ve6 f8 (z9 f8) ⟨[],[],[],[],[]⟩ [.ptr 0 32 [.nilp,.val (.bool)],.nils] [.blk 32 [.nilp,.val (.bool)]] [.val (.int .u64),.val (.int .i64)] n (((),x0,()),(),())
def qp_sp:GSpec TT:=⟨[.ptr 0 32 [.nilp,.val (.bool)],.nils],[.blk 32 [.nilp,.val (.bool)]],[.val (.int .u64),.val (.int .i64)],fun x=>qp w7 x.1.2.1⟩
def ys6:GOk TT prog 8 qp_sp:=q8 (C:=qp_C) (cuts:=ve6) (by kernel_rfl) gt8 func8 (show f8.body=some (z9 f8) by kernel_rfl) (by kernel_rfl) (by kernel_rfl) (by kernel_rfl) fun x y h=>⟨w7,h⟩
def qx_C:Ctx TT:=⟨k9,[(13,qh_sp.toCall (qi_sp.toCall (qg_sp.toCall (z8 TT)))),(17,zz1 TT 69 6)],1,[],q7,k7,k8⟩
def gu5:j9 TT prog qx_C.E:=j8 (z4 zt0 (z4 zr2 (z4 zn4 (z5 13)))) (j8 (zf7 zm1) (j6))
def vf3:List (Pos×Cut):= []
def qx (n:Nat) (x0:Bool):Option (((Unit×Bool×Unit)×Unit)×(Int×Unit)):=za7 TT prog qx_C vf3 f9 (z9 f9) ⟨[],[],[],[],[]⟩ [.ptr 0 32 [.nilp,.val (.bool)]] [.blk 32 [.nilp,.val (.bool)]] [.val (.int .i64)] n (((),x0,()),())
def qx_sp:GSpec TT:=⟨[.ptr 0 32 [.nilp,.val (.bool)]],[.blk 32 [.nilp,.val (.bool)]],[.val (.int .i64)],fun x=>qx w7 x.1.2.1⟩
def yz4:GOk TT prog 9 qx_sp:=q8 (C:=qx_C) (cuts:=vf3) (by kernel_rfl) gu5 func9 (show f9.body=some (z9 f9) by kernel_rfl) (by kernel_rfl) (by kernel_rfl) (by kernel_rfl) fun x y h=>⟨w7,h⟩
def qax_C:Ctx TT:=⟨k9,[(35,lowerMakeT_sp.toCall)],4,[(0,1)],q7,k7,k8⟩
def kk8:j9 TT prog qax_C.E:=j8 (j5 yl2) (j6)
def qd4:List (Pos×Cut):= []
def qax (n:Nat) (x0:Int) (x1:List Ins) (x2 x3 x4:Int) (x5:List Flat):Option (((Unit×Unit)×(Int×Unit×Int×Int×Int×List Flat×Unit)×List Ins×List Flat×Unit)×(Unit)):=za7 TT prog qax_C qd4 f34 (z9 f34) ⟨[],[],[],[],[]⟩ [.ptr 0 24 [.ptr 0 69 [.val (.int .i64),.row 52 (.user 2),.val (.int .u32),.val (.int .i32),.val (.int .u32),.row 117 (.user 5)]]] [.blk 24 [.at_ 1 0],.blk 69 [.val (.int .i64),.own 2,.val (.int .u32),.val (.int .i32),.val (.int .u32),.row 117 (.user 5)],.row 52 (.user 2),.row 117 (.user 5)] [] n (((x0,x1,x2,x3,x4,x5,()),()),())
def qax_sp:GSpec TT:=⟨[.ptr 0 24 [.ptr 0 69 [.val (.int .i64),.row 52 (.user 2),.val (.int .u32),.val (.int .i32),.val (.int .u32),.row 117 (.user 5)]]],[.blk 24 [.at_ 1 0],.blk 69 [.val (.int .i64),.own 2,.val (.int .u32),.val (.int .i32),.val (.int .u32),.row 117 (.user 5)],.row 52 (.user 2),.row 117 (.user 5)],[],fun x=>qax w7 x.1.1.1 x.1.1.2.1 x.1.1.2.2.1 x.1.1.2.2.2.1 x.1.1.2.2.2.2.1 x.1.1.2.2.2.2.2.1⟩
def jv1:GOk TT prog 34 qax_sp:=q8 (C:=qax_C) (cuts:=qd4) (by kernel_rfl) kk8 func34 (show f34.body=some (z9 f34) by kernel_rfl) (by kernel_rfl) (by kernel_rfl) (by kernel_rfl) fun x y h=>⟨w7,h⟩
def qbp_C:Ctx TT:=⟨k9,[(51,qam_sp.toCall),(53,qaq_sp.toCall (z8 TT)),(92,qat_sp.toCall (z8 TT)),(93,qas_sp.toCall (z8 TT)),(100,qar_sp.toCall (z8 TT))],1,[(14,1),(15,1)],q7,k7,k8⟩
def km6:j9 TT prog qbp_C.E:=j8 (j5 jk4) (j8 (z4 jk5 (z5 53)) (j8 (z4 jk8 (z5 92)) (j8 (z4 jk7 (z5 93)) (j8 (z4 jk6 (z5 100)) (j6)))))
def qf2:List (Pos×Cut):= [([false,false,true],⟨[0,4,5,6,7],[],false,[(5,2,5,.int .u8)],0,false⟩)]
def gc1:DefP TT:=⟨5,28,[28,0,4,5,6],4,52,[(1,0),(2,0),(3,0)],ye4,ye4⟩
def qbp (n:Nat) (x0:List Flat):Option ((List Flat×Unit)×(Outcome×Unit)):=vq3 prog qbp_C qf2 f36 (z9 f36) ⟨[],[],[],[],[]⟩ [.row 117 (.user 5),.nils] [.row 117 (.user 5)] [.val (.user 6)] gc1 n (x0,(),())
def qbp_sp:GSpec TT:=⟨[.row 117 (.user 5),.nils],[.row 117 (.user 5)],[.val (.user 6)],fun x=>qbp w7 x.1⟩
def ka5:GOk TT prog 36 qbp_sp:=yl0 (C:=qbp_C) (cuts:=qf2) (D:=gc1) (by kernel_rfl) km6 func36 (show f36.body=some (z9 f36) by kernel_rfl) (by kernel_rfl) (by kernel_rfl) (by kernel_rfl) ym4 ym4 fun x y h=>⟨w7,h⟩
def qcj_C:Ctx TT:=⟨k9,[(33,yy8 TT 34 (qax_sp.toCall (qal_sp.toCall (z8 TT)))),(34,qax_sp.toCall (qal_sp.toCall (z8 TT))),(36,qbp_sp.toCall (qaw_sp.toCall (qav_sp.toCall (z8 TT))))],3,[],q7,k7,k8⟩
def ko7:j9 TT prog qcj_C.E:=j8 (yg2 jh3 (z4 jv1 (z4 ja4 (z5 34)))) (j8 (z4 jv1 (z4 ja4 (z5 34))) (j8 (z4 ka5 (z4 qz5 (z4 qz4 (z5 36)))) (j6)))
def qh1:List (Pos×Cut):= []
def qcj (n:Nat) (x0:Int) (x1:List Ins) (x2 x3 x4:Int) (x5:List Flat):Option (((Int×Unit×Int×Int×Int×List Flat×Unit)×List Ins×Unit×Unit)×(Int×Unit)):=za7 TT prog qcj_C qh1 f18 (z9 f18) ⟨[],[],[],[],[]⟩ [.ptr 0 69 [.val (.int .i64),.row 52 (.user 2),.val (.int .u32),.val (.int .i32),.val (.int .u32),.row 117 (.user 5)],.nils] [.blk 69 [.val (.int .i64),.own 1,.val (.int .u32),.val (.int .i32),.val (.int .u32),.row 117 (.user 5)],.row 52 (.user 2),.gone] [.val (.int .u64)] n ((x0,x1,x2,x3,x4,x5,()),(),())
def qcj_sp:GSpec TT:=⟨[.ptr 0 69 [.val (.int .i64),.row 52 (.user 2),.val (.int .u32),.val (.int .i32),.val (.int .u32),.row 117 (.user 5)],.nils],[.blk 69 [.val (.int .i64),.own 1,.val (.int .u32),.val (.int .i32),.val (.int .u32),.row 117 (.user 5)],.row 52 (.user 2),.gone],[.val (.int .u64)],fun x=>qcj w7 x.1.1 x.1.2.1 x.1.2.2.1 x.1.2.2.2.1 x.1.2.2.2.2.1 x.1.2.2.2.2.2.1⟩
def kb0:GOk TT prog 18 qcj_sp:=q8 (C:=qcj_C) (cuts:=qh1) (by kernel_rfl) ko7 func18 (show f18.body=some (z9 f18) by kernel_rfl) (by kernel_rfl) (by kernel_rfl) (by kernel_rfl) fun x y h=>⟨w7,h⟩
def qm_C:Ctx TT:=⟨k9,[(13,qh_sp.toCall (qi_sp.toCall (qg_sp.toCall (z8 TT)))),(17,zz1 TT 69 6),(18,qcj_sp.toCall (qbq_sp.toCall (z8 TT)))],4,[(8,1)],q7,k7,k8⟩
def gt5:j9 TT prog qm_C.E:=j8 (z4 zt0 (z4 zr2 (z4 zn4 (z5 13)))) (j8 (zf7 zm1) (j8 (z4 kb0 (z4 qz6 (z5 18))) (j6)))
def ve3:List (Pos×Cut):= []
def qm (n:Nat) (x0:Int) (x1:List Ins) (x2 x3 x4:Int) (x5:List Flat) (x6:Bool):Option (((Unit×Bool×Unit)×(Int×Unit×Int×Int×Int×List Flat×Unit)×List Ins×Unit×Unit)×(Int×Int×Unit)):=za7 TT prog qm_C ve3 f8 (z9 f8) ⟨[],[],[],[],[]⟩ [.ptr 0 32 [.ptr 0 69 [.val (.int .i64),.row 52 (.user 2),.val (.int .u32),.val (.int .i32),.val (.int .u32),.row 117 (.user 5)],.val (.bool)],.nils] [.blk 32 [.at_ 1 0,.val (.bool)],.blk 69 [.val (.int .i64),.own 2,.val (.int .u32),.val (.int .i32),.val (.int .u32),.row 117 (.user 5)],.row 52 (.user 2),.gone] [.val (.int .u64),.val (.int .i64)] n (((x0,x1,x2,x3,x4,x5,()),x6,()),(),())
def qm_sp:GSpec TT:=⟨[.ptr 0 32 [.ptr 0 69 [.val (.int .i64),.row 52 (.user 2),.val (.int .u32),.val (.int .i32),.val (.int .u32),.row 117 (.user 5)],.val (.bool)],.nils],[.blk 32 [.at_ 1 0,.val (.bool)],.blk 69 [.val (.int .i64),.own 2,.val (.int .u32),.val (.int .i32),.val (.int .u32),.row 117 (.user 5)],.row 52 (.user 2),.gone],[.val (.int .u64),.val (.int .i64)],fun x=>qm w7 x.1.1.1 x.1.1.2.1 x.1.1.2.2.1 x.1.1.2.2.2.1 x.1.1.2.2.2.2.1 x.1.1.2.2.2.2.2.1 x.1.2.1⟩
def ys3:GOk TT prog 8 qm_sp:=q8 (C:=qm_C) (cuts:=ve3) (by kernel_rfl) gt5 func8 (show f8.body=some (z9 f8) by kernel_rfl) (by kernel_rfl) (by kernel_rfl) (by kernel_rfl) fun x y h=>⟨w7,h⟩
def ql_C:Ctx TT:=⟨k9,[(12,qn_sp.toCall (z8 TT)),(8,qm_sp.toCall (qp_sp.toCall (qr_sp.toCall (qo_sp.toCall (z8 TT))))),(6,qq_sp.toCall),(5,(CallSpec.forkS [.ptr 0 32 [.ptr 0 69 [.val (.int .i64),.row 52 (.user 2),.val (.int .u32),.val (.int .i32),.val (.int .u32),.row 117 (.user 5)],.val (.bool)],.val (.int .i64),.row 52 (.user 2)] (fun x=>j4 x.1.1.1 x.1.1.2.1 x.1.1.2.2.1 x.1.1.2.2.2.1 x.1.1.2.2.2.2.1 x.1.1.2.2.2.2.2.1 x.1.2.1 x.2.1 x.2.2.1) (qc_sp.toCall ((CallSpec.forkS [.ptr 0 32 [.nilp,.val (.bool)],.val (.int .i64),.row 52 (.user 2)] (fun x=>z7 x.1.2.1 x.2.1 x.2.2.1) (qb_sp.toCall (z8 TT)) (qa_sp.toCall (z8 TT))))) (qd_sp.toCall ((CallSpec.forkS [.ptr 0 32 [.nilp,.val (.bool)],.val (.int .i64),.row 52 (.user 2)] (fun x=>z7 x.1.2.1 x.2.1 x.2.2.1) (qb_sp.toCall (z8 TT)) (qa_sp.toCall (z8 TT))))))),(9,qx_sp.toCall (qw_sp.toCall (z8 TT))),(7,(CallSpec.forkS [.ptr 0 32 [.ptr 0 69 [.val (.int .i64),.row 52 (.user 2),.val (.int .u32),.val (.int .i32),.val (.int .u32),.row 117 (.user 5)],.val (.bool)]] (fun x=>yf1 x.1.1.1 x.1.1.2.1 x.1.1.2.2.1 x.1.1.2.2.2.1 x.1.1.2.2.2.2.1 x.1.1.2.2.2.2.2.1 x.1.2.1) (qdl_sp.toCall (z8 TT)) (qdm_sp.toCall (z8 TT))))],0,[],q7,k7,k8⟩
def gt4:j9 TT prog ql_C.E:=j8 (z4 ys4 (z5 12)) (j8 (z4 ys3 (z4 ys6 (z4 ys7 (z4 ys5 (z5 8))))) (j8 (j5 gc5) (j8 (z6 _ _ (z4 za8 (z6 _ _ (z4 v7 (z5 5)) (z4 v6 (z5 5)))) (z4 za9 (z6 _ _ (z4 v7 (z5 5)) (z4 v6 (z5 5))))) (j8 (z4 yz4 (z4 yz3 (z5 9))) (j8 (z6 _ _ (z4 gm8 (z5 7)) (z4 gm9 (z5 7))) (j6))))))
def ve2:List (Pos×Cut):= []
def ql (n:Nat):Option (Bool):=zg5 TT prog ql_C ve2 f10 (z9 f10) ⟨[],[]⟩ [] [.val (.bool)] n ()
def gc4: ∃f:Option (Bool),f=ql w7:=⟨_,rfl⟩
def zc0:Option (Bool):=Classical.choose gc4
def law29_awakeO_eq:zc0=ql w7:=V9 gc4
def ql_sp:FnSpec TT:=⟨[],[.val (.bool)],fun _=>zc0⟩
def yz0:zd9 TT prog 10 ql_sp:=v9 (C:=ql_C) (by kernel_rfl) gt4 func10 (show f10.body=some (z9 f10) by kernel_rfl) (by kernel_rfl) (by kernel_rfl) (cuts:=ve2) fun x y h=>⟨w7,(congrArg (fun f=>f) law29_awakeO_eq).symm.trans h⟩
end
end Go.X
