import Derived.Test.YtcepemagnfpmdaaGreatIa
set_option linter.defProp false
namespace Go.X
open Go.RowKit Go.V Go.Proofs Tryz
noncomputable section
def qfr_C:Ctx TT:=⟨k9,[],0,[],q7,k7,k8⟩
def kx3:j9 TT prog qfr_C.E:=j6
def qp7:List (Pos×Cut):= []
def qfr (n:Nat):Option (List Bool):=zg5 TT prog qfr_C qp7 f68 (z9 f68) ⟨[],[]⟩ [] [.own 4 (.bool)] n ()
def qfr_sp:FnSpec TT:=⟨[],[.own 4 (.bool)],fun _=>qfr w7⟩
def gs8:zd9 TT prog 68 qfr_sp:=v9 (C:=qfr_C) (by kernel_rfl) kx3 func68 (show f68.body=some (z9 f68) by kernel_rfl) (by kernel_rfl) (by kernel_rfl) (cuts:=qp7) fun x y h=>⟨w7,h⟩
def qcy_C:Ctx TT:=⟨k9,[(68,qfr_sp.toCall)],0,[(1,1),(2,1)],q7,k7,k8⟩
def kq2:j9 TT prog qcy_C.E:=j8 (j5 gs8) (j6)
def qi6:List (Pos×Cut):= []
def qcy (n:Nat):Option ((Unit)×((Bool×List Known×List Bool×Int×Unit)×Unit)):=za7 TT prog qcy_C qi6 f44 (z9 f44) ⟨[],[],[],[],[]⟩ [] [] [.agg [.val (.bool),.row 149 (.user 1),.row 4 (.bool),.val (.int .i64)]] n ()
def qcy_sp:GSpec TT:=⟨[],[],[.agg [.val (.bool),.row 149 (.user 1),.row 4 (.bool),.val (.int .i64)]],fun _=>qcy w7⟩
def gl4:GOk TT prog 44 qcy_sp:=q8 (C:=qcy_C) (cuts:=qi6) (by kernel_rfl) kq2 func44 (show f44.body=some (z9 f44) by kernel_rfl) (by kernel_rfl) (by kernel_rfl) (by kernel_rfl) fun x y h=>⟨w7,h⟩
def qfg_C:Ctx TT:=⟨k9,[],0,[],q7,k7,k8⟩
def kw2:j9 TT prog qfg_C.E:=j6
def qo6:List (Pos×Cut):= []
def qfg (n:Nat) (x0:List Known):Option (List Known):=zg5 TT prog qfg_C qo6 f69 (z9 f69) ⟨[],[]⟩ [.val (.list (.user 1))] [.own 149 (.user 1)] n x0
def qfg_sp:FnSpec TT:=⟨[.val (.list (.user 1))],[.own 149 (.user 1)],fun x=>qfg w7 x⟩
def gr7:zd9 TT prog 69 qfg_sp:=v9 (C:=qfg_C) (by kernel_rfl) kw2 func69 (show f69.body=some (z9 f69) by kernel_rfl) (by kernel_rfl) (by kernel_rfl) (cuts:=qo6) fun x y h=>⟨w7,h⟩
def qfh_C:Ctx TT:=⟨k9,[],0,[],q7,k7,k8⟩
def kw3:j9 TT prog qfh_C.E:=j6
def qo7:List (Pos×Cut):= []
def qfh (n:Nat) (x0:List Bool):Option (List Bool):=zg5 TT prog qfh_C qo7 f70 (z9 f70) ⟨[],[]⟩ [.val (.list (.bool))] [.own 4 (.bool)] n x0
def qfh_sp:FnSpec TT:=⟨[.val (.list (.bool))],[.own 4 (.bool)],fun x=>qfh w7 x⟩
def gr8:zd9 TT prog 70 qfh_sp:=v9 (C:=qfh_C) (by kernel_rfl) kw3 func70 (show f70.body=some (z9 f70) by kernel_rfl) (by kernel_rfl) (by kernel_rfl) (cuts:=qo7) fun x y h=>⟨w7,h⟩
def qch_C:Ctx TT:=⟨k9,[(69,qfg_sp.toCall),(70,qfh_sp.toCall)],2,[(1,1)],q7,k7,k8⟩
def ko5:j9 TT prog qch_C.E:=j8 (j5 gr7) (j8 (j5 gr8) (j6))
def qg9:List (Pos×Cut):= []
def qch (n:Nat) (x0:Bool) (x1:List Known) (x2:List Bool) (x3:Int):Option ((List Known×List Bool×Unit)×((Bool×List Known×List Bool×Int×Unit)×Unit)):=za7 TT prog qch_C qg9 f45 (z9 f45) ⟨[],[],[],[],[]⟩ [.agg [.val (.bool),.row 149 (.user 1),.row 4 (.bool),.val (.int .i64)]] [.row 149 (.user 1),.row 4 (.bool)] [.agg [.val (.bool),.row 149 (.user 1),.row 4 (.bool),.val (.int .i64)]] n ((x0,x1,x2,x3,()),())
def qch_sp:GSpec TT:=⟨[.agg [.val (.bool),.row 149 (.user 1),.row 4 (.bool),.val (.int .i64)]],[.row 149 (.user 1),.row 4 (.bool)],[.agg [.val (.bool),.row 149 (.user 1),.row 4 (.bool),.val (.int .i64)]],fun x=>qch w7 x.1.1 x.1.2.1 x.1.2.2.1 x.1.2.2.2.1⟩
def ka8:GOk TT prog 45 qch_sp:=q8 (C:=qch_C) (cuts:=qg9) (by kernel_rfl) ko5 func45 (show f45.body=some (z9 f45) by kernel_rfl) (by kernel_rfl) (by kernel_rfl) (by kernel_rfl) fun x y h=>⟨w7,h⟩
def qcz_C:Ctx TT:=⟨k9,[],0,[],q7,k7,k8⟩
def kq3:j9 TT prog qcz_C.E:=j6
def qi7:List (Pos×Cut):= []
def qcz (n:Nat) (x0:Int):Option ((Unit)×(((Unit)×(Unit))×Unit)):=za7 TT prog qcz_C qi7 f46 (z9 f46) ⟨[],[],[],[],[]⟩ [.val (.int .u8)] [] [.fn 71 [] []] n (x0,())
def qcz_sp:GSpec TT:=⟨[.val (.int .u8)],[],[.fn 71 [] []],fun x=>qcz w7 x.1⟩
def gl5:GOk TT prog 46 qcz_sp:=q8 (C:=qcz_C) (cuts:=qi7) (by kernel_rfl) kq3 func46 (show f46.body=some (z9 f46) by kernel_rfl) (by kernel_rfl) (by kernel_rfl) (by kernel_rfl) fun x y h=>⟨w7,h⟩
def qda_C:Ctx TT:=⟨k9,[],0,[],q7,k7,k8⟩
def kq4:j9 TT prog qda_C.E:=j6
def qi8:List (Pos×Cut):= []
def qda (n:Nat) (x0:Int):Option ((Unit)×(((Unit)×(Unit))×Unit)):=za7 TT prog qda_C qi8 f46 (z9 f46) ⟨[],[],[],[],[]⟩ [.val (.int .u8)] [] [.fn 72 [] []] n (x0,())
def qda_sp:GSpec TT:=⟨[.val (.int .u8)],[],[.fn 72 [] []],fun x=>qda w7 x.1⟩
def gl7:GOk TT prog 46 qda_sp:=q8 (C:=qda_C) (cuts:=qi8) (by kernel_rfl) kq4 func46 (show f46.body=some (z9 f46) by kernel_rfl) (by kernel_rfl) (by kernel_rfl) (by kernel_rfl) fun x y h=>⟨w7,h⟩
def qdb_C:Ctx TT:=⟨k9,[],0,[],q7,k7,k8⟩
def kq5:j9 TT prog qdb_C.E:=j6
def qi9:List (Pos×Cut):= []
def qdb (n:Nat) (x0:Int):Option ((Unit)×(((Unit)×(Unit))×Unit)):=za7 TT prog qdb_C qi9 f46 (z9 f46) ⟨[],[],[],[],[]⟩ [.val (.int .u8)] [] [.fn 73 [] []] n (x0,())
def qdb_sp:GSpec TT:=⟨[.val (.int .u8)],[],[.fn 73 [] []],fun x=>qdb w7 x.1⟩
def gl8:GOk TT prog 46 qdb_sp:=q8 (C:=qdb_C) (cuts:=qi9) (by kernel_rfl) kq5 func46 (show f46.body=some (z9 f46) by kernel_rfl) (by kernel_rfl) (by kernel_rfl) (by kernel_rfl) fun x y h=>⟨w7,h⟩
def qdc_C:Ctx TT:=⟨k9,[],0,[],q7,k7,k8⟩
def kq6:j9 TT prog qdc_C.E:=j6
def qj0:List (Pos×Cut):= []
def qdc (n:Nat) (x0:Int):Option ((Unit)×(((Unit)×(Unit))×Unit)):=za7 TT prog qdc_C qj0 f46 (z9 f46) ⟨[],[],[],[],[]⟩ [.val (.int .u8)] [] [.fn 74 [] []] n (x0,())
def qdc_sp:GSpec TT:=⟨[.val (.int .u8)],[],[.fn 74 [] []],fun x=>qdc w7 x.1⟩
def gl9:GOk TT prog 46 qdc_sp:=q8 (C:=qdc_C) (cuts:=qj0) (by kernel_rfl) kq6 func46 (show f46.body=some (z9 f46) by kernel_rfl) (by kernel_rfl) (by kernel_rfl) (by kernel_rfl) fun x y h=>⟨w7,h⟩
def qdd_C:Ctx TT:=⟨k9,[],0,[],q7,k7,k8⟩
def kq7:j9 TT prog qdd_C.E:=j6
def qj1:List (Pos×Cut):= []
def qdd (n:Nat) (x0:Int):Option ((Unit)×(((Unit)×(Unit))×Unit)):=za7 TT prog qdd_C qj1 f46 (z9 f46) ⟨[],[],[],[],[]⟩ [.val (.int .u8)] [] [.fn 75 [] []] n (x0,())
def qdd_sp:GSpec TT:=⟨[.val (.int .u8)],[],[.fn 75 [] []],fun x=>qdd w7 x.1⟩
def gm0:GOk TT prog 46 qdd_sp:=q8 (C:=qdd_C) (cuts:=qj1) (by kernel_rfl) kq7 func46 (show f46.body=some (z9 f46) by kernel_rfl) (by kernel_rfl) (by kernel_rfl) (by kernel_rfl) fun x y h=>⟨w7,h⟩
def qde_C:Ctx TT:=⟨k9,[],0,[],q7,k7,k8⟩
def kq8:j9 TT prog qde_C.E:=j6
def qj2:List (Pos×Cut):= []
def qde (n:Nat) (x0:Int):Option ((Unit)×(((Unit)×(Unit))×Unit)):=za7 TT prog qde_C qj2 f46 (z9 f46) ⟨[],[],[],[],[]⟩ [.val (.int .u8)] [] [.fn 76 [] []] n (x0,())
def qde_sp:GSpec TT:=⟨[.val (.int .u8)],[],[.fn 76 [] []],fun x=>qde w7 x.1⟩
def gm1:GOk TT prog 46 qde_sp:=q8 (C:=qde_C) (cuts:=qj2) (by kernel_rfl) kq8 func46 (show f46.body=some (z9 f46) by kernel_rfl) (by kernel_rfl) (by kernel_rfl) (by kernel_rfl) fun x y h=>⟨w7,h⟩
def yt3 (x0:Int):Bool:=(decide (x0=(14:Int)))
def yt4 (x0:Int):Bool:=((!(decide (x0=(14:Int))))&&(decide (x0=(15:Int))))
def yt5 (x0:Int):Bool:=((!(decide (x0=(14:Int))))&&((!(decide (x0=(15:Int))))&&(decide (x0=(16:Int)))))
def yt6 (x0:Int):Bool:=((!(decide (x0=(14:Int))))&&((!(decide (x0=(15:Int))))&&((!(decide (x0=(16:Int))))&&(decide (x0=(28:Int))))))
def yt7 (x0:Int):Bool:=((!(decide (x0=(14:Int))))&&((!(decide (x0=(15:Int))))&&((!(decide (x0=(16:Int))))&&((!(decide (x0=(28:Int))))&&(decide (x0<=(13:Int)))))))
def qbe_C:Ctx TT:=⟨k9,[],0,[],q7,k7,k8⟩
def kl5:j9 TT prog qbe_C.E:=j6
def qe1:List (Pos×Cut):= []
def qbe (n:Nat) (x0:Bool) (x1:Int):Option ((Unit)×((Unit)⊕(Int×Unit))):=kc9 TT prog qbe_C qe1 f122 (z9 f122) ⟨[],[],[],[],[]⟩ [.val (.bool),.val (.int .i64)] [] [] (.ifc 34 (.val (.int .i64))) n (x0,x1,())
def qbe_sp:PSpec TT:=⟨[.val (.bool),.val (.int .i64)],[],[],.ifc 34 (.val (.int .i64)),fun x=>qbe w7 x.1 x.2.1⟩
def vz6:POk TT prog 122 qbe_sp:=jk3 (C:=qbe_C) (cuts:=qe1) (by kernel_rfl) kl5 func122 (show f122.body=some (z9 f122) by kernel_rfl) (by kernel_rfl) (by kernel_rfl) (by kernel_rfl) fun x y h=>⟨w7,h⟩
def qy_C:Ctx TT:=⟨k9,[(122,qbe_sp.toCall (z8 TT))],4,[],q7,k7,k8⟩
def gu6:j9 TT prog qy_C.E:=j8 (yh2 vz6 (z5 122)) (j6)
def vf4:List (Pos×Cut):= []
def qy (n:Nat) (x0:List Ins) (x1:List Place) (x2:Int) (x3:Bool) (x4:List Known) (x5:List Bool) (x6:Int) (x7:Known):Option (((List Ins×Unit×Int×Bool×Unit×Unit×Int×Unit)×List Place×List Known×List Bool×Unit)×((Span×Unit)⊕(Int×Unit))):=kc9 TT prog qy_C vf4 f123 (z9 f123) ⟨[],[],[],[],[]⟩ [.ptr 0 104 [.val (.list (.user 2)),.dr 102 4 [0,149,4,0],.val (.int .i64),.val (.bool),.row 149 (.user 1),.row 4 (.bool),.val (.int .i64)],.val (.user 1)] [.blk 104 [.val (.list (.user 2)),.own 1,.val (.int .i64),.val (.bool),.own 2,.own 3,.val (.int .i64)],.dr 102 4 [0,149,4,0],.row 149 (.user 1),.row 4 (.bool)] [.val (.user 0)] (.ifc 34 (.val (.int .i64))) n ((x0,x1,x2,x3,x4,x5,x6,()),x7,())
def gx5 (n:Nat) (x0 x1 x2 x3 x4 x5 x6 x7):qy n x0 x1 x2 x3 x4 x5 x6 x7=za0 (qbe w7 (x7.Kind==(0:Int)) (110:Int)) fun y1=>match y1.2 with| .inl z1=>(zb8 (x7.Kind != (1:Int)) (za0 (qbe w7 (x7.Kind != (4:Int)) (111:Int)) fun y2=>match y2.2 with| .inl z2=>(zb8 (x7.Kind==(4:Int)) (some (((x0,(),x2,x3,(),(),x6,()),x1,x4,x5,()),.inl ((⟨IntKind.u64.wrap x6,(65535:Int)⟩:Span),()))) (some (((x0,(),x2,x3,(),(),x6,()),x1,x4,x5,()),.inl ((⟨x7.In_Lo,x7.In_Hi⟩:Span),()))))| .inr e2=>(some (((x0,(),x2,x3,(),(),x6,()),x1,x4,x5,()),.inr (e2.1,())))) (za0 (qbe w7 false (111:Int)) fun y3=>match y3.2 with| .inl z3=>(zb8 (x7.Kind==(4:Int)) (some (((x0,(),x2,x3,(),(),x6,()),x1,x4,x5,()),.inl ((⟨IntKind.u64.wrap x6,(65535:Int)⟩:Span),()))) (some (((x0,(),x2,x3,(),(),x6,()),x1,x4,x5,()),.inl ((⟨x7.In_Lo,x7.In_Hi⟩:Span),()))))| .inr e3=>(some (((x0,(),x2,x3,(),(),x6,()),x1,x4,x5,()),.inr (e3.1,())))))| .inr e1=>(some (((x0,(),x2,x3,(),(),x6,()),x1,x4,x5,()),.inr (e1.1,()))):=by kernel_rfl
def qy_sp:PSpec TT:=⟨[.ptr 0 104 [.val (.list (.user 2)),.dr 102 4 [0,149,4,0],.val (.int .i64),.val (.bool),.row 149 (.user 1),.row 4 (.bool),.val (.int .i64)],.val (.user 1)],[.blk 104 [.val (.list (.user 2)),.own 1,.val (.int .i64),.val (.bool),.own 2,.own 3,.val (.int .i64)],.dr 102 4 [0,149,4,0],.row 149 (.user 1),.row 4 (.bool)],[.val (.user 0)],.ifc 34 (.val (.int .i64)),fun x=>qy w7 x.1.1 x.1.2.1 x.1.2.2.1 x.1.2.2.2.1 x.1.2.2.2.2.1 x.1.2.2.2.2.2.1 x.1.2.2.2.2.2.2.1 x.2.1⟩
def gx7:POk TT prog 123 qy_sp:=jk3 (C:=qy_C) (cuts:=vf4) (by kernel_rfl) gu6 func123 (show f123.body=some (z9 f123) by kernel_rfl) (by kernel_rfl) (by kernel_rfl) (by kernel_rfl) fun x y h=>⟨w7,h⟩
def gx6 (x0:List Ins) (x1:List Place) (x2:Int) (x3:Bool) (x4:List Known) (x5:List Bool) (x6:Int) (x7:Known) (y) (h:qy w7 x0 x1 x2 x3 x4 x5 x6 x7=some y):y.1=((x0,(),x2,x3,(),(),x6,()),x1,x4,x5,()):=by
 rw [gx5] at h
 try simp only [zb8,za0] at h
 repeat' split at h
 all_goals first|(cases h;done)|(cases h;rfl)
def vu9: ∀x y,qy_sp.g x=some y->qs2 qy_sp.ps qy_sp.post x y.1:=by
 intro x y h σ m;have e:qy_sp.g x=qy w7 x.1.1 x.1.2.1 x.1.2.2.1 x.1.2.2.2.1 x.1.2.2.2.2.1 x.1.2.2.2.2.2.1 x.1.2.2.2.2.2.2.1 x.2.1:=by kernel_rfl
 show mkP TT σ qy_sp.post y.1 m=Ent.blk 104 (zs2 TT σ [.val (.list (.user 2)),.dr 102 4 [0,149,4,0],.val (.int .i64),.val (.bool),.row 149 (.user 1),.row 4 (.bool),.val (.int .i64)] x.1 1)::yf2 TT [.val (.list (.user 2)),.dr 102 4 [0,149,4,0],.val (.int .i64),.val (.bool),.row 149 (.user 1),.row 4 (.bool),.val (.int .i64)] x.1;rw [gx6 x.1.1 x.1.2.1 x.1.2.2.1 x.1.2.2.2.1 x.1.2.2.2.2.1 x.1.2.2.2.2.2.1 x.1.2.2.2.2.2.2.1 x.2.1 y (e.symm.trans h)];kernel_rfl
def qdh_C:Ctx TT:=⟨k9,[(123,qy_sp.toKeep (z8 TT))],4,[],q7,k7,k8⟩
def kr1:j9 TT prog qdh_C.E:=j8 (vu5 gx7 vu9 (z5 123)) (j6)
def qj5:List (Pos×Cut):= []
def qdh (n:Nat) (x0:List Ins) (x1:List Place) (x2:Int) (x3:Bool) (x4:List Known) (x5:List Bool) (x6:Int) (x7:Ins):Option (((List Ins×Unit×Int×Bool×Unit×Unit×Int×Unit)×List Place×List Known×List Bool×Unit)×((Unit)⊕(Int×Unit))):=kc9 TT prog qdh_C qj5 f74 (z9 f74) ⟨[],[],[],[],[]⟩ [.ptr 0 104 [.val (.list (.user 2)),.dr 102 4 [0,149,4,0],.val (.int .i64),.val (.bool),.row 149 (.user 1),.row 4 (.bool),.val (.int .i64)],.val (.user 2)] [.blk 104 [.val (.list (.user 2)),.own 1,.val (.int .i64),.val (.bool),.own 2,.own 3,.val (.int .i64)],.dr 102 4 [0,149,4,0],.row 149 (.user 1),.row 4 (.bool)] [] (.ifc 34 (.val (.int .i64))) n ((x0,x1,x2,x3,x4,x5,x6,()),x7,())
def qdh_sp:PSpec TT:=⟨[.ptr 0 104 [.val (.list (.user 2)),.dr 102 4 [0,149,4,0],.val (.int .i64),.val (.bool),.row 149 (.user 1),.row 4 (.bool),.val (.int .i64)],.val (.user 2)],[.blk 104 [.val (.list (.user 2)),.own 1,.val (.int .i64),.val (.bool),.own 2,.own 3,.val (.int .i64)],.dr 102 4 [0,149,4,0],.row 149 (.user 1),.row 4 (.bool)],[],.ifc 34 (.val (.int .i64)),fun x=>qdh w7 x.1.1 x.1.2.1 x.1.2.2.1 x.1.2.2.2.1 x.1.2.2.2.2.1 x.1.2.2.2.2.2.1 x.1.2.2.2.2.2.2.1 x.2.1⟩
def gm4:POk TT prog 74 qdh_sp:=jk3 (C:=qdh_C) (cuts:=qj5) (by kernel_rfl) kr1 func74 (show f74.body=some (z9 f74) by kernel_rfl) (by kernel_rfl) (by kernel_rfl) (by kernel_rfl) fun x y h=>⟨w7,h⟩
def qfs_C:Ctx TT:=⟨k9,[],8,[(2,1)],q7,k7,k8⟩
def kx5:j9 TT prog qfs_C.E:=j6
def qfs (x0:List Ins) (x1:List Place) (x2:Int) (x3:Bool) (x4:List Known) (x5:List Bool) (x6:Int) (x7:List Place) (x8 x9 x10:Int):Option ((Unit×Unit)×(List Ins×Unit×Int×Bool×Unit×Unit×Int×Unit)×List Place×List Known×List Bool×(Unit×Unit)×List Place×(Int×Int×Unit)×Unit):=jv8 prog qfs_C f43 (z9 f43) [.ptr 0 98 [.ptr 0 104 [.val (.list (.user 2)),.dr 102 4 [0,149,4,0],.val (.int .i64),.val (.bool),.row 149 (.user 1),.row 4 (.bool),.val (.int .i64)]],.ptr 0 80 [.dr 102 4 [0,149,4,0]],.ptr 0 36 [.val (.int .i64),.val (.int .i64)]] (.ifc 34 (.val (.int .i64))) [.blk 98 [.at_ 1 0],.blk 104 [.val (.list (.user 2)),.own 2,.val (.int .i64),.val (.bool),.own 3,.own 4,.val (.int .i64)],.dr 102 4 [0,149,4,0],.row 149 (.user 1),.row 4 (.bool),.blk 80 [.nils],.dr 102 4 [0,149,4,0],.blk 36 [.val (.int .i64),.val (.int .i64)]] (((x0,x1,x2,x3,x4,x5,x6,()),()),(x7,()),(x8,x9,()),x10,())
def vd5:DSpec TT:=⟨[.ptr 0 98 [.ptr 0 104 [.val (.list (.user 2)),.dr 102 4 [0,149,4,0],.val (.int .i64),.val (.bool),.row 149 (.user 1),.row 4 (.bool),.val (.int .i64)]],.ptr 0 80 [.dr 102 4 [0,149,4,0]],.ptr 0 36 [.val (.int .i64),.val (.int .i64)]],.ifc 34 (.val (.int .i64)),[.blk 98 [.at_ 1 0],.blk 104 [.val (.list (.user 2)),.own 2,.val (.int .i64),.val (.bool),.own 3,.own 4,.val (.int .i64)],.dr 102 4 [0,149,4,0],.row 149 (.user 1),.row 4 (.bool),.blk 80 [.nils],.dr 102 4 [0,149,4,0],.blk 36 [.val (.int .i64),.val (.int .i64)]],fun x=>qfs x.1.1.1 x.1.1.2.1 x.1.1.2.2.1 x.1.1.2.2.2.1 x.1.1.2.2.2.2.1 x.1.1.2.2.2.2.2.1 x.1.1.2.2.2.2.2.2.1 x.2.1.1 x.2.2.1.1 x.2.2.1.2.1 x.2.2.2.1⟩
def kx4:DOk TT prog 43 vd5:=jt7 (C:=qfs_C) (by kernel_rfl) kx5 func43 (show f43.body=some (z9 f43) by kernel_rfl) (by kernel_rfl) (by kernel_rfl) (by kernel_rfl) (by kernel_rfl) fun x y h=>h
def qcf_C:Ctx TT:=⟨k9,[],0,[],q7,k7,k8⟩
def ko3:j9 TT prog qcf_C.E:=j6
def qg7:List (Pos×Cut):= []
def qcf (n:Nat) (x0:Int):Option (Span):=zg5 TT prog qcf_C qg7 f180 (z9 f180) ⟨[],[]⟩ [.val (.int .u64)] [.val (.user 0)] n x0
def qcf_sp:FnSpec TT:=⟨[.val (.int .u64)],[.val (.user 0)],fun x=>qcf w7 x⟩
def ka6:zd9 TT prog 180 qcf_sp:=v9 (C:=qcf_C) (by kernel_rfl) ko3 func180 (show f180.body=some (z9 f180) by kernel_rfl) (by kernel_rfl) (by kernel_rfl) (cuts:=qg7) fun x y h=>⟨w7,h⟩
def qz_C:Ctx TT:=⟨k9,[(180,qcf_sp.toCall)],4,[(3,1)],q7,k7,k8⟩
def gu7:j9 TT prog qz_C.E:=j8 (j5 ka6) (j6)
def vf5:List (Pos×Cut):= []
def qz (n:Nat) (x0:List Ins) (x1:List Place) (x2:Int) (x3:Bool) (x4:List Known) (x5:List Bool) (x6:Int) (x7:Ins):Option (((List Ins×Unit×Int×Bool×Unit×Unit×Int×Unit)×List Place×List Known×List Bool×Unit)×(Known×Unit)):=za7 TT prog qz_C vf5 f125 (z9 f125) ⟨[],[],[],[],[]⟩ [.ptr 0 104 [.val (.list (.user 2)),.dr 102 4 [0,149,4,0],.val (.int .i64),.val (.bool),.row 149 (.user 1),.row 4 (.bool),.val (.int .i64)],.val (.user 2)] [.blk 104 [.val (.list (.user 2)),.own 1,.val (.int .i64),.val (.bool),.own 2,.own 3,.val (.int .i64)],.dr 102 4 [0,149,4,0],.row 149 (.user 1),.row 4 (.bool)] [.val (.user 1)] n ((x0,x1,x2,x3,x4,x5,x6,()),x7,())
def gx8 (n:Nat) (x0 x1 x2 x3 x4 x5 x6 x7):qz n x0 x1 x2 x3 x4 x5 x6 x7=zb8 x7.UseImm (za0 (qcf w7 (IntKind.u64.wrap x7.Imm)) fun y1=>some (((x0,(),x2,x3,(),(),x6,()),x1,x4,x5,()),((⟨(1:Int),y1.Lo,y1.Hi⟩:Known),()))) (if 0<=x7.Src/\x7.Src<((x4.length:Nat):Int) then (some (((x0,(),x2,x3,(),(),x6,()),x1,x4,x5,()),(x4.getD x7.Src.toNat vx3,()))) else none):=by kernel_rfl
def qz_sp:GSpec TT:=⟨[.ptr 0 104 [.val (.list (.user 2)),.dr 102 4 [0,149,4,0],.val (.int .i64),.val (.bool),.row 149 (.user 1),.row 4 (.bool),.val (.int .i64)],.val (.user 2)],[.blk 104 [.val (.list (.user 2)),.own 1,.val (.int .i64),.val (.bool),.own 2,.own 3,.val (.int .i64)],.dr 102 4 [0,149,4,0],.row 149 (.user 1),.row 4 (.bool)],[.val (.user 1)],fun x=>qz w7 x.1.1 x.1.2.1 x.1.2.2.1 x.1.2.2.2.1 x.1.2.2.2.2.1 x.1.2.2.2.2.2.1 x.1.2.2.2.2.2.2.1 x.2.1⟩
def gy0:GOk TT prog 125 qz_sp:=q8 (C:=qz_C) (cuts:=vf5) (by kernel_rfl) gu7 func125 (show f125.body=some (z9 f125) by kernel_rfl) (by kernel_rfl) (by kernel_rfl) (by kernel_rfl) fun x y h=>⟨w7,h⟩
def gx9 (x0:List Ins) (x1:List Place) (x2:Int) (x3:Bool) (x4:List Known) (x5:List Bool) (x6:Int) (x7:Ins) (y) (h:qz w7 x0 x1 x2 x3 x4 x5 x6 x7=some y):y.1=((x0,(),x2,x3,(),(),x6,()),x1,x4,x5,()):=by
 rw [gx8] at h
 try simp only [zb8,za0] at h
 repeat' split at h
 all_goals first|(cases h;done)|(cases h;rfl)
def vv0: ∀x y,qz_sp.g x=some y->qs2 qz_sp.ps qz_sp.post x y.1:=by
 intro x y h σ m;have e:qz_sp.g x=qz w7 x.1.1 x.1.2.1 x.1.2.2.1 x.1.2.2.2.1 x.1.2.2.2.2.1 x.1.2.2.2.2.2.1 x.1.2.2.2.2.2.2.1 x.2.1:=by kernel_rfl
 show mkP TT σ qz_sp.post y.1 m=Ent.blk 104 (zs2 TT σ [.val (.list (.user 2)),.dr 102 4 [0,149,4,0],.val (.int .i64),.val (.bool),.row 149 (.user 1),.row 4 (.bool),.val (.int .i64)] x.1 1)::yf2 TT [.val (.list (.user 2)),.dr 102 4 [0,149,4,0],.val (.int .i64),.val (.bool),.row 149 (.user 1),.row 4 (.bool),.val (.int .i64)] x.1;rw [gx9 x.1.1 x.1.2.1 x.1.2.2.1 x.1.2.2.2.1 x.1.2.2.2.2.1 x.1.2.2.2.2.2.1 x.1.2.2.2.2.2.2.1 x.2.1 y (e.symm.trans h)];kernel_rfl
def qfq_C:Ctx TT:=⟨k9,[],0,[],q7,k7,k8⟩
def kx2:j9 TT prog qfq_C.E:=j6
def qp6:List (Pos×Cut):= []
def qfq (n:Nat) (x0:Span):Option (Bool):=zg5 TT prog qfq_C qp6 f187 (z9 f187) ⟨[],[]⟩ [.val (.user 0)] [.val (.bool)] n x0
def qfq_sp:FnSpec TT:=⟨[.val (.user 0)],[.val (.bool)],fun x=>qfq w7 x⟩
def gs7:zd9 TT prog 187 qfq_sp:=v9 (C:=qfq_C) (by kernel_rfl) kx2 func187 (show f187.body=some (z9 f187) by kernel_rfl) (by kernel_rfl) (by kernel_rfl) (cuts:=qp6) fun x y h=>⟨w7,h⟩
def qdw_C:Ctx TT:=⟨k9,[(180,qcf_sp.toCall),(187,qfq_sp.toCall)],0,[],q7,k7,k8⟩
def ks6:j9 TT prog qdw_C.E:=j8 (j5 ka6) (j8 (j5 gs7) (j6))
def ql0:List (Pos×Cut):= [([false,true,false,true],⟨[1],[],false,[],0,false⟩),([false,false,false,false,true,false,true],⟨[1],[],false,[],0,false⟩)]
def qdw (n:Nat) (x0:Known):Option (Bool):=zg5 TT prog qdw_C ql0 f183 (z9 f183) ⟨[],[]⟩ [.val (.user 1)] [.val (.bool)] n x0
def qdw_sp:FnSpec TT:=⟨[.val (.user 1)],[.val (.bool)],fun x=>qdw w7 x⟩
def gn9:zd9 TT prog 183 qdw_sp:=v9 (C:=qdw_C) (by kernel_rfl) ks6 func183 (show f183.body=some (z9 f183) by kernel_rfl) (by kernel_rfl) (by kernel_rfl) (cuts:=ql0) fun x y h=>⟨w7,h⟩
def qdx_C:Ctx TT:=⟨k9,[],0,[(3,1)],q7,k7,k8⟩
def ks7:j9 TT prog qdx_C.E:=j6
def ql1:List (Pos×Cut):= []
def qdx (n:Nat) (x0:Known):Option (Span×Bool):=zg5 TT prog qdx_C ql1 f184 (z9 f184) ⟨[],[]⟩ [.val (.user 1)] [.val (.user 0),.val (.bool)] n x0
def qdx_sp:FnSpec TT:=⟨[.val (.user 1)],[.val (.user 0),.val (.bool)],fun x=>qdx w7 x⟩
def go0:zd9 TT prog 184 qdx_sp:=v9 (C:=qdx_C) (by kernel_rfl) ks7 func184 (show f184.body=some (z9 f184) by kernel_rfl) (by kernel_rfl) (by kernel_rfl) (cuts:=ql1) fun x y h=>⟨w7,h⟩
def qdv_C:Ctx TT:=⟨k9,[(183,qdw_sp.toCall),(184,qdx_sp.toCall)],0,[(20,1)],q7,k7,k8⟩
def ks5:j9 TT prog qdv_C.E:=j8 (j5 gn9) (j8 (j5 go0) (j6))
def qk9:List (Pos×Cut):= [([true],⟨[0,1,6,7,8],[],false,[],0,false⟩),([false,false,true],⟨[0,1,6,7,8,15],[],false,[],0,false⟩),([true,true,false,false,true],⟨[0,1,6,7,8,33],[],false,[],0,false⟩),([true,true,true,true,false,false,true],⟨[0,1,6,7,8,51],[],false,[],0,false⟩),([true,true,true,true],⟨[0,1,6,8,10,11,12,13,14],[],false,[],0,false⟩),([false,false,true,true,true,true,true],⟨[0,1,6,8,10,11,12,13,14,90],[],false,[],0,false⟩),([true,true,false,false,true,true,true,true,true],⟨[0,1,6,8,10,12,14,109],[],false,[],0,false⟩),([true,true,true,true,false,false,true,true,true,true,true],⟨[0,6,8,12,120],[],false,[],0,false⟩),([false,true,true,true,true,false,false,true,true,true,true,true],⟨[0,6,8,12,14,120],[],false,[],0,false⟩)]
def qdv (n:Nat) (x0:Int) (x1:Bool) (x2 x3:Known):Option (Known×Int):=zg5 TT prog qdv_C qk9 f128 (z9 f128) ⟨[],[]⟩ [.val (.int .u8),.val (.bool),.val (.user 1),.val (.user 1)] [.val (.user 1),.val (.int .i64)] n (x0,x1,x2,x3)
def qdv_sp:FnSpec TT:=⟨[.val (.int .u8),.val (.bool),.val (.user 1),.val (.user 1)],[.val (.user 1),.val (.int .i64)],fun x=>qdv w7 x.1 x.2.1 x.2.2.1 x.2.2.2⟩
def gn8:zd9 TT prog 128 qdv_sp:=v9 (C:=qdv_C) (by kernel_rfl) ks5 func128 (show f128.body=some (z9 f128) by kernel_rfl) (by kernel_rfl) (by kernel_rfl) (cuts:=qk9) fun x y h=>⟨w7,h⟩
def qdf_C:Ctx TT:=⟨k9,[(122,qbe_sp.toCall (z8 TT))],0,[],q7,k7,k8⟩
def kq9:j9 TT prog qdf_C.E:=j8 (yh2 vz6 (z5 122)) (j6)
def qj3:List (Pos×Cut):= []
def qdf (n:Nat) (x0:Int):Option ((Unit)×((Unit)⊕(Int×Unit))):=kc9 TT prog qdf_C qj3 f119 (z9 f119) ⟨[],[],[],[],[]⟩ [.val (.int .i64)] [] [] (.ifc 34 (.val (.int .i64))) n (x0,())
def qdf_sp:PSpec TT:=⟨[.val (.int .i64)],[],[],.ifc 34 (.val (.int .i64)),fun x=>qdf w7 x.1⟩
def gm2:POk TT prog 119 qdf_sp:=jk3 (C:=qdf_C) (cuts:=qj3) (by kernel_rfl) kq9 func119 (show f119.body=some (z9 f119) by kernel_rfl) (by kernel_rfl) (by kernel_rfl) (by kernel_rfl) fun x y h=>⟨w7,h⟩
def qdj_C:Ctx TT:=⟨k9,[(45,qch_sp.toCall (z8 TT))],4,[(7,1),(9,1)],q7,k7,k8⟩
def kr3:j9 TT prog qdj_C.E:=j8 (z4 ka8 (z5 45)) (j6)
def qj7:List (Pos×Cut):= [([false,true,false,true,true,true],⟨[5,6,27,28],[],false,[],0,false⟩)]
def qdj (n:Nat) (x0:List Ins) (x1:List Place) (x2:Int) (x3:Bool) (x4:List Known) (x5:List Bool) (x6 x7:Int) (x8:Bool) (x9:Int):Option (((List Ins×Unit×Int×Bool×Unit×Unit×Int×Unit)×List Place×List Known×List Bool×Unit)×(Unit)):=za7 TT prog qdj_C qj7 f179 (z9 f179) ⟨[],[],[(0,0,4000000001,.bool)],[],[]⟩ [.ptr 0 104 [.val (.list (.user 2)),.dr 102 4 [0,149,4,0],.val (.int .i64),.val (.bool),.row 149 (.user 1),.row 4 (.bool),.val (.int .i64)],.val (.int .i64),.agg [.val (.bool),.own 2,.own 3,.val (.int .i64)]] [.blk 104 [.val (.list (.user 2)),.own 1,.val (.int .i64),.val (.bool),.own 2,.own 3,.val (.int .i64)],.dr 102 4 [0,149,4,0],.row 149 (.user 1),.row 4 (.bool)] [] n ((x0,x1,x2,x3,x4,x5,x6,()),x7,(x8,(),(),x9,()),())
def qdj_sp:GSpec TT:=⟨[.ptr 0 104 [.val (.list (.user 2)),.dr 102 4 [0,149,4,0],.val (.int .i64),.val (.bool),.row 149 (.user 1),.row 4 (.bool),.val (.int .i64)],.val (.int .i64),.agg [.val (.bool),.own 2,.own 3,.val (.int .i64)]],[.blk 104 [.val (.list (.user 2)),.own 1,.val (.int .i64),.val (.bool),.own 2,.own 3,.val (.int .i64)],.dr 102 4 [0,149,4,0],.row 149 (.user 1),.row 4 (.bool)],[],fun x=>qdj w7 x.1.1 x.1.2.1 x.1.2.2.1 x.1.2.2.2.1 x.1.2.2.2.2.1 x.1.2.2.2.2.2.1 x.1.2.2.2.2.2.2.1 x.2.1 x.2.2.1.1 x.2.2.1.2.2.2.1⟩
def gm6:GOk TT prog 179 qdj_sp:=q8 (C:=qdj_C) (cuts:=qj7) (by kernel_rfl) kr3 func179 (show f179.body=some (z9 f179) by kernel_rfl) (by kernel_rfl) (by kernel_rfl) (by kernel_rfl) fun x y h=>⟨w7,h⟩
def qdg_C:Ctx TT:=⟨k9,[(179,qdj_sp.toCall (z8 TT))],4,[(1,1)],q7,k7,k8⟩
def kr0:j9 TT prog qdg_C.E:=j8 (z4 gm6 (z5 179)) (j6)
def qj4:List (Pos×Cut):= []
def qdg (n:Nat) (x0:List Ins) (x1:List Place) (x2:Int) (x3:Bool) (x4:List Known) (x5:List Bool) (x6:Int) (x7:Bool) (x8:Int):Option (((List Ins×Unit×Int×Bool×Unit×Unit×Int×Unit)×List Place×List Known×List Bool×Unit)×(Unit)):=za7 TT prog qdg_C qj4 f124 (z9 f124) ⟨[],[],[],[],[]⟩ [.ptr 0 104 [.val (.list (.user 2)),.dr 102 4 [0,149,4,0],.val (.int .i64),.val (.bool),.row 149 (.user 1),.row 4 (.bool),.val (.int .i64)],.agg [.val (.bool),.own 2,.own 3,.val (.int .i64)]] [.blk 104 [.val (.list (.user 2)),.own 1,.val (.int .i64),.val (.bool),.own 2,.own 3,.val (.int .i64)],.dr 102 4 [0,149,4,0],.row 149 (.user 1),.row 4 (.bool)] [] n ((x0,x1,x2,x3,x4,x5,x6,()),(x7,(),(),x8,()),())
def qdg_sp:GSpec TT:=⟨[.ptr 0 104 [.val (.list (.user 2)),.dr 102 4 [0,149,4,0],.val (.int .i64),.val (.bool),.row 149 (.user 1),.row 4 (.bool),.val (.int .i64)],.agg [.val (.bool),.own 2,.own 3,.val (.int .i64)]],[.blk 104 [.val (.list (.user 2)),.own 1,.val (.int .i64),.val (.bool),.own 2,.own 3,.val (.int .i64)],.dr 102 4 [0,149,4,0],.row 149 (.user 1),.row 4 (.bool)],[],fun x=>qdg w7 x.1.1 x.1.2.1 x.1.2.2.1 x.1.2.2.2.1 x.1.2.2.2.2.1 x.1.2.2.2.2.2.1 x.1.2.2.2.2.2.2.1 x.2.1.1 x.2.1.2.2.2.1⟩
def gm3:GOk TT prog 124 qdg_sp:=q8 (C:=qdg_C) (cuts:=qj4) (by kernel_rfl) kr0 func124 (show f124.body=some (z9 f124) by kernel_rfl) (by kernel_rfl) (by kernel_rfl) (by kernel_rfl) fun x y h=>⟨w7,h⟩
def qdi_C:Ctx TT:=⟨k9,[(125,qz_sp.toKeep (z8 TT)),(128,qdv_sp.toCall),(119,qdf_sp.toCall (z8 TT)),(124,qdg_sp.toCall (z8 TT))],4,[(4,1),(6,1)],q7,k7,k8⟩
def kr2:j9 TT prog qdi_C.E:=j8 (vs5 gy0 vv0 (z5 125)) (j8 (j5 gn8) (j8 (yh2 gm2 (z5 119)) (j8 (z4 gm3 (z5 124)) (j6))))
def qj6:List (Pos×Cut):= [([true,true],⟨[0,3,4],[],false,[],0,false⟩)]
def qdi (n:Nat) (x0:List Ins) (x1:List Place) (x2:Int) (x3:Bool) (x4:List Known) (x5:List Bool) (x6:Int) (x7:Ins):Option (((List Ins×Unit×Int×Bool×Unit×Unit×Int×Unit)×List Place×List Known×List Bool×Unit)×((Unit)⊕(Int×Unit))):=kc9 TT prog qdi_C qj6 f75 (z9 f75) ⟨[],[],[],[],[]⟩ [.ptr 0 104 [.val (.list (.user 2)),.dr 102 4 [0,149,4,0],.val (.int .i64),.val (.bool),.row 149 (.user 1),.row 4 (.bool),.val (.int .i64)],.val (.user 2)] [.blk 104 [.val (.list (.user 2)),.own 1,.val (.int .i64),.val (.bool),.own 2,.own 3,.val (.int .i64)],.dr 102 4 [0,149,4,0],.row 149 (.user 1),.row 4 (.bool)] [] (.ifc 34 (.val (.int .i64))) n ((x0,x1,x2,x3,x4,x5,x6,()),x7,())
def qdi_sp:PSpec TT:=⟨[.ptr 0 104 [.val (.list (.user 2)),.dr 102 4 [0,149,4,0],.val (.int .i64),.val (.bool),.row 149 (.user 1),.row 4 (.bool),.val (.int .i64)],.val (.user 2)],[.blk 104 [.val (.list (.user 2)),.own 1,.val (.int .i64),.val (.bool),.own 2,.own 3,.val (.int .i64)],.dr 102 4 [0,149,4,0],.row 149 (.user 1),.row 4 (.bool)],[],.ifc 34 (.val (.int .i64)),fun x=>qdi w7 x.1.1 x.1.2.1 x.1.2.2.1 x.1.2.2.2.1 x.1.2.2.2.2.1 x.1.2.2.2.2.2.1 x.1.2.2.2.2.2.2.1 x.2.1⟩
def gm5:POk TT prog 75 qdi_sp:=jk3 (C:=qdi_C) (cuts:=qj6) (by kernel_rfl) kr2 func75 (show f75.body=some (z9 f75) by kernel_rfl) (by kernel_rfl) (by kernel_rfl) (by kernel_rfl) fun x y h=>⟨w7,h⟩
def qft_C:Ctx TT:=⟨k9,[],7,[],q7,k7,k8⟩
def kx7:j9 TT prog qft_C.E:=j6
def qft (x0:List Ins) (x1:List Place) (x2:Int) (x3:Bool) (x4:List Known) (x5:List Bool) (x6 x7 x8:Int):Option ((Unit×Unit)×(List Ins×Unit×Int×Bool×Unit×Unit×Int×Unit)×List Place×List Known×List Bool×(Unit×Unit)×(Int×Int×Unit)×Unit):=jv8 prog qft_C f43 (z9 f43) [.ptr 0 98 [.ptr 0 104 [.val (.list (.user 2)),.row 102 (.user 4),.val (.int .i64),.val (.bool),.row 149 (.user 1),.row 4 (.bool),.val (.int .i64)]],.ptr 0 80 [.own 2],.ptr 0 36 [.val (.int .i64),.val (.int .i64)]] (.rw 1) [.blk 98 [.at_ 1 0],.blk 104 [.val (.list (.user 2)),.own 2,.val (.int .i64),.val (.bool),.own 3,.own 4,.val (.int .i64)],.row 102 (.user 4),.row 149 (.user 1),.row 4 (.bool),.blk 80 [.own 2],.blk 36 [.val (.int .i64),.val (.int .i64)]] (((x0,x1,x2,x3,x4,x5,x6,()),()),((),()),(x7,x8,()),(),())
def vd6:DSpec TT:=⟨[.ptr 0 98 [.ptr 0 104 [.val (.list (.user 2)),.row 102 (.user 4),.val (.int .i64),.val (.bool),.row 149 (.user 1),.row 4 (.bool),.val (.int .i64)]],.ptr 0 80 [.own 2],.ptr 0 36 [.val (.int .i64),.val (.int .i64)]],.rw 1,[.blk 98 [.at_ 1 0],.blk 104 [.val (.list (.user 2)),.own 2,.val (.int .i64),.val (.bool),.own 3,.own 4,.val (.int .i64)],.row 102 (.user 4),.row 149 (.user 1),.row 4 (.bool),.blk 80 [.own 2],.blk 36 [.val (.int .i64),.val (.int .i64)]],fun x=>qft x.1.1.1 x.1.1.2.1 x.1.1.2.2.1 x.1.1.2.2.2.1 x.1.1.2.2.2.2.1 x.1.1.2.2.2.2.2.1 x.1.1.2.2.2.2.2.2.1 x.2.2.1.1 x.2.2.1.2.1⟩
def kx6:DOk TT prog 43 vd6:=jt7 (C:=qft_C) (by kernel_rfl) kx7 func43 (show f43.body=some (z9 f43) by kernel_rfl) (by kernel_rfl) (by kernel_rfl) (by kernel_rfl) (by kernel_rfl) fun x y h=>h
def qbd_C:Ctx TT:=⟨k9,[(42,qfa_sp.toCall),(44,qcy_sp.toCall (z8 TT)),(45,qch_sp.toCall (z8 TT)),(46,(CallSpec.forkS [.val (.int .u8)] (fun x=>yt3 x.1) (qcz_sp.toCall (z8 TT)) (CallSpec.forkS [.val (.int .u8)] (fun x=>yt4 x.1) (qda_sp.toCall (z8 TT)) (CallSpec.forkS [.val (.int .u8)] (fun x=>yt5 x.1) (qdb_sp.toCall (z8 TT)) (CallSpec.forkS [.val (.int .u8)] (fun x=>yt6 x.1) (qdc_sp.toCall (z8 TT)) (CallSpec.forkS [.val (.int .u8)] (fun x=>yt7 x.1) (qdd_sp.toCall (z8 TT)) (qde_sp.toCall (z8 TT)))))))),(74,qdh_sp.toCall (z8 TT)),(75,qdi_sp.toCall (z8 TT))],0,[(3,1),(6,1),(9,1),(10,1),(11,1)],q7,k7,k8⟩
def kl4:j9 TT prog qbd_C.E:=j8 (j5 gr1) (j8 (z4 gl4 (z5 44)) (j8 (z4 ka8 (z5 45)) (j8 (z6 _ _ (z4 gl5 (z5 46)) (z6 _ _ (z4 gl7 (z5 46)) (z6 _ _ (z4 gl8 (z5 46)) (z6 _ _ (z4 gl9 (z5 46)) (z6 _ _ (z4 gm0 (z5 46)) (z4 gm1 (z5 46))))))) (j8 (yh2 gm4 (z5 74)) (j8 (yh2 gm5 (z5 75)) (j6))))))
def qe0:List (Pos×Cut):= [([false,false,true],⟨[0,2,3,5],[],false,[(1,0,102,.nl (.user 4)),(3,4,149,.user 1),(3,5,4,.bool)],1,false⟩),([true,false,false,false,true],⟨[0,2,3,5],[],false,[],1,false⟩),([true],⟨[],[],false,[],2,true⟩),([false,true,false,false,true,false,false,false,true],⟨[],[],false,[],1,true⟩)]
def gc0:DefP TT:=⟨3,18,[18,0,2,3,5],3,43,[(0,0),(1,0),(2,0)],vd6,vd5⟩
def qbd (n:Nat) (x0:List Ins):Option ((Unit)×(List Place×Fault×Unit)):=vq3 prog qbd_C qe0 f30 (z9 f30) ⟨[(0,102,.user 4,true)],[],[],[],[]⟩ [.val (.list (.user 2))] [] [.row 102 (.user 4),.val (.user 3)] gc0 n (x0,())
def qbd_sp:GSpec TT:=⟨[.val (.list (.user 2))],[],[.row 102 (.user 4),.val (.user 3)],fun x=>qbd w7 x.1⟩
def vz5:GOk TT prog 30 qbd_sp:=yl0 (C:=qbd_C) (cuts:=qe0) (D:=gc0) (by kernel_rfl) kl4 func30 (show f30.body=some (z9 f30) by kernel_rfl) (by kernel_rfl) (by kernel_rfl) (by kernel_rfl) kx6 kx4 fun x y h=>⟨w7,h⟩
def qai_C:Ctx TT:=⟨k9,[(30,qbd_sp.toCall (z8 TT))],0,[],q7,k7,k8⟩
def kj3:j9 TT prog qai_C.E:=j8 (z4 vz5 (z5 30)) (j6)
def qc0:List (Pos×Cut):= []
def qai (n:Nat) (x0:List Ins):Option (Fault):=zg5 TT prog qai_C qc0 f14 (z9 f14) ⟨[],[]⟩ [.val (.list (.user 2))] [.val (.user 3)] n x0
def qai_sp:FnSpec TT:=⟨[.val (.list (.user 2))],[.val (.user 3)],fun x=>qai w7 x⟩
def gg0:zd9 TT prog 14 qai_sp:=v9 (C:=qai_C) (by kernel_rfl) kj3 func14 (show f14.body=some (z9 f14) by kernel_rfl) (by kernel_rfl) (by kernel_rfl) (cuts:=qc0) fun x y h=>⟨w7,h⟩
end
end Go.X
