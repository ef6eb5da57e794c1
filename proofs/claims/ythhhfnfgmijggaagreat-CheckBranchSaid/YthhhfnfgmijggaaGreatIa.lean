import Derived.Test.YthhhfnfgmijggaaGreatTb
namespace Go.X
open Go.RowKit Go.V Go.Proofs Tryz
noncomputable section
abbrev ci (x:Int):AV TT.U:=.cell ⟨.int .i64,x⟩
abbrev cb (x:Bool):AV TT.U:=.cell ⟨.bool,x⟩
abbrev cu8 (x:Int):AV TT.U:=.cell ⟨.int .u8,x⟩
abbrev un4 (x:Int):AV TT.U:=.cell ⟨.int .u32,x⟩
abbrev w3 (x:Int):AV TT.U:=.cell ⟨.int .u64,x⟩
def qbb_C:Ctx TT:=⟨za5,[],0,[],k9,za6⟩
theorem go9:v7 TT prog qbb_C.E:=v5
def jp8:List (Pos×Cut):= [([false,false,true],⟨[0,3],[],false,[],0,false⟩)]
def qbb (n:Nat) (x0:Int):Option (Int):=zg2 TT prog qbb_C jp8 f64 (j5 f64) ⟨[],[]⟩ [.val (.int .u8)] [.val (.int .i64)] n x0
noncomputable abbrev uu9:=jz4 TT prog qbb_C jp8 f64 (j5 f64) ⟨[],[]⟩ [.val (.int .u8)] [.val (.int .i64)]
def vk2 (n:Nat) (s0:Int) (s3:Bool):Option (Int):=uu9 n [false,false,true] ⟨[(0,cu8 s0),(3,cb s3)],[]⟩
theorem uf6 (n:Nat) (x0):qbb n x0=q7 (decide (x0>=(1:Int))) (vk2 n x0 (decide (x0<=(12:Int)))) (vk2 n x0 false):=by kernel_rfl
theorem vu8 (n:Nat) (s0 s3):vk2 (n+1) s0 s3=q7 s3 (some (201:Int)) (q7 (s0==(13:Int)) (some (193:Int)) (q7 (s0==(14:Int)) (some (181:Int)) (q7 (s0==(15:Int)) (some (186:Int)) (q7 (s0==(16:Int)) (some (144:Int)) (q7 (decide (s0>=(17:Int))) (q7 (decide (s0<=(27:Int))) (some (218:Int)) (q7 (s0==(28:Int)) (some (128:Int)) (some (0:Int)))) (q7 (s0==(28:Int)) (some (128:Int)) (some (0:Int)))))))):=by kernel_rfl
def qbb_sp:FnSpec TT:=⟨[.val (.int .u8)],[.val (.int .i64)],fun x=>qbb v9 x⟩
theorem wm0:ze8 TT prog 64 qbb_sp:=za0 (C:=qbb_C) (by kernel_rfl) go9 func64 (show f64.body=some (j5 f64) by kernel_rfl) (by kernel_rfl) (by kernel_rfl) (cuts:=jp8) fun x y h=>⟨v9,h⟩
def qet_C:Ctx TT:=⟨za5,[],0,[],k9,za6⟩
theorem gs5:v7 TT prog qet_C.E:=v5
def qr1:List (Pos×Cut):= [([false,true,false,true],⟨[0,1,7,8],[],false,[],0,false⟩)]
def qet (n:Nat) (x0:List Int) (x1:Int):Option (Int):=zg2 TT prog qet_C qr1 f91 (j5 f91) ⟨[],[]⟩ [.val (.list (.int .i64)),.val (.int .i64)] [.val (.int .i64)] n (x0,x1)
def qet_sp:FnSpec TT:=⟨[.val (.list (.int .i64)),.val (.int .i64)],[.val (.int .i64)],fun x=>qet v9 x.1 x.2⟩
theorem ub4:ze8 TT prog 91 qet_sp:=za0 (C:=qet_C) (by kernel_rfl) gs5 func91 (show f91.body=some (j5 f91) by kernel_rfl) (by kernel_rfl) (by kernel_rfl) (cuts:=qr1) fun x y h=>⟨v9,h⟩
def qcx_C:Ctx TT:=⟨za5,[(91,qet_sp.toCall)],0,[],k9,za6⟩
theorem wa3:v7 TT prog qcx_C.E:=w6 (q8 ub4) (v5)
def qp1:List (Pos×Cut):= []
def qcx (n:Nat) (x0:List Int) (x1:Int):Option (Bool):=zg2 TT prog qcx_C qp1 f65 (j5 f65) ⟨[],[]⟩ [.val (.list (.int .i64)),.val (.int .i64)] [.val (.bool)] n (x0,x1)
theorem ud4 (n:Nat) (x0 x1):qcx n x0 x1=j7 (qet v9 x0 x1) fun y1=>some (decide (y1>=(0:Int))):=by kernel_rfl
def qcx_sp:FnSpec TT:=⟨[.val (.list (.int .i64)),.val (.int .i64)],[.val (.bool)],fun x=>qcx v9 x.1 x.2⟩
theorem ua6:ze8 TT prog 65 qcx_sp:=za0 (C:=qcx_C) (by kernel_rfl) wa3 func65 (show f65.body=some (j5 f65) by kernel_rfl) (by kernel_rfl) (by kernel_rfl) (cuts:=qp1) fun x y h=>⟨v9,h⟩
def qby_C:Ctx TT:=⟨za5,[],0,[],k9,za6⟩
theorem gq7:v7 TT prog qby_C.E:=v5
def va2:List (Pos×Cut):= []
def qby (n:Nat) (x0 x1 x2:Int):Option (Bool):=zg2 TT prog qby_C va2 f66 (j5 f66) ⟨[],[]⟩ [.val (.int .i64),.val (.int .i64),.val (.int .i64)] [.val (.bool)] n (x0,x1,x2)
theorem wv2 (n:Nat) (x0 x1 x2):qby n x0 x1 x2=q7 (decide (x0>=x1)) (some (decide (x0<=x2))) (some false):=by kernel_rfl
def qby_sp:FnSpec TT:=⟨[.val (.int .i64),.val (.int .i64),.val (.int .i64)],[.val (.bool)],fun x=>qby v9 x.1 x.2.1 x.2.2⟩
theorem ug8:ze8 TT prog 66 qby_sp:=za0 (C:=qby_C) (by kernel_rfl) gq7 func66 (show f66.body=some (j5 f66) by kernel_rfl) (by kernel_rfl) (by kernel_rfl) (cuts:=va2) fun x y h=>⟨v9,h⟩
def qa_C:Ctx TT:=⟨za5,[(64,qbb_sp.toCall),(65,qcx_sp.toCall),(66,qby_sp.toCall)],0,[(8,1)],k9,za6⟩
theorem wz3:v7 TT prog qa_C.E:=w6 (q8 wm0) (w6 (q8 ua6) (w6 (q8 ug8) (v5)))
def qd0:List (Pos×Cut):= [([true,true,true],⟨[1,3,4],[],false,[],0,false⟩),([true,true,true,true],⟨[1,3,4],[],false,[],0,false⟩),([false,true,true,true,true],⟨[1,3,4,31],[],false,[],0,false⟩),([true,true,true,true,true],⟨[1,3,4],[],false,[],0,false⟩),([false,true,true,true,true,true],⟨[1,3,4,41],[],false,[],0,false⟩),([true,true,true,true,true,true],⟨[1,3,4],[],false,[],0,false⟩),([true,true,true,true,true,true,true],⟨[1,3,4],[],false,[],0,false⟩),([true,true,true,true,true,true,true,true],⟨[1,3,4],[],false,[],0,false⟩),([true,true,true,true,true,true,true,true,true,true],⟨[1,3,4,5],[],false,[],0,false⟩),([true,true,true,true,true,true,true,true,true,true,true],⟨[1,3,4,5,6],[],false,[],0,false⟩)]
def qa (n:Nat) (x0:Ins):Option (Bool):=zg2 TT prog qa_C qd0 f33 (j5 f33) ⟨[],[]⟩ [.val (.user 2)] [.val (.bool)] n x0
noncomputable abbrev qm3:=jz4 TT prog qa_C qd0 f33 (j5 f33) ⟨[],[]⟩ [.val (.user 2)] [.val (.bool)]
def gg3 (n:Nat) (s3 b0_0:Int) (b0_1:Bool) (b0_2 b0_3:Int) (b0_4:Bool) (b0_5 b0_6 b0_7 b1_0:Int) (b1_1:Bool) (b1_2 b1_3:Int) (b1_4:Bool) (b1_5 b1_6 b1_7:Int):Option (Bool):=qm3 n [true,true,true] ⟨[(1,.ptr 0 0),(3,ci s3),(4,.ptr 1 0)],[.blk 42 [cu8 b0_0,cb b0_1,ci b0_2,ci b0_3,cb b0_4,ci b0_5,ci b0_6,ci b0_7],.blk 42 [cu8 b1_0,cb b1_1,ci b1_2,ci b1_3,cb b1_4,ci b1_5,ci b1_6,ci b1_7]]⟩
def kf9 (n:Nat) (s3:Int) (s31:Bool) (b0_0:Int) (b0_1:Bool) (b0_2 b0_3:Int) (b0_4:Bool) (b0_5 b0_6 b0_7 b1_0:Int) (b1_1:Bool) (b1_2 b1_3:Int) (b1_4:Bool) (b1_5 b1_6 b1_7:Int):Option (Bool):=qm3 n [false,true,true,true,true] ⟨[(1,.ptr 0 0),(3,ci s3),(4,.ptr 1 0),(31,cb s31)],[.blk 42 [cu8 b0_0,cb b0_1,ci b0_2,ci b0_3,cb b0_4,ci b0_5,ci b0_6,ci b0_7],.blk 42 [cu8 b1_0,cb b1_1,ci b1_2,ci b1_3,cb b1_4,ci b1_5,ci b1_6,ci b1_7]]⟩
def gg5 (n:Nat) (s3 b0_0:Int) (b0_1:Bool) (b0_2 b0_3:Int) (b0_4:Bool) (b0_5 b0_6 b0_7 b1_0:Int) (b1_1:Bool) (b1_2 b1_3:Int) (b1_4:Bool) (b1_5 b1_6 b1_7:Int):Option (Bool):=qm3 n [true,true,true,true] ⟨[(1,.ptr 0 0),(3,ci s3),(4,.ptr 1 0)],[.blk 42 [cu8 b0_0,cb b0_1,ci b0_2,ci b0_3,cb b0_4,ci b0_5,ci b0_6,ci b0_7],.blk 42 [cu8 b1_0,cb b1_1,ci b1_2,ci b1_3,cb b1_4,ci b1_5,ci b1_6,ci b1_7]]⟩
def gf7 (n:Nat) (s3:Int) (s41:Bool) (b0_0:Int) (b0_1:Bool) (b0_2 b0_3:Int) (b0_4:Bool) (b0_5 b0_6 b0_7 b1_0:Int) (b1_1:Bool) (b1_2 b1_3:Int) (b1_4:Bool) (b1_5 b1_6 b1_7:Int):Option (Bool):=qm3 n [false,true,true,true,true,true] ⟨[(1,.ptr 0 0),(3,ci s3),(4,.ptr 1 0),(41,cb s41)],[.blk 42 [cu8 b0_0,cb b0_1,ci b0_2,ci b0_3,cb b0_4,ci b0_5,ci b0_6,ci b0_7],.blk 42 [cu8 b1_0,cb b1_1,ci b1_2,ci b1_3,cb b1_4,ci b1_5,ci b1_6,ci b1_7]]⟩
def gi7 (n:Nat) (s3 b0_0:Int) (b0_1:Bool) (b0_2 b0_3:Int) (b0_4:Bool) (b0_5 b0_6 b0_7 b1_0:Int) (b1_1:Bool) (b1_2 b1_3:Int) (b1_4:Bool) (b1_5 b1_6 b1_7:Int):Option (Bool):=qm3 n [true,true,true,true,true] ⟨[(1,.ptr 0 0),(3,ci s3),(4,.ptr 1 0)],[.blk 42 [cu8 b0_0,cb b0_1,ci b0_2,ci b0_3,cb b0_4,ci b0_5,ci b0_6,ci b0_7],.blk 42 [cu8 b1_0,cb b1_1,ci b1_2,ci b1_3,cb b1_4,ci b1_5,ci b1_6,ci b1_7]]⟩
def gg6 (n:Nat) (s3 b0_0:Int) (b0_1:Bool) (b0_2 b0_3:Int) (b0_4:Bool) (b0_5 b0_6 b0_7 b1_0:Int) (b1_1:Bool) (b1_2 b1_3:Int) (b1_4:Bool) (b1_5 b1_6 b1_7:Int):Option (Bool):=qm3 n [true,true,true,true,true,true] ⟨[(1,.ptr 0 0),(3,ci s3),(4,.ptr 1 0)],[.blk 42 [cu8 b0_0,cb b0_1,ci b0_2,ci b0_3,cb b0_4,ci b0_5,ci b0_6,ci b0_7],.blk 42 [cu8 b1_0,cb b1_1,ci b1_2,ci b1_3,cb b1_4,ci b1_5,ci b1_6,ci b1_7]]⟩
def gi3 (n:Nat) (s3 b0_0:Int) (b0_1:Bool) (b0_2 b0_3:Int) (b0_4:Bool) (b0_5 b0_6 b0_7 b1_0:Int) (b1_1:Bool) (b1_2 b1_3:Int) (b1_4:Bool) (b1_5 b1_6 b1_7:Int):Option (Bool):=qm3 n [true,true,true,true,true,true,true] ⟨[(1,.ptr 0 0),(3,ci s3),(4,.ptr 1 0)],[.blk 42 [cu8 b0_0,cb b0_1,ci b0_2,ci b0_3,cb b0_4,ci b0_5,ci b0_6,ci b0_7],.blk 42 [cu8 b1_0,cb b1_1,ci b1_2,ci b1_3,cb b1_4,ci b1_5,ci b1_6,ci b1_7]]⟩
def gh2 (n:Nat) (s3 b0_0:Int) (b0_1:Bool) (b0_2 b0_3:Int) (b0_4:Bool) (b0_5 b0_6 b0_7 b1_0:Int) (b1_1:Bool) (b1_2 b1_3:Int) (b1_4:Bool) (b1_5 b1_6 b1_7:Int):Option (Bool):=qm3 n [true,true,true,true,true,true,true,true] ⟨[(1,.ptr 0 0),(3,ci s3),(4,.ptr 1 0)],[.blk 42 [cu8 b0_0,cb b0_1,ci b0_2,ci b0_3,cb b0_4,ci b0_5,ci b0_6,ci b0_7],.blk 42 [cu8 b1_0,cb b1_1,ci b1_2,ci b1_3,cb b1_4,ci b1_5,ci b1_6,ci b1_7]]⟩
def gg1 (n:Nat) (s3 s5 b0_0:Int) (b0_1:Bool) (b0_2 b0_3:Int) (b0_4:Bool) (b0_5 b0_6 b0_7 b1_0:Int) (b1_1:Bool) (b1_2 b1_3:Int) (b1_4:Bool) (b1_5 b1_6 b1_7:Int):Option (Bool):=qm3 n [true,true,true,true,true,true,true,true,true,true] ⟨[(1,.ptr 0 0),(3,ci s3),(4,.ptr 1 0),(5,ci s5)],[.blk 42 [cu8 b0_0,cb b0_1,ci b0_2,ci b0_3,cb b0_4,ci b0_5,ci b0_6,ci b0_7],.blk 42 [cu8 b1_0,cb b1_1,ci b1_2,ci b1_3,cb b1_4,ci b1_5,ci b1_6,ci b1_7]]⟩
def vg6 (n:Nat) (s3 s5:Int) (s6:Bool) (b0_0:Int) (b0_1:Bool) (b0_2 b0_3:Int) (b0_4:Bool) (b0_5 b0_6 b0_7 b1_0:Int) (b1_1:Bool) (b1_2 b1_3:Int) (b1_4:Bool) (b1_5 b1_6 b1_7:Int):Option (Bool):=qm3 n [true,true,true,true,true,true,true,true,true,true,true] ⟨[(1,.ptr 0 0),(3,ci s3),(4,.ptr 1 0),(5,ci s5),(6,cb s6)],[.blk 42 [cu8 b0_0,cb b0_1,ci b0_2,ci b0_3,cb b0_4,ci b0_5,ci b0_6,ci b0_7],.blk 42 [cu8 b1_0,cb b1_1,ci b1_2,ci b1_3,cb b1_4,ci b1_5,ci b1_6,ci b1_7]]⟩
theorem uv9 (n:Nat) (x0):qa n x0=j7 (qbb v9 x0.Op) fun y1=>q7 ((zb1 .i64 y1 (3:Int)) != (0:Int)) (gg3 n y1 x0.Op x0.Narrow x0.Dst x0.Src x0.UseImm x0.Off x0.Imm x0.Size x0.Op false x0.Dst (0:Int) false (0:Int) (0:Int) (0:Int)) (gg3 n y1 x0.Op x0.Narrow x0.Dst x0.Src x0.UseImm x0.Off x0.Imm x0.Size x0.Op false (0:Int) (0:Int) false (0:Int) (0:Int) (0:Int)):=by kernel_rfl
theorem zr8 (n:Nat) (s3 b0_0 b0_1 b0_2 b0_3 b0_4 b0_5 b0_6 b0_7 b1_0 b1_1 b1_2 b1_3 b1_4 b1_5 b1_6 b1_7):gg3 (n+1) s3 b0_0 b0_1 b0_2 b0_3 b0_4 b0_5 b0_6 b0_7 b1_0 b1_1 b1_2 b1_3 b1_4 b1_5 b1_6 b1_7=q7 ((zb1 .i64 s3 (4:Int)) != (0:Int)) (kf9 n s3 true b0_0 b0_1 b0_2 b0_3 b0_4 b0_5 b0_6 b0_7 b1_0 b1_1 b1_2 b1_3 b1_4 b1_5 b1_6 b1_7) (q7 ((zb1 .i64 s3 (8:Int)) != (0:Int)) (kf9 n s3 (!b0_4) b0_0 b0_1 b0_2 b0_3 b0_4 b0_5 b0_6 b0_7 b1_0 b1_1 b1_2 b1_3 b1_4 b1_5 b1_6 b1_7) (kf9 n s3 false b0_0 b0_1 b0_2 b0_3 b0_4 b0_5 b0_6 b0_7 b1_0 b1_1 b1_2 b1_3 b1_4 b1_5 b1_6 b1_7)):=by kernel_rfl
theorem zs0 (n:Nat) (s3 s31 b0_0 b0_1 b0_2 b0_3 b0_4 b0_5 b0_6 b0_7 b1_0 b1_1 b1_2 b1_3 b1_4 b1_5 b1_6 b1_7):kf9 (n+1) s3 s31 b0_0 b0_1 b0_2 b0_3 b0_4 b0_5 b0_6 b0_7 b1_0 b1_1 b1_2 b1_3 b1_4 b1_5 b1_6 b1_7=q7 s31 (gg5 n s3 b0_0 b0_1 b0_2 b0_3 b0_4 b0_5 b0_6 b0_7 b1_0 b1_1 b1_2 b0_3 b1_4 b1_5 b1_6 b1_7) (gg5 n s3 b0_0 b0_1 b0_2 b0_3 b0_4 b0_5 b0_6 b0_7 b1_0 b1_1 b1_2 b1_3 b1_4 b1_5 b1_6 b1_7):=by kernel_rfl
theorem zr7 (n:Nat) (s3 b0_0 b0_1 b0_2 b0_3 b0_4 b0_5 b0_6 b0_7 b1_0 b1_1 b1_2 b1_3 b1_4 b1_5 b1_6 b1_7):gg5 (n+1) s3 b0_0 b0_1 b0_2 b0_3 b0_4 b0_5 b0_6 b0_7 b1_0 b1_1 b1_2 b1_3 b1_4 b1_5 b1_6 b1_7=q7 ((zb1 .i64 s3 (8:Int)) != (0:Int)) (gf7 n s3 b0_4 b0_0 b0_1 b0_2 b0_3 b0_4 b0_5 b0_6 b0_7 b1_0 b1_1 b1_2 b1_3 b1_4 b1_5 b1_6 b1_7) (gf7 n s3 false b0_0 b0_1 b0_2 b0_3 b0_4 b0_5 b0_6 b0_7 b1_0 b1_1 b1_2 b1_3 b1_4 b1_5 b1_6 b1_7):=by kernel_rfl
theorem zs7 (n:Nat) (s3 s41 b0_0 b0_1 b0_2 b0_3 b0_4 b0_5 b0_6 b0_7 b1_0 b1_1 b1_2 b1_3 b1_4 b1_5 b1_6 b1_7):gf7 (n+1) s3 s41 b0_0 b0_1 b0_2 b0_3 b0_4 b0_5 b0_6 b0_7 b1_0 b1_1 b1_2 b1_3 b1_4 b1_5 b1_6 b1_7=q7 s41 (gi7 n s3 b0_0 b0_1 b0_2 b0_3 b0_4 b0_5 b0_6 b0_7 b1_0 b1_1 b1_2 b1_3 true b1_5 b0_6 b1_7) (gi7 n s3 b0_0 b0_1 b0_2 b0_3 b0_4 b0_5 b0_6 b0_7 b1_0 b1_1 b1_2 b1_3 b1_4 b1_5 b1_6 b1_7):=by kernel_rfl
theorem zs5 (n:Nat) (s3 b0_0 b0_1 b0_2 b0_3 b0_4 b0_5 b0_6 b0_7 b1_0 b1_1 b1_2 b1_3 b1_4 b1_5 b1_6 b1_7):gi7 (n+1) s3 b0_0 b0_1 b0_2 b0_3 b0_4 b0_5 b0_6 b0_7 b1_0 b1_1 b1_2 b1_3 b1_4 b1_5 b1_6 b1_7=q7 ((zb1 .i64 s3 (16:Int)) != (0:Int)) (gg6 n s3 b0_0 b0_1 b0_2 b0_3 b0_4 b0_5 b0_6 b0_7 b1_0 b1_1 b1_2 b1_3 b1_4 b0_5 b1_6 b1_7) (gg6 n s3 b0_0 b0_1 b0_2 b0_3 b0_4 b0_5 b0_6 b0_7 b1_0 b1_1 b1_2 b1_3 b1_4 b1_5 b1_6 b1_7):=by kernel_rfl
theorem zr9 (n:Nat) (s3 b0_0 b0_1 b0_2 b0_3 b0_4 b0_5 b0_6 b0_7 b1_0 b1_1 b1_2 b1_3 b1_4 b1_5 b1_6 b1_7):gg6 (n+1) s3 b0_0 b0_1 b0_2 b0_3 b0_4 b0_5 b0_6 b0_7 b1_0 b1_1 b1_2 b1_3 b1_4 b1_5 b1_6 b1_7=q7 ((zb1 .i64 s3 (32:Int)) != (0:Int)) (gi3 n s3 b0_0 b0_1 b0_2 b0_3 b0_4 b0_5 b0_6 b0_7 b1_0 b1_1 b1_2 b1_3 b1_4 b1_5 b1_6 b0_7) (gi3 n s3 b0_0 b0_1 b0_2 b0_3 b0_4 b0_5 b0_6 b0_7 b1_0 b1_1 b1_2 b1_3 b1_4 b1_5 b1_6 b1_7):=by kernel_rfl
theorem zs9 (n:Nat) (s3 b0_0 b0_1 b0_2 b0_3 b0_4 b0_5 b0_6 b0_7 b1_0 b1_1 b1_2 b1_3 b1_4 b1_5 b1_6 b1_7):gi3 (n+1) s3 b0_0 b0_1 b0_2 b0_3 b0_4 b0_5 b0_6 b0_7 b1_0 b1_1 b1_2 b1_3 b1_4 b1_5 b1_6 b1_7=q7 ((zb1 .i64 s3 (64:Int)) != (0:Int)) (gh2 n s3 b0_0 b0_1 b0_2 b0_3 b0_4 b0_5 b0_6 b0_7 b1_0 b0_1 b1_2 b1_3 b1_4 b1_5 b1_6 b1_7) (gh2 n s3 b0_0 b0_1 b0_2 b0_3 b0_4 b0_5 b0_6 b0_7 b1_0 b1_1 b1_2 b1_3 b1_4 b1_5 b1_6 b1_7):=by kernel_rfl
theorem zs3 (n:Nat) (s3 b0_0 b0_1 b0_2 b0_3 b0_4 b0_5 b0_6 b0_7 b1_0 b1_1 b1_2 b1_3 b1_4 b1_5 b1_6 b1_7):gh2 (n+1) s3 b0_0 b0_1 b0_2 b0_3 b0_4 b0_5 b0_6 b0_7 b1_0 b1_1 b1_2 b1_3 b1_4 b1_5 b1_6 b1_7=q7 ((zb1 .i64 s3 (1:Int)) != (0:Int)) (gg1 n s3 (9:Int) b0_0 b0_1 b0_2 b0_3 b0_4 b0_5 b0_6 b0_7 b1_0 b1_1 b1_2 b1_3 b1_4 b1_5 b1_6 b1_7) (gg1 n s3 (10:Int) b0_0 b0_1 b0_2 b0_3 b0_4 b0_5 b0_6 b0_7 b1_0 b1_1 b1_2 b1_3 b1_4 b1_5 b1_6 b1_7):=by kernel_rfl
theorem zs6 (n:Nat) (s3 s5 b0_0 b0_1 b0_2 b0_3 b0_4 b0_5 b0_6 b0_7 b1_0 b1_1 b1_2 b1_3 b1_4 b1_5 b1_6 b1_7):gg1 (n+1) s3 s5 b0_0 b0_1 b0_2 b0_3 b0_4 b0_5 b0_6 b0_7 b1_0 b1_1 b1_2 b1_3 b1_4 b1_5 b1_6 b1_7=q7 ((zb1 .i64 s3 (32:Int))==(0:Int)) (vg6 n s3 s5 true b0_0 b0_1 b0_2 b0_3 b0_4 b0_5 b0_6 b0_7 b1_0 b1_1 b1_2 b1_3 b1_4 b1_5 b1_6 b1_7) (j7 (qcx v9 ([(1:Int),(2:Int),(4:Int),(8:Int)]:List Int) b0_7) fun y1=>vg6 n s3 s5 y1 b0_0 b0_1 b0_2 b0_3 b0_4 b0_5 b0_6 b0_7 b1_0 b1_1 b1_2 b1_3 b1_4 b1_5 b1_6 b1_7):=by kernel_rfl
theorem ku1 (n:Nat) (s3 s5 s6 b0_0 b0_1 b0_2 b0_3 b0_4 b0_5 b0_6 b0_7 b1_0 b1_1 b1_2 b1_3 b1_4 b1_5 b1_6 b1_7):vg6 (n+1) s3 s5 s6 b0_0 b0_1 b0_2 b0_3 b0_4 b0_5 b0_6 b0_7 b1_0 b1_1 b1_2 b1_3 b1_4 b1_5 b1_6 b1_7=q7 (s3 != (0:Int)) (q7 ((b0_0==b1_0)&&((b0_1==b1_1)&&((b0_2==b1_2)&&((b0_3==b1_3)&&((b0_4==b1_4)&&((b0_5==b1_5)&&((b0_6==b1_6)&&(b0_7==b1_7)))))))) (j7 (qby v9 b0_2 (0:Int) s5) fun y1=>q7 y1 (j7 (qby v9 b0_3 (0:Int) (10:Int)) fun y2=>q7 y2 (j7 (qby v9 b0_5 (-32768:Int) (32767:Int)) fun y3=>q7 y3 (j7 (qby v9 b0_6 (-2147483648:Int) (2147483647:Int)) fun y4=>q7 y4 (some s6) (some false)) (some false)) (some false)) (some false)) (some false)) (some false):=by kernel_rfl
def qa_sp:FnSpec TT:=⟨[.val (.user 2)],[.val (.bool)],fun x=>qa v9 x⟩
theorem wf7:ze8 TT prog 33 qa_sp:=za0 (C:=qa_C) (by kernel_rfl) wz3 func33 (show f33.body=some (j5 f33) by kernel_rfl) (by kernel_rfl) (by kernel_rfl) (cuts:=qd0) fun x y h=>⟨v9,h⟩
def qay_C:Ctx TT:=⟨za5,[],0,[],k9,za6⟩
theorem gq8:v7 TT prog qay_C.E:=v5
def ql8:List (Pos×Cut):= []
def qay (n:Nat) (x0:Bool) (x1:Int):Option (Int):=zg2 TT prog qay_C ql8 f32 (j5 f32) ⟨[],[]⟩ [.val (.bool),.val (.int .i64)] [.val (.int .i64)] n (x0,x1)
theorem ui0 (n:Nat) (x0 x1):qay n x0 x1=q7 x0 (some x1) (some (0:Int)):=by kernel_rfl
def qay_sp:FnSpec TT:=⟨[.val (.bool),.val (.int .i64)],[.val (.int .i64)],fun x=>qay v9 x.1 x.2⟩
theorem qe7:ze8 TT prog 32 qay_sp:=za0 (C:=qay_C) (by kernel_rfl) gq8 func32 (show f32.body=some (j5 f32) by kernel_rfl) (by kernel_rfl) (by kernel_rfl) (cuts:=ql8) fun x y h=>⟨v9,h⟩
def qcy_C:Ctx TT:=⟨za5,[(33,qa_sp.toCall),(32,qay_sp.toCall)],1,[],k9,za6⟩
theorem gt2:v7 TT prog qcy_C.E:=w6 (q8 wf7) (w6 (q8 qe7) (v5))
def qw6:List (Pos×Cut):= []
def qcy (n:Nat) (x0:Int) (x1:List Ins):Option (((List Ins×Unit)×Unit)×(Int×Unit)):=zh5 TT prog qcy_C qw6 f31 (j5 f31) ⟨[],[],[],[],[]⟩ [.val (.int .i64),.ptr 0 22 [.val (.list (.user 2))]] [.blk 22 [.val (.list (.user 2))]] [.val (.int .i64)] n (x0,(x1,()),())
theorem wv4 (n:Nat) (x0 x1):qcy n x0 x1=if 0<=x0/\x0<((x1.length:Nat):Int) then (j7 (qa v9 (x1.getD x0.toNat zb2)) fun y1=>j7 (qay v9 (!y1) (4:Int)) fun y2=>some (((x1,()),()),(y2,()))) else none:=by kernel_rfl
def qcy_sp:GSpec TT:=⟨[.val (.int .i64),.ptr 0 22 [.val (.list (.user 2))]],[.blk 22 [.val (.list (.user 2))]],[.val (.int .i64)],fun x=>qcy v9 x.1 x.2.1.1⟩
theorem ws7:GOk TT prog 31 qcy_sp:=za9 (C:=qcy_C) (cuts:=qw6) (by kernel_rfl) gt2 func31 (show f31.body=some (j5 f31) by kernel_rfl) (by kernel_rfl) (by kernel_rfl) (by kernel_rfl) fun x y h=>⟨v9,h⟩
def qbz_C:Ctx TT:=⟨za5,[],0,[],k9,za6⟩
theorem gw7:v7 TT prog qbz_C.E:=v5
def vb5:List (Pos×Cut):= []
def qbz (n:Nat) (x0:Ins):Option (Bool):=zg2 TT prog qbz_C vb5 f35 (j5 f35) ⟨[],[]⟩ [.val (.user 2)] [.val (.bool)] n x0
theorem wn1 (n:Nat) (x0):qbz n x0=q7 (decide (x0.Op>=(16:Int))) (some (decide (x0.Op<=(27:Int)))) (some false):=by kernel_rfl
def qbz_sp:FnSpec TT:=⟨[.val (.user 2)],[.val (.bool)],fun x=>qbz v9 x⟩
theorem gd0:ze8 TT prog 35 qbz_sp:=za0 (C:=qbz_C) (by kernel_rfl) gw7 func35 (show f35.body=some (j5 f35) by kernel_rfl) (by kernel_rfl) (by kernel_rfl) (cuts:=vb5) fun x y h=>⟨v9,h⟩
def qcz_C:Ctx TT:=⟨za5,[(35,qbz_sp.toCall),(32,qay_sp.toCall)],1,[],k9,za6⟩
theorem gq2:v7 TT prog qcz_C.E:=w6 (q8 gd0) (w6 (q8 qe7) (v5))
def ql5:List (Pos×Cut):= []
def qcz (n:Nat) (x0:Int) (x1:List Ins):Option (((List Ins×Unit)×Unit)×(Int×Unit)):=zh5 TT prog qcz_C ql5 f34 (j5 f34) ⟨[],[],[],[],[]⟩ [.val (.int .i64),.ptr 0 22 [.val (.list (.user 2))]] [.blk 22 [.val (.list (.user 2))]] [.val (.int .i64)] n (x0,(x1,()),())
theorem ul0 (n:Nat) (x0 x1):qcz n x0 x1=if 0<=x0/\x0<((x1.length:Nat):Int) then (if 0<=x0/\x0<((x1.length:Nat):Int) then (j7 (qbz v9 (x1.getD x0.toNat zb2)) fun y1=>q7 (!y1) (some (((x1,()),()),((0:Int),()))) (q7 (decide ((IntKind.i64.wrap ((IntKind.i64.wrap (x0+(1:Int)))+((x1.getD x0.toNat zb2).Off)))<=x0)) (some (((x1,()),()),((100:Int),()))) (j7 (qay v9 (decide ((IntKind.i64.wrap ((IntKind.i64.wrap (x0+(1:Int)))+((x1.getD x0.toNat zb2).Off)))>=((x1.length:Nat):Int))) (101:Int)) fun y2=>some (((x1,()),()),(y2,()))))) else none) else none:=by kernel_rfl
def qcz_sp:GSpec TT:=⟨[.val (.int .i64),.ptr 0 22 [.val (.list (.user 2))]],[.blk 22 [.val (.list (.user 2))]],[.val (.int .i64)],fun x=>qcz v9 x.1 x.2.1.1⟩
theorem uk2:GOk TT prog 34 qcz_sp:=za9 (C:=qcz_C) (cuts:=ql5) (by kernel_rfl) gq2 func34 (show f34.body=some (j5 f34) by kernel_rfl) (by kernel_rfl) (by kernel_rfl) (by kernel_rfl) fun x y h=>⟨v9,h⟩
def qda_C:Ctx TT:=⟨za5,[(32,qay_sp.toCall)],1,[],k9,za6⟩
theorem gl3:v7 TT prog qda_C.E:=w6 (q8 qe7) (v5)
def qs1:List (Pos×Cut):= []
def qda (n:Nat) (x0:Int) (x1:List Ins):Option (((List Ins×Unit)×Unit)×(Int×Unit)):=zh5 TT prog qda_C qs1 f36 (j5 f36) ⟨[],[],[],[],[]⟩ [.val (.int .i64),.ptr 0 22 [.val (.list (.user 2))]] [.blk 22 [.val (.list (.user 2))]] [.val (.int .i64)] n (x0,(x1,()),())
theorem wv0 (n:Nat) (x0 x1):qda n x0 x1=q7 (x0==(IntKind.i64.wrap (((x1.length:Nat):Int)-(1:Int)))) (if 0<=x0/\x0<((x1.length:Nat):Int) then (q7 (((x1.getD x0.toNat zb2).Op) != (28:Int)) (if 0<=x0/\x0<((x1.length:Nat):Int) then (j7 (qay v9 (((x1.getD x0.toNat zb2).Op) != (16:Int)) (102:Int)) fun y1=>some (((x1,()),()),(y1,()))) else none) (j7 (qay v9 false (102:Int)) fun y2=>some (((x1,()),()),(y2,())))) else none) (j7 (qay v9 false (102:Int)) fun y3=>some (((x1,()),()),(y3,()))):=by kernel_rfl
def qda_sp:GSpec TT:=⟨[.val (.int .i64),.ptr 0 22 [.val (.list (.user 2))]],[.blk 22 [.val (.list (.user 2))]],[.val (.int .i64)],fun x=>qda v9 x.1 x.2.1.1⟩
theorem ui8:GOk TT prog 36 qda_sp:=za9 (C:=qda_C) (cuts:=qs1) (by kernel_rfl) gl3 func36 (show f36.body=some (j5 f36) by kernel_rfl) (by kernel_rfl) (by kernel_rfl) (by kernel_rfl) fun x y h=>⟨v9,h⟩
def wh0:ByteArray:=⟨#[0,1,2,2,3,3,3,3,4,4,4,4,4,4,4,4,5,5,5,5,5,5,5,5,5,5,5,5,5,5,5,5,6,6,6,6,6,6,6,6,6,6,6,6,6,6,6,6,6,6,6,6,6,6,6,6,6,6,6,6,6,6,6,6,7,7,7,7,7,7,7,7,7,7,7,7,7,7,7,7,7,7,7,7,7,7,7,7,7,7,7,7,7,7,7,7,7,7,7,7,7,7,7,7,7,7,7,7,7,7,7,7,7,7,7,7,7,7,7,7,7,7,7,7,7,7,7,7,8,8,8,8,8,8,8,8,8,8,8,8,8,8,8,8,8,8,8,8,8,8,8,8,8,8,8,8,8,8,8,8,8,8,8,8,8,8,8,8,8,8,8,8,8,8,8,8,8,8,8,8,8,8,8,8,8,8,8,8,8,8,8,8,8,8,8,8,8,8,8,8,8,8,8,8,8,8,8,8,8,8,8,8,8,8,8,8,8,8,8,8,8,8,8,8,8,8,8,8,8,8,8,8,8,8,8,8,8,8,8,8,8,8,8,8,8,8,8,8,8,8,8,8,8,8,8,8]⟩
def qo_C:Ctx TT:=⟨za5,[],0,[],k9,za6⟩
theorem ue7:v7 TT prog qo_C.E:=v5
def qc8:List (Pos×Cut):= [([true],⟨[0,2],[],false,[],0,false⟩),([true,true],⟨[0,2],[],false,[],0,false⟩),([true,true,true],⟨[0,2],[],false,[],0,false⟩)]
def qo (n:Nat) (x0:Int):Option (Int):=zg2 TT prog qo_C qc8 f129 (j5 f129) ⟨[],[]⟩ [.val (.int .u64)] [.val (.int .i64)] n x0
noncomputable abbrev um6:=jz4 TT prog qo_C qc8 f129 (j5 f129) ⟨[],[]⟩ [.val (.int .u64)] [.val (.int .i64)]
def kg8 (n:Nat) (s0 s2:Int):Option (Int):=um6 n [true] ⟨[(0,w3 s0),(2,ci s2)],[]⟩
def kh2 (n:Nat) (s0 s2:Int):Option (Int):=um6 n [true,true] ⟨[(0,w3 s0),(2,ci s2)],[]⟩
def ke6 (n:Nat) (s0 s2:Int):Option (Int):=um6 n [true,true,true] ⟨[(0,w3 s0),(2,ci s2)],[]⟩
theorem uo6 (n:Nat) (x0):qo n x0=q7 (decide (x0>=(4294967296:Int))) (kg8 n (zc0 .u64 x0 (32:Int)) (32:Int)) (kg8 n x0 (0:Int)):=by kernel_rfl
theorem kr0 (n:Nat) (s0 s2):kg8 (n+1) s0 s2=q7 (decide (s0>=(65536:Int))) (kh2 n (zc0 .u64 s0 (16:Int)) (IntKind.i64.wrap (s2+(16:Int)))) (kh2 n s0 s2):=by kernel_rfl
theorem km7 (n:Nat) (s0 s2):kh2 (n+1) s0 s2=q7 (decide (s0>=(256:Int))) (ke6 n (zc0 .u64 s0 (8:Int)) (IntKind.i64.wrap (s2+(8:Int)))) (ke6 n s0 s2):=by kernel_rfl
theorem km2 (n:Nat) (s0 s2):ke6 (n+1) s0 s2=jd1 wh0 (IntKind.u8.wrap s0) fun y1=>some (IntKind.i64.wrap (s2+(IntKind.i64.wrap y1))):=by kernel_rfl
def qo_sp:FnSpec TT:=⟨[.val (.int .u64)],[.val (.int .i64)],fun x=>qo v9 x⟩
theorem wk5:ze8 TT prog 129 qo_sp:=za0 (C:=qo_C) (by kernel_rfl) ue7 func129 (show f129.body=some (j5 f129) by kernel_rfl) (by kernel_rfl) (by kernel_rfl) (cuts:=qc8) fun x y h=>⟨v9,h⟩
def qeu_C:Ctx TT:=⟨za5,[(129,qo_sp.toCall)],0,[],k9,za6⟩
theorem gj5:v7 TT prog qeu_C.E:=w6 (q8 wk5) (v5)
def qw2:List (Pos×Cut):= []
def qeu (n:Nat) (x0:Int):Option (Int):=zg2 TT prog qeu_C qw2 f93 (j5 f93) ⟨[],[]⟩ [.val (.int .u64)] [.val (.int .i64)] n x0
def qeu_sp:FnSpec TT:=⟨[.val (.int .u64)],[.val (.int .i64)],fun x=>qeu v9 x⟩
theorem gd1:ze8 TT prog 93 qeu_sp:=za0 (C:=qeu_C) (by kernel_rfl) gj5 func93 (show f93.body=some (j5 f93) by kernel_rfl) (by kernel_rfl) (by kernel_rfl) (cuts:=qw2) fun x y h=>⟨v9,h⟩
def qdb_C:Ctx TT:=⟨za5,[],0,[],k9,za6⟩
theorem wc2:v7 TT prog qdb_C.E:=v5
def ql3:List (Pos×Cut):= []
def qdb (n:Nat) (x0:Int):Option (Bool):=zg2 TT prog qdb_C ql3 f178 (j5 f178) ⟨[],[]⟩ [.val (.int .i64)] [.val (.bool)] n x0
theorem ul4 (n:Nat) (x0):qdb n x0=some (x0 != x0):=by kernel_rfl
def qdb_sp:FnSpec TT:=⟨[.val (.int .i64)],[.val (.bool)],fun x=>qdb v9 x⟩
theorem uk6:ze8 TT prog 178 qdb_sp:=za0 (C:=qdb_C) (by kernel_rfl) wc2 func178 (show f178.body=some (j5 f178) by kernel_rfl) (by kernel_rfl) (by kernel_rfl) (cuts:=ql3) fun x y h=>⟨v9,h⟩
def qcd_C:Ctx TT:=⟨za5,[(178,qdb_sp.toCall)],0,[],k9,za6⟩
theorem wb8:v7 TT prog qcd_C.E:=w6 (q8 uk6) (v5)
def qp2:List (Pos×Cut):= []
def qcd (n:Nat) (x0 x1:Int):Option (Bool):=zg2 TT prog qcd_C qp2 f125 (j5 f125) ⟨[],[]⟩ [.val (.int .i64),.val (.int .i64)] [.val (.bool)] n (x0,x1)
theorem ww4 (n:Nat) (x0 x1):qcd n x0 x1=j7 (qdb v9 x0) fun y1=>q7 y1 (j7 (qdb v9 x1) fun y2=>q7 (!y2) (some true) (some (decide (x0<x1)))) (some (decide (x0<x1))):=by kernel_rfl
def qcd_sp:FnSpec TT:=⟨[.val (.int .i64),.val (.int .i64)],[.val (.bool)],fun x=>qcd v9 x.1 x.2⟩
theorem ga4:ze8 TT prog 125 qcd_sp:=za0 (C:=qcd_C) (by kernel_rfl) wb8 func125 (show f125.body=some (j5 f125) by kernel_rfl) (by kernel_rfl) (by kernel_rfl) (cuts:=qp2) fun x y h=>⟨v9,h⟩
def qdn_C:Ctx TT:=⟨za5,[(125,qcd_sp.toCall)],1,[(6,1)],k9,za6⟩
theorem gp2:v7 TT prog qdn_C.E:=w6 (q8 ga4) (v5)
def vc3:List (Pos×Cut):= [([false,true],⟨[0,1,2,6],[],false,[],0,false⟩),([false,true,false,false,true,false,false,true],⟨[0,1,2,6,7],[],false,[],0,false⟩),([false,false,false,true,false,false,true,false,false,true],⟨[0,1,2,6,7,30],[],false,[],0,false⟩)]
def qdn (n:Nat) (x0:List Int) (x1 x2:Int):Option (List Int×Unit):=zg2 TT prog qdn_C vc3 f119 (j5 f119) ⟨[],[]⟩ [.io 3 (.int .i64),.val (.int .i64),.val (.int .i64)] [] n (x0,x1,x2)
def qdn_sp:FnSpec TT:=⟨[.io 3 (.int .i64),.val (.int .i64),.val (.int .i64)],[],fun x=>qdn v9 x.1 x.2.1 x.2.2⟩
theorem gc6:ze8 TT prog 119 qdn_sp:=za0 (C:=qdn_C) (by kernel_rfl) gp2 func119 (show f119.body=some (j5 f119) by kernel_rfl) (by kernel_rfl) (by kernel_rfl) (cuts:=vc3) fun x y h=>⟨v9,h⟩
def qev_C:Ctx TT:=⟨za5,[(119,qdn_sp.toCall)],1,[],k9,za6⟩
theorem gz2:v7 TT prog qev_C.E:=w6 (q8 gc6) (v5)
def qo9:List (Pos×Cut):= [([false,true,true],⟨[0,1,2,3,8,9],[],false,[],0,false⟩),([true,true,true,false,false,false,true,true],⟨[0,1,2,3,8,9,10],[],false,[],0,false⟩)]
def qev (n:Nat) (x0:List Int) (x1 x2 x3:Int):Option (List Int×Unit):=zg2 TT prog qev_C qo9 f92 (j5 f92) ⟨[],[]⟩ [.io 3 (.int .i64),.val (.int .i64),.val (.int .i64),.val (.int .i64)] [] n (x0,x1,x2,x3)
def qev_sp:FnSpec TT:=⟨[.io 3 (.int .i64),.val (.int .i64),.val (.int .i64),.val (.int .i64)],[],fun x=>qev v9 x.1 x.2.1 x.2.2.1 x.2.2.2⟩
theorem ga8:ze8 TT prog 92 qev_sp:=za0 (C:=qev_C) (by kernel_rfl) gz2 func92 (show f92.body=some (j5 f92) by kernel_rfl) (by kernel_rfl) (by kernel_rfl) (cuts:=qo9) fun x y h=>⟨v9,h⟩
def qdo_C:Ctx TT:=⟨za5,[(93,qeu_sp.toCall),(92,qev_sp.toCall)],1,[],k9,za6⟩
theorem gp7:v7 TT prog qdo_C.E:=w6 (q8 gd1) (w6 (q8 ga8) (v5))
def qv3:List (Pos×Cut):= []
def qdo (n:Nat) (x0:List Int):Option (List Int×Unit):=zg2 TT prog qdo_C qv3 f67 (j5 f67) ⟨[],[]⟩ [.io 3 (.int .i64)] [] n x0
def qdo_sp:FnSpec TT:=⟨[.io 3 (.int .i64)],[],fun x=>qdo v9 x⟩
theorem wv9:ze8 TT prog 67 qdo_sp:=za0 (C:=qdo_C) (by kernel_rfl) gp7 func67 (show f67.body=some (j5 f67) by kernel_rfl) (by kernel_rfl) (by kernel_rfl) (cuts:=qv3) fun x y h=>⟨v9,h⟩
def qfb_C:Ctx TT:=⟨za5,[(125,qcd_sp.toCall)],1,[(6,1)],k9,za6⟩
theorem gt4:v7 TT prog qfb_C.E:=w6 (q8 ga4) (v5)
def va6:List (Pos×Cut):= [([false,true],⟨[0,1,2,6],[],false,[],0,false⟩),([false,true,false,false,true,false,false,true],⟨[0,1,2,6,7],[],false,[],0,false⟩),([false,false,false,true,false,false,true,false,false,true],⟨[0,1,2,6,7,30],[],false,[],0,false⟩)]
def qfb (n:Nat) (x0:List Int) (x1 x2:Nat) (x3 x4:Int):Option ((List Int×Unit)×(Unit)):=zh5 TT prog qfb_C va6 f119 (j5 f119) ⟨[],[],[],[],[]⟩ [.slr 3 (.int .i64),.val (.int .i64),.val (.int .i64)] [.row 3 (.int .i64)] [] n ((x0,x1,x2),x3,x4,())
def qfb_sp:GSpec TT:=⟨[.slr 3 (.int .i64),.val (.int .i64),.val (.int .i64)],[.row 3 (.int .i64)],[],fun x=>qfb v9 x.1.1 x.1.2.1 x.1.2.2 x.2.1 x.2.2.1⟩
theorem ud5:GOk TT prog 119 qfb_sp:=za9 (C:=qfb_C) (cuts:=va6) (by kernel_rfl) gt4 func119 (show f119.body=some (j5 f119) by kernel_rfl) (by kernel_rfl) (by kernel_rfl) (by kernel_rfl) fun x y h=>⟨v9,h⟩
def qfc_C:Ctx TT:=⟨za5,[(119,qfb_sp.toCall (qdn_sp.toCall))],1,[],k9,za6⟩
theorem gw6:v7 TT prog qfc_C.E:=w6 (k8 ud5 (q8 gc6)) (v5)
def qr7:List (Pos×Cut):= [([false,true,true],⟨[0,1,2,3,8,9],[],false,[],0,false⟩),([true,true,true,false,false,false,true,true],⟨[0,1,2,3,8,9,10],[],false,[],0,false⟩)]
def qfc (n:Nat) (x0:List Int) (x1 x2:Nat) (x3 x4 x5:Int):Option ((List Int×Unit)×(Unit)):=zh5 TT prog qfc_C qr7 f92 (j5 f92) ⟨[],[],[],[],[]⟩ [.slr 3 (.int .i64),.val (.int .i64),.val (.int .i64),.val (.int .i64)] [.row 3 (.int .i64)] [] n ((x0,x1,x2),x3,x4,x5,())
def qfc_sp:GSpec TT:=⟨[.slr 3 (.int .i64),.val (.int .i64),.val (.int .i64),.val (.int .i64)],[.row 3 (.int .i64)],[],fun x=>qfc v9 x.1.1 x.1.2.1 x.1.2.2 x.2.1 x.2.2.1 x.2.2.2.1⟩
theorem wq0:GOk TT prog 92 qfc_sp:=za9 (C:=qfc_C) (cuts:=qr7) (by kernel_rfl) gw6 func92 (show f92.body=some (j5 f92) by kernel_rfl) (by kernel_rfl) (by kernel_rfl) (by kernel_rfl) fun x y h=>⟨v9,h⟩
def qew_C:Ctx TT:=⟨za5,[(93,qeu_sp.toCall),(92,qfc_sp.toCall (qev_sp.toCall))],1,[],k9,za6⟩
theorem gr8:v7 TT prog qew_C.E:=w6 (q8 gd1) (w6 (k8 wq0 (q8 ga8)) (v5))
def qn4:List (Pos×Cut):= []
def qew (n:Nat) (x0:List Int) (x1 x2:Nat):Option ((List Int×Unit)×(Unit)):=zh5 TT prog qew_C qn4 f67 (j5 f67) ⟨[],[],[],[],[]⟩ [.slr 3 (.int .i64)] [.row 3 (.int .i64)] [] n ((x0,x1,x2),())
def qew_sp:GSpec TT:=⟨[.slr 3 (.int .i64)],[.row 3 (.int .i64)],[],fun x=>qew v9 x.1.1 x.1.2.1 x.1.2.2⟩
theorem wr6:GOk TT prog 67 qew_sp:=za9 (C:=qew_C) (cuts:=qn4) (by kernel_rfl) gr8 func67 (show f67.body=some (j5 f67) by kernel_rfl) (by kernel_rfl) (by kernel_rfl) (by kernel_rfl) fun x y h=>⟨v9,h⟩
def qex_C:Ctx TT:=⟨za5,[],1,[],k9,za6⟩
theorem gv0:v7 TT prog qex_C.E:=v5
def qw5:List (Pos×Cut):= [([false,true,false,true,true],⟨[0,3],[],false,[],0,false⟩),([false,true,false,true,false,true,false,false,true,false,false,true,false,true,true],⟨[0,3,4,5],[],false,[],0,false⟩),([true,false,false,true,false,true,false,true,false,false,true,false,false,true,false,true,true],⟨[0,3,4,5],[],false,[],0,false⟩)]
def qex (n:Nat) (x0:List Int) (x1 x2:Nat):Option ((List Int×Unit)×((Nat×Nat)×Unit)):=zh5 TT prog qex_C qw5 f68 (j5 f68) ⟨[],[],[],[],[]⟩ [.slr 3 (.int .i64)] [.row 3 (.int .i64)] [.part 0 1] n ((x0,x1,x2),())
def qex_sp:GSpec TT:=⟨[.slr 3 (.int .i64)],[.row 3 (.int .i64)],[.part 0 1],fun x=>qex v9 x.1.1 x.1.2.1 x.1.2.2⟩
theorem wz7:GOk TT prog 68 qex_sp:=za9 (C:=qex_C) (cuts:=qw5) (by kernel_rfl) gv0 func68 (show f68.body=some (j5 f68) by kernel_rfl) (by kernel_rfl) (by kernel_rfl) (by kernel_rfl) fun x y h=>⟨v9,h⟩
def qer_C:Ctx TT:=⟨za5,[],1,[],k9,za6⟩
theorem wa8:v7 TT prog qer_C.E:=v5
def ql2:List (Pos×Cut):= [([false,true,false,true,true],⟨[0,3],[],false,[],0,false⟩),([false,true,false,true,false,true,false,false,true,false,false,true,false,true,true],⟨[0,3,4,5],[],false,[],0,false⟩),([true,false,false,true,false,true,false,true,false,false,true,false,false,true,false,true,true],⟨[0,3,4,5],[],false,[],0,false⟩)]
def qer (n:Nat) (x0:List Int):Option ((List Int×Unit)×((Nat×Nat)×Unit)):=zh5 TT prog qer_C ql2 f68 (j5 f68) ⟨[],[0],[],[],[]⟩ [.row 3 (.int .i64)] [.row 3 (.int .i64)] [.part 0 1] n (x0,())
def qer_sp:GSpec TT:=⟨[.row 3 (.int .i64)],[.row 3 (.int .i64)],[.part 0 1],fun x=>qer v9 x.1⟩
theorem wn2:GOk TT prog 68 qer_sp:=za9 (C:=qer_C) (cuts:=ql2) (by kernel_rfl) wa8 func68 (show f68.body=some (j5 f68) by kernel_rfl) (by kernel_rfl) (by kernel_rfl) (by kernel_rfl) fun x y h=>⟨v9,h⟩
def qab_C:Ctx TT:=⟨za5,[(33,qa_sp.toCall),(35,qbz_sp.toCall),(67,qew_sp.toCall (qdo_sp.toCall)),(68,qer_sp.toCall (qex_sp.toCall (k7 TT)))],0,[],k9,za6⟩
theorem gw2:v7 TT prog qab_C.E:=w6 (q8 wf7) (w6 (q8 gd0) (w6 (k8 wr6 (q8 wv9)) (w6 (k8 wn2 (k8 wz7 (j9 68))) (v5))))
def jq2:List (Pos×Cut):= [([false,true],⟨[0,1,29],[],false,[],0,false⟩),([true,true,true],⟨[0,1,5],[],false,[],0,false⟩)]
def qab (n:Nat) (x0:List Ins) (x1:Int):Option ((Unit)×((List Int×Nat×Nat)×Unit)):=zh5 TT prog qab_C jq2 f38 (j5 f38) ⟨[(0,3,.int .i64,false)],[],[],[],[]⟩ [.val (.list (.user 2)),.val (.int .i64)] [] [.slr 3 (.int .i64)] n (x0,x1,())
noncomputable abbrev wi7:=gv2 TT prog qab_C jq2 f38 (j5 f38) ⟨[(0,3,.int .i64,false)],[],[],[],[]⟩ [] [.slr 3 (.int .i64)]
def jf2 (n:Nat) (s0:List Ins) (s1:Int) (s29:Bool):Option ((Unit)×((List Int×Nat×Nat)×Unit)):=wi7 n [false,true] ⟨[(0,.cell ⟨.list (.user 2),s0⟩),(1,ci s1),(29,cb s29)],[]⟩
def vm5 (n:Nat) (s0:List Ins) (s1:Int) (r0:List Int):Option ((Unit)×((List Int×Nat×Nat)×Unit)):=wi7 n [true,true,true] ⟨[(0,.cell ⟨.list (.user 2),s0⟩),(1,ci s1),(5,.own 0)],[.row 3 (.int .i64) r0]⟩
theorem uf3 (n:Nat) (x0 x1):qab n x0 x1=q7 (decide (x1<(0:Int))) (jf2 n x0 x1 true) (q7 (decide (x1>=((x0.length:Nat):Int))) (jf2 n x0 x1 true) (if 0<=x1/\x1<((x0.length:Nat):Int) then (j7 (qa v9 (x0.getD x1.toNat zb2)) fun y1=>q7 (!y1) (jf2 n x0 x1 true) (if 0<=x1/\x1<((x0.length:Nat):Int) then (jf2 n x0 x1 (((x0.getD x1.toNat zb2).Op)==(28:Int))) else none)) else none)):=by kernel_rfl
theorem kc0 (n:Nat) (s0 s1 s29):jf2 (n+1) s0 s1 s29=q7 s29 (some ((),((([]:List Int),0,0),()))) (if 0<=s1/\s1<((s0.length:Nat):Int) then (j7 (qbz v9 (s0.getD s1.toNat zb2)) fun y1=>q7 y1 (if 0<=s1/\s1<((s0.length:Nat):Int) then (vm5 n s0 s1 ([IntKind.i64.wrap (s1+(1:Int)),IntKind.i64.wrap ((IntKind.i64.wrap (s1+(1:Int)))+((s0.getD s1.toNat zb2).Off))]:List Int)) else none) (vm5 n s0 s1 ([IntKind.i64.wrap (s1+(1:Int))]:List Int))) else none):=by kernel_rfl
theorem vz3 (n:Nat) (s0 s1 r0):vm5 (n+1) s0 s1 r0=if 0<=s1/\s1<((s0.length:Nat):Int) then (q7 (((s0.getD s1.toNat zb2).Op)==(16:Int)) (if 0<=(1:Int)/\(1:Int)<=((r0.length:Nat):Int)/\((r0.length:Nat):Int)<=((r0.length:Nat):Int) then (j7 (qew v9 r0 1 ((((r0.length:Nat):Int).toNat)-1)) fun y1=>j7 (qex v9 y1.1.1 1 ((((r0.length:Nat):Int).toNat)-1)) fun y2=>some ((),((y2.1.1,y2.2.1.1,y2.2.1.2),()))) else none) (j7 (qdo v9 r0) fun y3=>j7 (qer v9 y3.1) fun y4=>some ((),((y4.1.1,y4.2.1.1,y4.2.1.2),())))) else none:=by kernel_rfl
def qab_sp:GSpec TT:=⟨[.val (.list (.user 2)),.val (.int .i64)],[],[.slr 3 (.int .i64)],fun x=>qab v9 x.1 x.2.1⟩
theorem ud7:GOk TT prog 38 qab_sp:=za9 (C:=qab_C) (cuts:=jq2) (by kernel_rfl) gw2 func38 (show f38.body=some (j5 f38) by kernel_rfl) (by kernel_rfl) (by kernel_rfl) (by kernel_rfl) fun x y h=>⟨v9,h⟩
def qu_C:Ctx TT:=⟨za5,[(38,qab_sp.toCall (k7 TT)),(32,qay_sp.toCall)],3,[(4,1)],k9,za6⟩
theorem wo7:v7 TT prog qu_C.E:=w6 (k8 ud7 (j9 38)) (w6 (q8 qe7) (v5))
def qd9:List (Pos×Cut):= [([false,true,false,true],⟨[0,2,9,10,11],[],false,[],0,false⟩),([true,true,false,false,true,false,true],⟨[0,2,9,10,11],[],false,[],0,false⟩)]
def qu (n:Nat) (x0:Int) (x1:List Ins) (x2:List Bool):Option (((List Ins×Unit)×(Unit×Unit)×List Bool×Unit)×(Int×Unit)):=zh5 TT prog qu_C qd9 f37 (j5 f37) ⟨[],[],[],[],[]⟩ [.val (.int .i64),.ptr 0 22 [.val (.list (.user 2))],.ptr 0 35 [.row 4 (.bool)]] [.blk 22 [.val (.list (.user 2))],.blk 35 [.own 2],.row 4 (.bool)] [.val (.int .i64)] n (x0,(x1,()),(x2,()),())
noncomputable abbrev uy1:=gv2 TT prog qu_C qd9 f37 (j5 f37) ⟨[],[],[],[],[]⟩ [.blk 22 [.val (.list (.user 2))],.blk 35 [.own 2],.row 4 (.bool)] [.val (.int .i64)]
def jt9 (n:Nat) (s0:Int) (s9o s9n:Nat) (s10 s11:Int) (b0_0:List Ins) (r2:List Bool) (r3:List Int):Option (((List Ins×Unit)×(Unit×Unit)×List Bool×Unit)×(Int×Unit)):=uy1 n [false,true,false,true] ⟨[(0,ci s0),(2,.ptr 1 0),(9,.sl 3 1 s9o s9n),(10,ci s10),(11,ci s11)],[.blk 22 [.cell ⟨.list (.user 2),b0_0⟩],.blk 35 [.own 2],.row 4 (.bool) r2,.row 3 (.int .i64) r3]⟩
def gh5 (n:Nat) (s0:Int) (s9o s9n:Nat) (s10 s11:Int) (b0_0:List Ins) (r2:List Bool) (r3:List Int):Option (((List Ins×Unit)×(Unit×Unit)×List Bool×Unit)×(Int×Unit)):=uy1 n [true,true,false,false,true,false,true] ⟨[(0,ci s0),(2,.ptr 1 0),(9,.sl 3 1 s9o s9n),(10,ci s10),(11,ci s11)],[.blk 22 [.cell ⟨.list (.user 2),b0_0⟩],.blk 35 [.own 2],.row 4 (.bool) r2,.row 3 (.int .i64) r3]⟩
theorem uu8 (n:Nat) (x0 x1 x2):qu n x0 x1 x2=j7 (qab v9 x1 x0) fun y1=>jt9 n x0 y1.2.1.2.1 y1.2.1.2.2 ((y1.2.1.2.2:Nat):Int) (0:Int) x1 x2 y1.2.1.1:=by kernel_rfl
theorem qw8 (n:Nat) (s0 s9o s9n s10 s11 b0_0 r2 r3):jt9 (n+1) s0 s9o s9n s10 s11 b0_0 r2 r3=q7 (decide (s11<s10)) (if 0<=s11/\s11<((s9n:Nat):Int) then (if s9o+s11.toNat<r3.length then (if 0<=r3.getD (s9o+s11.toNat) (0:Int)/\r3.getD (s9o+s11.toNat) (0:Int)<((r2.length:Nat):Int) then (q7 (r2.getD ((r3.getD (s9o+s11.toNat) (0:Int)).toNat) false) (if 0<=r3.getD (s9o+s11.toNat) (0:Int)/\r3.getD (s9o+s11.toNat) (0:Int)<((r2.length:Nat):Int) then (gh5 n s0 s9o s9n s10 s11 b0_0 (r2.set ((r3.getD (s9o+s11.toNat) (0:Int)).toNat) true) r3) else none) (if 0<=s0/\s0<((r2.length:Nat):Int) then (if 0<=r3.getD (s9o+s11.toNat) (0:Int)/\r3.getD (s9o+s11.toNat) (0:Int)<((r2.length:Nat):Int) then (gh5 n s0 s9o s9n s10 s11 b0_0 (r2.set ((r3.getD (s9o+s11.toNat) (0:Int)).toNat) (r2.getD s0.toNat false)) r3) else none) else none)) else none) else none) else none) (if 0<=s0/\s0<((r2.length:Nat):Int) then (j7 (qay v9 (!(r2.getD s0.toNat false)) (103:Int)) fun y1=>some (((b0_0,()),((),()),r2,()),(y1,()))) else none):=by kernel_rfl
theorem vb6 (n:Nat) (s0 s9o s9n s10 s11 b0_0 r2 r3):gh5 (n+1) s0 s9o s9n s10 s11 b0_0 r2 r3=jt9 n s0 s9o s9n s10 (IntKind.i64.wrap (s11+(1:Int))) b0_0 r2 r3:=by kernel_rfl
def qu_sp:GSpec TT:=⟨[.val (.int .i64),.ptr 0 22 [.val (.list (.user 2))],.ptr 0 35 [.row 4 (.bool)]],[.blk 22 [.val (.list (.user 2))],.blk 35 [.own 2],.row 4 (.bool)],[.val (.int .i64)],fun x=>qu v9 x.1 x.2.1.1 x.2.2.1.1⟩
theorem uu7:GOk TT prog 37 qu_sp:=za9 (C:=qu_C) (cuts:=qd9) (by kernel_rfl) wo7 func37 (show f37.body=some (j5 f37) by kernel_rfl) (by kernel_rfl) (by kernel_rfl) (by kernel_rfl) fun x y h=>⟨v9,h⟩
def qd_C:Ctx TT:=⟨za5,[(31,qcy_sp.toCall (k7 TT)),(34,qcz_sp.toCall (k7 TT)),(36,qda_sp.toCall (k7 TT)),(37,qu_sp.toCall (k7 TT))],4,[],k9,za6⟩
theorem wx6:v7 TT prog qd_C.E:=w6 (k8 ws7 (j9 31)) (w6 (k8 uk2 (j9 34)) (w6 (k8 ui8 (j9 36)) (w6 (k8 uu7 (j9 37)) (v5))))
def qb8:List (Pos×Cut):= [([false,true,false,true],⟨[0,4,9,10,11],[],true,[],0,false⟩),([false,true,true,false,false,true,true,false,false,true,false,true],⟨[0,4,6,9,10,11,15,16],[],false,[],0,false⟩)]
def qd (n:Nat) (x0:Int) (x1:List Ins) (x2:List Bool):Option (((((Unit)×(Unit×Unit))×((Unit)×(Unit×Unit))×((Unit)×(Unit×Unit))×((Unit)×(Unit×Unit×Unit))×Unit)×(List Ins×Unit)×(Unit×Unit)×List Bool×Unit)×(Fault×Unit)):=zh5 TT prog qd_C qb8 f30 (j5 f30) ⟨[],[],[],[],[]⟩ [.val (.int .i64),.slb 1 4 94 [.fn 31 [] [.ptr 0 22 [.val (.list (.user 2))]],.fn 34 [] [.at_ 1 0],.fn 36 [] [.at_ 1 0],.fn 37 [] [.at_ 1 0,.ptr 0 35 [.row 4 (.bool)]]]] [.blk 94 [.fn 31 [] [.at_ 1 0],.fn 34 [] [.at_ 1 0],.fn 36 [] [.at_ 1 0],.fn 37 [] [.at_ 1 0,.at_ 2 0]],.blk 22 [.val (.list (.user 2))],.blk 35 [.own 3],.row 4 (.bool)] [.val (.user 3)] n (x0,(((),((x1,()),())),((),((),())),((),((),())),((),((),(x2,()),())),()),())
noncomputable abbrev wh1:=gv2 TT prog qd_C qb8 f30 (j5 f30) ⟨[],[],[],[],[]⟩ [.blk 94 [.fn 31 [] [.at_ 1 0],.fn 34 [] [.at_ 1 0],.fn 36 [] [.at_ 1 0],.fn 37 [] [.at_ 1 0,.at_ 2 0]],.blk 22 [.val (.list (.user 2))],.blk 35 [.own 3],.row 4 (.bool)] [.val (.user 3)]
def jg6 (n:Nat) (s0 s15 s16:Int) (b1_0:List Ins) (r3:List Bool) (b4_0 b4_1:Int):Option (((((Unit)×(Unit×Unit))×((Unit)×(Unit×Unit))×((Unit)×(Unit×Unit))×((Unit)×(Unit×Unit×Unit))×Unit)×(List Ins×Unit)×(Unit×Unit)×List Bool×Unit)×(Fault×Unit)):=wh1 n [false,true,true,false,false,true,true,false,false,true,false,true] ⟨[(0,ci s0),(4,.ptr 4 0),(6,.fn (.func 31) [] [.ptr 1 0]),(9,.sl 0 1 0 4),(10,.cell ⟨.int .i64,(4:Int)⟩),(11,.cell ⟨.int .i64,(0:Int)⟩),(15,ci s15),(16,ci s16)],[.blk 94 [.fn (.func 31) [] [.ptr 1 0],.fn (.func 34) [] [.ptr 1 0],.fn (.func 36) [] [.ptr 1 0],.fn (.func 37) [] [.ptr 1 0,.ptr 2 0]],.blk 22 [.cell ⟨.list (.user 2),b1_0⟩],.blk 35 [.own 3],.row 4 (.bool) r3,.blk 28 [ci b4_0,ci b4_1]]⟩
def yn3 (n:Nat) (s0 s15 s16:Int) (b1_0:List Ins) (r3:List Bool) (b4_0 b4_1:Int):Option (((((Unit)×(Unit×Unit))×((Unit)×(Unit×Unit))×((Unit)×(Unit×Unit))×((Unit)×(Unit×Unit×Unit))×Unit)×(List Ins×Unit)×(Unit×Unit)×List Bool×Unit)×(Fault×Unit)):=wh1 n [false,true,true,false,false,true,true,false,false,true,false,true] ⟨[(0,ci s0),(4,.ptr 4 0),(6,.fn (.func 34) [] [.ptr 1 0]),(9,.sl 0 1 0 4),(10,.cell ⟨.int .i64,(4:Int)⟩),(11,.cell ⟨.int .i64,(1:Int)⟩),(15,ci s15),(16,ci s16)],[.blk 94 [.fn (.func 31) [] [.ptr 1 0],.fn (.func 34) [] [.ptr 1 0],.fn (.func 36) [] [.ptr 1 0],.fn (.func 37) [] [.ptr 1 0,.ptr 2 0]],.blk 22 [.cell ⟨.list (.user 2),b1_0⟩],.blk 35 [.own 3],.row 4 (.bool) r3,.blk 28 [ci b4_0,ci b4_1]]⟩
def yp6 (n:Nat) (s0 s15 s16:Int) (b1_0:List Ins) (r3:List Bool) (b4_0 b4_1:Int):Option (((((Unit)×(Unit×Unit))×((Unit)×(Unit×Unit))×((Unit)×(Unit×Unit))×((Unit)×(Unit×Unit×Unit))×Unit)×(List Ins×Unit)×(Unit×Unit)×List Bool×Unit)×(Fault×Unit)):=wh1 n [false,true,true,false,false,true,true,false,false,true,false,true] ⟨[(0,ci s0),(4,.ptr 4 0),(6,.fn (.func 36) [] [.ptr 1 0]),(9,.sl 0 1 0 4),(10,.cell ⟨.int .i64,(4:Int)⟩),(11,.cell ⟨.int .i64,(2:Int)⟩),(15,ci s15),(16,ci s16)],[.blk 94 [.fn (.func 31) [] [.ptr 1 0],.fn (.func 34) [] [.ptr 1 0],.fn (.func 36) [] [.ptr 1 0],.fn (.func 37) [] [.ptr 1 0,.ptr 2 0]],.blk 22 [.cell ⟨.list (.user 2),b1_0⟩],.blk 35 [.own 3],.row 4 (.bool) r3,.blk 28 [ci b4_0,ci b4_1]]⟩
def yo9 (n:Nat) (s0 s15 s16:Int) (b1_0:List Ins) (r3:List Bool) (b4_0 b4_1:Int):Option (((((Unit)×(Unit×Unit))×((Unit)×(Unit×Unit))×((Unit)×(Unit×Unit))×((Unit)×(Unit×Unit×Unit))×Unit)×(List Ins×Unit)×(Unit×Unit)×List Bool×Unit)×(Fault×Unit)):=wh1 n [false,true,true,false,false,true,true,false,false,true,false,true] ⟨[(0,ci s0),(4,.ptr 4 0),(6,.fn (.func 37) [] [.ptr 1 0,.ptr 2 0]),(9,.sl 0 1 0 4),(10,.cell ⟨.int .i64,(4:Int)⟩),(11,.cell ⟨.int .i64,(3:Int)⟩),(15,ci s15),(16,ci s16)],[.blk 94 [.fn (.func 31) [] [.ptr 1 0],.fn (.func 34) [] [.ptr 1 0],.fn (.func 36) [] [.ptr 1 0],.fn (.func 37) [] [.ptr 1 0,.ptr 2 0]],.blk 22 [.cell ⟨.list (.user 2),b1_0⟩],.blk 35 [.own 3],.row 4 (.bool) r3,.blk 28 [ci b4_0,ci b4_1]]⟩
theorem ux6 (n:Nat) (x0 x1 x2):qd (n+1) x0 x1 x2=jg6 n x0 x0 (0:Int) x1 x2 (0:Int) (0:Int):=by kernel_rfl
theorem jn7 (n:Nat) (s0 s15 s16 b1_0 r3 b4_0 b4_1):jg6 (n+2) s0 s15 s16 b1_0 r3 b4_0 b4_1=q7 (decide (s16<s15)) (j7 (qcy v9 s16 b1_0) fun y1=>q7 (y1.2.1 != (0:Int)) (some (((((),((),())),((),((),())),((),((),())),((),((),(),())),()),(y1.1.1.1,()),((),()),r3,()),((⟨y1.2.1,s16⟩:Fault),()))) (jg6 (n+1) s0 s15 (IntKind.i64.wrap (s16+(1:Int))) y1.1.1.1 r3 b4_0 b4_1)) (yn3 n s0 s0 (0:Int) b1_0 r3 b4_0 b4_1):=by kernel_rfl
theorem yz2 (n:Nat) (s0 s15 s16 b1_0 r3 b4_0 b4_1):yn3 (n+2) s0 s15 s16 b1_0 r3 b4_0 b4_1=q7 (decide (s16<s15)) (j7 (qcz v9 s16 b1_0) fun y1=>q7 (y1.2.1 != (0:Int)) (some (((((),((),())),((),((),())),((),((),())),((),((),(),())),()),(y1.1.1.1,()),((),()),r3,()),((⟨y1.2.1,s16⟩:Fault),()))) (yn3 (n+1) s0 s15 (IntKind.i64.wrap (s16+(1:Int))) y1.1.1.1 r3 b4_0 b4_1)) (yp6 n s0 s0 (0:Int) b1_0 r3 b4_0 b4_1):=by kernel_rfl
theorem yy3 (n:Nat) (s0 s15 s16 b1_0 r3 b4_0 b4_1):yp6 (n+2) s0 s15 s16 b1_0 r3 b4_0 b4_1=q7 (decide (s16<s15)) (j7 (qda v9 s16 b1_0) fun y1=>q7 (y1.2.1 != (0:Int)) (some (((((),((),())),((),((),())),((),((),())),((),((),(),())),()),(y1.1.1.1,()),((),()),r3,()),((⟨y1.2.1,s16⟩:Fault),()))) (yp6 (n+1) s0 s15 (IntKind.i64.wrap (s16+(1:Int))) y1.1.1.1 r3 b4_0 b4_1)) (yo9 n s0 s0 (0:Int) b1_0 r3 b4_0 b4_1):=by kernel_rfl
theorem ja8 (n:Nat) (s0 s15 s16 b1_0 r3 b4_0 b4_1):yo9 (n+2) s0 s15 s16 b1_0 r3 b4_0 b4_1=q7 (decide (s16<s15)) (j7 (qu v9 s16 b1_0 r3) fun y1=>q7 (y1.2.1 != (0:Int)) (some (((((),((),())),((),((),())),((),((),())),((),((),(),())),()),(y1.1.1.1,()),((),()),y1.1.2.2.1,()),((⟨y1.2.1,s16⟩:Fault),()))) (yo9 (n+1) s0 s15 (IntKind.i64.wrap (s16+(1:Int))) y1.1.1.1 y1.1.2.2.1 b4_0 b4_1)) (some (((((),((),())),((),((),())),((),((),())),((),((),(),())),()),(b1_0,()),((),()),r3,()),((⟨(0:Int),(0:Int)⟩:Fault),()))):=by kernel_rfl
def qd_sp:GSpec TT:=⟨[.val (.int .i64),.slb 1 4 94 [.fn 31 [] [.ptr 0 22 [.val (.list (.user 2))]],.fn 34 [] [.at_ 1 0],.fn 36 [] [.at_ 1 0],.fn 37 [] [.at_ 1 0,.ptr 0 35 [.row 4 (.bool)]]]],[.blk 94 [.fn 31 [] [.at_ 1 0],.fn 34 [] [.at_ 1 0],.fn 36 [] [.at_ 1 0],.fn 37 [] [.at_ 1 0,.at_ 2 0]],.blk 22 [.val (.list (.user 2))],.blk 35 [.own 3],.row 4 (.bool)],[.val (.user 3)],fun x=>qd v9 x.1 x.2.1.1.2.1.1 x.2.1.2.2.2.1.2.2.1.1⟩
theorem uq4:GOk TT prog 30 qd_sp:=za9 (C:=qd_C) (cuts:=qb8) (by kernel_rfl) wx6 func30 (show f30.body=some (j5 f30) by kernel_rfl) (by kernel_rfl) (by kernel_rfl) (by kernel_rfl) fun x y h=>⟨v9,h⟩
def qdc_C:Ctx TT:=⟨za5,[(30,qd_sp.toCall (k7 TT))],0,[],k9,za6⟩
theorem gu9:v7 TT prog qdc_C.E:=w6 (k8 uq4 (j9 30)) (v5)
def ql6:List (Pos×Cut):= []
def qdc (n:Nat) (x0:List Ins):Option (Fault):=zg2 TT prog qdc_C ql6 f16 (j5 f16) ⟨[],[]⟩ [.val (.list (.user 2))] [.val (.user 3)] n x0
theorem wp5 (n:Nat) (x0):qdc n x0=q7 (((x0.length:Nat):Int)==(0:Int)) (some (⟨(6:Int),(0:Int)⟩:Fault)) (q7 (decide (((x0.length:Nat):Int)>(4096:Int))) (some (⟨(3:Int),(0:Int)⟩:Fault)) (if 0<=((x0.length:Nat):Int)/\((x0.length:Nat):Int)<=((x0.length:Nat):Int)/\1*(((x0.length:Nat):Int).toNat)<=281474976710656/\((x0.length:Nat):Int)<=9223372036854775807 then (if 0<=(0:Int)/\(0:Int)<(((List.replicate (((x0.length:Nat):Int).toNat) false).length:Nat):Int) then (j7 (qd v9 ((x0.length:Nat):Int) x0 ((List.replicate (((x0.length:Nat):Int).toNat) false).set 0 true)) fun y1=>some y1.2.1) else none) else none)):=by kernel_rfl
def qdc_sp:FnSpec TT:=⟨[.val (.list (.user 2))],[.val (.user 3)],fun x=>qdc v9 x⟩
theorem ua3:ze8 TT prog 16 qdc_sp:=za0 (C:=qdc_C) (by kernel_rfl) gu9 func16 (show f16.body=some (j5 f16) by kernel_rfl) (by kernel_rfl) (by kernel_rfl) (cuts:=ql6) fun x y h=>⟨v9,h⟩
end
end Go.X
