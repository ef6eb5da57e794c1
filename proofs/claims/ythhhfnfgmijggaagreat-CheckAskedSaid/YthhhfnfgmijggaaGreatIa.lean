import Derived.Test.YthhhfnfgmijggaaGreatTb
namespace Go.X
open Go.RowKit Go.V Go.Proofs Tryz
noncomputable section
abbrev ci (x:Int):AV TT.U:=.cell ⟨.int .i64,x⟩
abbrev cb (x:Bool):AV TT.U:=.cell ⟨.bool,x⟩
abbrev cu8 (x:Int):AV TT.U:=.cell ⟨.int .u8,x⟩
abbrev ui1 (x:Int):AV TT.U:=.cell ⟨.int .u32,x⟩
abbrev k7 (x:Int):AV TT.U:=.cell ⟨.int .u64,x⟩
def qba_C:Ctx TT:=⟨za4,[],0,[],v9,za3⟩
theorem go3:v4 TT prog qba_C.E:=q9
def jl5:List (Pos×Cut):= [([false,false,true],⟨[0,3],[],false,[],0,false⟩)]
def qba (n:Nat) (x0:Int):Option (Int):=zf7 TT prog qba_C jl5 f64 (j5 f64) ⟨[],[]⟩ [.val (.int .u8)] [.val (.int .i64)] n x0
noncomputable abbrev up7:=qb9 TT prog qba_C jl5 f64 (j5 f64) ⟨[],[]⟩ [.val (.int .u8)] [.val (.int .i64)]
def vi0 (n:Nat) (s0:Int) (s3:Bool):Option (Int):=up7 n [false,false,true] ⟨[(0,cu8 s0),(3,cb s3)],[]⟩
theorem wr3 (n:Nat) (x0):qba n x0=q7 (decide (x0>=(1:Int))) (vi0 n x0 (decide (x0<=(12:Int)))) (vi0 n x0 false):=by kernel_rfl
theorem vx1 (n:Nat) (s0 s3):vi0 (n+1) s0 s3=q7 s3 (some (201:Int)) (q7 (s0==(13:Int)) (some (193:Int)) (q7 (s0==(14:Int)) (some (181:Int)) (q7 (s0==(15:Int)) (some (186:Int)) (q7 (s0==(16:Int)) (some (144:Int)) (q7 (decide (s0>=(17:Int))) (q7 (decide (s0<=(27:Int))) (some (218:Int)) (q7 (s0==(28:Int)) (some (128:Int)) (some (0:Int)))) (q7 (s0==(28:Int)) (some (128:Int)) (some (0:Int)))))))):=by kernel_rfl
def qba_sp:FnSpec TT:=⟨[.val (.int .u8)],[.val (.int .i64)],fun x=>qba v5 x⟩
theorem wv5:ze7 TT prog 64 qba_sp:=u0 (C:=qba_C) (by kernel_rfl) go3 func64 (show f64.body=some (j5 f64) by kernel_rfl) (by kernel_rfl) (by kernel_rfl) (cuts:=jl5) fun x y h=>⟨v5,h⟩
def qes_C:Ctx TT:=⟨za4,[],0,[],v9,za3⟩
theorem gs0:v4 TT prog qes_C.E:=q9
def qv8:List (Pos×Cut):= [([false,true,false,true],⟨[0,1,7,8],[],false,[],0,false⟩)]
def qes (n:Nat) (x0:List Int) (x1:Int):Option (Int):=zf7 TT prog qes_C qv8 f91 (j5 f91) ⟨[],[]⟩ [.val (.list (.int .i64)),.val (.int .i64)] [.val (.int .i64)] n (x0,x1)
def qes_sp:FnSpec TT:=⟨[.val (.list (.int .i64)),.val (.int .i64)],[.val (.int .i64)],fun x=>qes v5 x.1 x.2⟩
theorem wo4:ze7 TT prog 91 qes_sp:=u0 (C:=qes_C) (by kernel_rfl) gs0 func91 (show f91.body=some (j5 f91) by kernel_rfl) (by kernel_rfl) (by kernel_rfl) (cuts:=qv8) fun x y h=>⟨v5,h⟩
def qcv_C:Ctx TT:=⟨za4,[(91,qes_sp.toCall)],0,[],v9,za3⟩
theorem gz9:v4 TT prog qcv_C.E:=g9 (q8 wo4) (q9)
def qy5:List (Pos×Cut):= []
def qcv (n:Nat) (x0:List Int) (x1:Int):Option (Bool):=zf7 TT prog qcv_C qy5 f65 (j5 f65) ⟨[],[]⟩ [.val (.list (.int .i64)),.val (.int .i64)] [.val (.bool)] n (x0,x1)
theorem ws7 (n:Nat) (x0 x1):qcv n x0 x1=j7 (qes v5 x0 x1) fun y1=>some (decide (y1>=(0:Int))):=by kernel_rfl
def qcv_sp:FnSpec TT:=⟨[.val (.list (.int .i64)),.val (.int .i64)],[.val (.bool)],fun x=>qcv v5 x.1 x.2⟩
theorem ww3:ze7 TT prog 65 qcv_sp:=u0 (C:=qcv_C) (by kernel_rfl) gz9 func65 (show f65.body=some (j5 f65) by kernel_rfl) (by kernel_rfl) (by kernel_rfl) (cuts:=qy5) fun x y h=>⟨v5,h⟩
def qbx_C:Ctx TT:=⟨za4,[],0,[],v9,za3⟩
theorem gr5:v4 TT prog qbx_C.E:=q9
def qo7:List (Pos×Cut):= []
def qbx (n:Nat) (x0 x1 x2:Int):Option (Bool):=zf7 TT prog qbx_C qo7 f66 (j5 f66) ⟨[],[]⟩ [.val (.int .i64),.val (.int .i64),.val (.int .i64)] [.val (.bool)] n (x0,x1,x2)
theorem wm2 (n:Nat) (x0 x1 x2):qbx n x0 x1 x2=q7 (decide (x0>=x1)) (some (decide (x0<=x2))) (some false):=by kernel_rfl
def qbx_sp:FnSpec TT:=⟨[.val (.int .i64),.val (.int .i64),.val (.int .i64)],[.val (.bool)],fun x=>qbx v5 x.1 x.2.1 x.2.2⟩
theorem wu7:ze7 TT prog 66 qbx_sp:=u0 (C:=qbx_C) (by kernel_rfl) gr5 func66 (show f66.body=some (j5 f66) by kernel_rfl) (by kernel_rfl) (by kernel_rfl) (cuts:=qo7) fun x y h=>⟨v5,h⟩
def qa_C:Ctx TT:=⟨za4,[(64,qba_sp.toCall),(65,qcv_sp.toCall),(66,qbx_sp.toCall)],0,[(8,1)],v9,za3⟩
theorem wp8:v4 TT prog qa_C.E:=g9 (q8 wv5) (g9 (q8 ww3) (g9 (q8 wu7) (q9)))
def jz2:List (Pos×Cut):= [([true,true,true],⟨[1,3,4],[],false,[],0,false⟩),([true,true,true,true],⟨[1,3,4],[],false,[],0,false⟩),([false,true,true,true,true],⟨[1,3,4,31],[],false,[],0,false⟩),([true,true,true,true,true],⟨[1,3,4],[],false,[],0,false⟩),([false,true,true,true,true,true],⟨[1,3,4,41],[],false,[],0,false⟩),([true,true,true,true,true,true],⟨[1,3,4],[],false,[],0,false⟩),([true,true,true,true,true,true,true],⟨[1,3,4],[],false,[],0,false⟩),([true,true,true,true,true,true,true,true],⟨[1,3,4],[],false,[],0,false⟩),([true,true,true,true,true,true,true,true,true,true],⟨[1,3,4,5],[],false,[],0,false⟩),([true,true,true,true,true,true,true,true,true,true,true],⟨[1,3,4,5,6],[],false,[],0,false⟩)]
def qa (n:Nat) (x0:Ins):Option (Bool):=zf7 TT prog qa_C jz2 f33 (j5 f33) ⟨[],[]⟩ [.val (.user 2)] [.val (.bool)] n x0
noncomputable abbrev qm4:=qb9 TT prog qa_C jz2 f33 (j5 f33) ⟨[],[]⟩ [.val (.user 2)] [.val (.bool)]
def gf9 (n:Nat) (s3 b0_0:Int) (b0_1:Bool) (b0_2 b0_3:Int) (b0_4:Bool) (b0_5 b0_6 b0_7 b1_0:Int) (b1_1:Bool) (b1_2 b1_3:Int) (b1_4:Bool) (b1_5 b1_6 b1_7:Int):Option (Bool):=qm4 n [true,true,true] ⟨[(1,.ptr 0 0),(3,ci s3),(4,.ptr 1 0)],[.blk 42 [cu8 b0_0,cb b0_1,ci b0_2,ci b0_3,cb b0_4,ci b0_5,ci b0_6,ci b0_7],.blk 42 [cu8 b1_0,cb b1_1,ci b1_2,ci b1_3,cb b1_4,ci b1_5,ci b1_6,ci b1_7]]⟩
def ke0 (n:Nat) (s3:Int) (s31:Bool) (b0_0:Int) (b0_1:Bool) (b0_2 b0_3:Int) (b0_4:Bool) (b0_5 b0_6 b0_7 b1_0:Int) (b1_1:Bool) (b1_2 b1_3:Int) (b1_4:Bool) (b1_5 b1_6 b1_7:Int):Option (Bool):=qm4 n [false,true,true,true,true] ⟨[(1,.ptr 0 0),(3,ci s3),(4,.ptr 1 0),(31,cb s31)],[.blk 42 [cu8 b0_0,cb b0_1,ci b0_2,ci b0_3,cb b0_4,ci b0_5,ci b0_6,ci b0_7],.blk 42 [cu8 b1_0,cb b1_1,ci b1_2,ci b1_3,cb b1_4,ci b1_5,ci b1_6,ci b1_7]]⟩
def gd6 (n:Nat) (s3 b0_0:Int) (b0_1:Bool) (b0_2 b0_3:Int) (b0_4:Bool) (b0_5 b0_6 b0_7 b1_0:Int) (b1_1:Bool) (b1_2 b1_3:Int) (b1_4:Bool) (b1_5 b1_6 b1_7:Int):Option (Bool):=qm4 n [true,true,true,true] ⟨[(1,.ptr 0 0),(3,ci s3),(4,.ptr 1 0)],[.blk 42 [cu8 b0_0,cb b0_1,ci b0_2,ci b0_3,cb b0_4,ci b0_5,ci b0_6,ci b0_7],.blk 42 [cu8 b1_0,cb b1_1,ci b1_2,ci b1_3,cb b1_4,ci b1_5,ci b1_6,ci b1_7]]⟩
def gf2 (n:Nat) (s3:Int) (s41:Bool) (b0_0:Int) (b0_1:Bool) (b0_2 b0_3:Int) (b0_4:Bool) (b0_5 b0_6 b0_7 b1_0:Int) (b1_1:Bool) (b1_2 b1_3:Int) (b1_4:Bool) (b1_5 b1_6 b1_7:Int):Option (Bool):=qm4 n [false,true,true,true,true,true] ⟨[(1,.ptr 0 0),(3,ci s3),(4,.ptr 1 0),(41,cb s41)],[.blk 42 [cu8 b0_0,cb b0_1,ci b0_2,ci b0_3,cb b0_4,ci b0_5,ci b0_6,ci b0_7],.blk 42 [cu8 b1_0,cb b1_1,ci b1_2,ci b1_3,cb b1_4,ci b1_5,ci b1_6,ci b1_7]]⟩
def gf7 (n:Nat) (s3 b0_0:Int) (b0_1:Bool) (b0_2 b0_3:Int) (b0_4:Bool) (b0_5 b0_6 b0_7 b1_0:Int) (b1_1:Bool) (b1_2 b1_3:Int) (b1_4:Bool) (b1_5 b1_6 b1_7:Int):Option (Bool):=qm4 n [true,true,true,true,true] ⟨[(1,.ptr 0 0),(3,ci s3),(4,.ptr 1 0)],[.blk 42 [cu8 b0_0,cb b0_1,ci b0_2,ci b0_3,cb b0_4,ci b0_5,ci b0_6,ci b0_7],.blk 42 [cu8 b1_0,cb b1_1,ci b1_2,ci b1_3,cb b1_4,ci b1_5,ci b1_6,ci b1_7]]⟩
def gf8 (n:Nat) (s3 b0_0:Int) (b0_1:Bool) (b0_2 b0_3:Int) (b0_4:Bool) (b0_5 b0_6 b0_7 b1_0:Int) (b1_1:Bool) (b1_2 b1_3:Int) (b1_4:Bool) (b1_5 b1_6 b1_7:Int):Option (Bool):=qm4 n [true,true,true,true,true,true] ⟨[(1,.ptr 0 0),(3,ci s3),(4,.ptr 1 0)],[.blk 42 [cu8 b0_0,cb b0_1,ci b0_2,ci b0_3,cb b0_4,ci b0_5,ci b0_6,ci b0_7],.blk 42 [cu8 b1_0,cb b1_1,ci b1_2,ci b1_3,cb b1_4,ci b1_5,ci b1_6,ci b1_7]]⟩
def gd0 (n:Nat) (s3 b0_0:Int) (b0_1:Bool) (b0_2 b0_3:Int) (b0_4:Bool) (b0_5 b0_6 b0_7 b1_0:Int) (b1_1:Bool) (b1_2 b1_3:Int) (b1_4:Bool) (b1_5 b1_6 b1_7:Int):Option (Bool):=qm4 n [true,true,true,true,true,true,true] ⟨[(1,.ptr 0 0),(3,ci s3),(4,.ptr 1 0)],[.blk 42 [cu8 b0_0,cb b0_1,ci b0_2,ci b0_3,cb b0_4,ci b0_5,ci b0_6,ci b0_7],.blk 42 [cu8 b1_0,cb b1_1,ci b1_2,ci b1_3,cb b1_4,ci b1_5,ci b1_6,ci b1_7]]⟩
def ge7 (n:Nat) (s3 b0_0:Int) (b0_1:Bool) (b0_2 b0_3:Int) (b0_4:Bool) (b0_5 b0_6 b0_7 b1_0:Int) (b1_1:Bool) (b1_2 b1_3:Int) (b1_4:Bool) (b1_5 b1_6 b1_7:Int):Option (Bool):=qm4 n [true,true,true,true,true,true,true,true] ⟨[(1,.ptr 0 0),(3,ci s3),(4,.ptr 1 0)],[.blk 42 [cu8 b0_0,cb b0_1,ci b0_2,ci b0_3,cb b0_4,ci b0_5,ci b0_6,ci b0_7],.blk 42 [cu8 b1_0,cb b1_1,ci b1_2,ci b1_3,cb b1_4,ci b1_5,ci b1_6,ci b1_7]]⟩
def gd5 (n:Nat) (s3 s5 b0_0:Int) (b0_1:Bool) (b0_2 b0_3:Int) (b0_4:Bool) (b0_5 b0_6 b0_7 b1_0:Int) (b1_1:Bool) (b1_2 b1_3:Int) (b1_4:Bool) (b1_5 b1_6 b1_7:Int):Option (Bool):=qm4 n [true,true,true,true,true,true,true,true,true,true] ⟨[(1,.ptr 0 0),(3,ci s3),(4,.ptr 1 0),(5,ci s5)],[.blk 42 [cu8 b0_0,cb b0_1,ci b0_2,ci b0_3,cb b0_4,ci b0_5,ci b0_6,ci b0_7],.blk 42 [cu8 b1_0,cb b1_1,ci b1_2,ci b1_3,cb b1_4,ci b1_5,ci b1_6,ci b1_7]]⟩
def ve8 (n:Nat) (s3 s5:Int) (s6:Bool) (b0_0:Int) (b0_1:Bool) (b0_2 b0_3:Int) (b0_4:Bool) (b0_5 b0_6 b0_7 b1_0:Int) (b1_1:Bool) (b1_2 b1_3:Int) (b1_4:Bool) (b1_5 b1_6 b1_7:Int):Option (Bool):=qm4 n [true,true,true,true,true,true,true,true,true,true,true] ⟨[(1,.ptr 0 0),(3,ci s3),(4,.ptr 1 0),(5,ci s5),(6,cb s6)],[.blk 42 [cu8 b0_0,cb b0_1,ci b0_2,ci b0_3,cb b0_4,ci b0_5,ci b0_6,ci b0_7],.blk 42 [cu8 b1_0,cb b1_1,ci b1_2,ci b1_3,cb b1_4,ci b1_5,ci b1_6,ci b1_7]]⟩
theorem un9 (n:Nat) (x0):qa n x0=j7 (qba v5 x0.Op) fun y1=>q7 ((za9 .i64 y1 (3:Int)) != (0:Int)) (gf9 n y1 x0.Op x0.Narrow x0.Dst x0.Src x0.UseImm x0.Off x0.Imm x0.Size x0.Op false x0.Dst (0:Int) false (0:Int) (0:Int) (0:Int)) (gf9 n y1 x0.Op x0.Narrow x0.Dst x0.Src x0.UseImm x0.Off x0.Imm x0.Size x0.Op false (0:Int) (0:Int) false (0:Int) (0:Int) (0:Int)):=by kernel_rfl
theorem zs5 (n:Nat) (s3 b0_0 b0_1 b0_2 b0_3 b0_4 b0_5 b0_6 b0_7 b1_0 b1_1 b1_2 b1_3 b1_4 b1_5 b1_6 b1_7):gf9 (n+1) s3 b0_0 b0_1 b0_2 b0_3 b0_4 b0_5 b0_6 b0_7 b1_0 b1_1 b1_2 b1_3 b1_4 b1_5 b1_6 b1_7=q7 ((za9 .i64 s3 (4:Int)) != (0:Int)) (ke0 n s3 true b0_0 b0_1 b0_2 b0_3 b0_4 b0_5 b0_6 b0_7 b1_0 b1_1 b1_2 b1_3 b1_4 b1_5 b1_6 b1_7) (q7 ((za9 .i64 s3 (8:Int)) != (0:Int)) (ke0 n s3 (!b0_4) b0_0 b0_1 b0_2 b0_3 b0_4 b0_5 b0_6 b0_7 b1_0 b1_1 b1_2 b1_3 b1_4 b1_5 b1_6 b1_7) (ke0 n s3 false b0_0 b0_1 b0_2 b0_3 b0_4 b0_5 b0_6 b0_7 b1_0 b1_1 b1_2 b1_3 b1_4 b1_5 b1_6 b1_7)):=by kernel_rfl
theorem zs2 (n:Nat) (s3 s31 b0_0 b0_1 b0_2 b0_3 b0_4 b0_5 b0_6 b0_7 b1_0 b1_1 b1_2 b1_3 b1_4 b1_5 b1_6 b1_7):ke0 (n+1) s3 s31 b0_0 b0_1 b0_2 b0_3 b0_4 b0_5 b0_6 b0_7 b1_0 b1_1 b1_2 b1_3 b1_4 b1_5 b1_6 b1_7=q7 s31 (gd6 n s3 b0_0 b0_1 b0_2 b0_3 b0_4 b0_5 b0_6 b0_7 b1_0 b1_1 b1_2 b0_3 b1_4 b1_5 b1_6 b1_7) (gd6 n s3 b0_0 b0_1 b0_2 b0_3 b0_4 b0_5 b0_6 b0_7 b1_0 b1_1 b1_2 b1_3 b1_4 b1_5 b1_6 b1_7):=by kernel_rfl
theorem zr4 (n:Nat) (s3 b0_0 b0_1 b0_2 b0_3 b0_4 b0_5 b0_6 b0_7 b1_0 b1_1 b1_2 b1_3 b1_4 b1_5 b1_6 b1_7):gd6 (n+1) s3 b0_0 b0_1 b0_2 b0_3 b0_4 b0_5 b0_6 b0_7 b1_0 b1_1 b1_2 b1_3 b1_4 b1_5 b1_6 b1_7=q7 ((za9 .i64 s3 (8:Int)) != (0:Int)) (gf2 n s3 b0_4 b0_0 b0_1 b0_2 b0_3 b0_4 b0_5 b0_6 b0_7 b1_0 b1_1 b1_2 b1_3 b1_4 b1_5 b1_6 b1_7) (gf2 n s3 false b0_0 b0_1 b0_2 b0_3 b0_4 b0_5 b0_6 b0_7 b1_0 b1_1 b1_2 b1_3 b1_4 b1_5 b1_6 b1_7):=by kernel_rfl
theorem zs0 (n:Nat) (s3 s41 b0_0 b0_1 b0_2 b0_3 b0_4 b0_5 b0_6 b0_7 b1_0 b1_1 b1_2 b1_3 b1_4 b1_5 b1_6 b1_7):gf2 (n+1) s3 s41 b0_0 b0_1 b0_2 b0_3 b0_4 b0_5 b0_6 b0_7 b1_0 b1_1 b1_2 b1_3 b1_4 b1_5 b1_6 b1_7=q7 s41 (gf7 n s3 b0_0 b0_1 b0_2 b0_3 b0_4 b0_5 b0_6 b0_7 b1_0 b1_1 b1_2 b1_3 true b1_5 b0_6 b1_7) (gf7 n s3 b0_0 b0_1 b0_2 b0_3 b0_4 b0_5 b0_6 b0_7 b1_0 b1_1 b1_2 b1_3 b1_4 b1_5 b1_6 b1_7):=by kernel_rfl
theorem zr2 (n:Nat) (s3 b0_0 b0_1 b0_2 b0_3 b0_4 b0_5 b0_6 b0_7 b1_0 b1_1 b1_2 b1_3 b1_4 b1_5 b1_6 b1_7):gf7 (n+1) s3 b0_0 b0_1 b0_2 b0_3 b0_4 b0_5 b0_6 b0_7 b1_0 b1_1 b1_2 b1_3 b1_4 b1_5 b1_6 b1_7=q7 ((za9 .i64 s3 (16:Int)) != (0:Int)) (gf8 n s3 b0_0 b0_1 b0_2 b0_3 b0_4 b0_5 b0_6 b0_7 b1_0 b1_1 b1_2 b1_3 b1_4 b0_5 b1_6 b1_7) (gf8 n s3 b0_0 b0_1 b0_2 b0_3 b0_4 b0_5 b0_6 b0_7 b1_0 b1_1 b1_2 b1_3 b1_4 b1_5 b1_6 b1_7):=by kernel_rfl
theorem zr7 (n:Nat) (s3 b0_0 b0_1 b0_2 b0_3 b0_4 b0_5 b0_6 b0_7 b1_0 b1_1 b1_2 b1_3 b1_4 b1_5 b1_6 b1_7):gf8 (n+1) s3 b0_0 b0_1 b0_2 b0_3 b0_4 b0_5 b0_6 b0_7 b1_0 b1_1 b1_2 b1_3 b1_4 b1_5 b1_6 b1_7=q7 ((za9 .i64 s3 (32:Int)) != (0:Int)) (gd0 n s3 b0_0 b0_1 b0_2 b0_3 b0_4 b0_5 b0_6 b0_7 b1_0 b1_1 b1_2 b1_3 b1_4 b1_5 b1_6 b0_7) (gd0 n s3 b0_0 b0_1 b0_2 b0_3 b0_4 b0_5 b0_6 b0_7 b1_0 b1_1 b1_2 b1_3 b1_4 b1_5 b1_6 b1_7):=by kernel_rfl
theorem zr0 (n:Nat) (s3 b0_0 b0_1 b0_2 b0_3 b0_4 b0_5 b0_6 b0_7 b1_0 b1_1 b1_2 b1_3 b1_4 b1_5 b1_6 b1_7):gd0 (n+1) s3 b0_0 b0_1 b0_2 b0_3 b0_4 b0_5 b0_6 b0_7 b1_0 b1_1 b1_2 b1_3 b1_4 b1_5 b1_6 b1_7=q7 ((za9 .i64 s3 (64:Int)) != (0:Int)) (ge7 n s3 b0_0 b0_1 b0_2 b0_3 b0_4 b0_5 b0_6 b0_7 b1_0 b0_1 b1_2 b1_3 b1_4 b1_5 b1_6 b1_7) (ge7 n s3 b0_0 b0_1 b0_2 b0_3 b0_4 b0_5 b0_6 b0_7 b1_0 b1_1 b1_2 b1_3 b1_4 b1_5 b1_6 b1_7):=by kernel_rfl
theorem zs4 (n:Nat) (s3 b0_0 b0_1 b0_2 b0_3 b0_4 b0_5 b0_6 b0_7 b1_0 b1_1 b1_2 b1_3 b1_4 b1_5 b1_6 b1_7):ge7 (n+1) s3 b0_0 b0_1 b0_2 b0_3 b0_4 b0_5 b0_6 b0_7 b1_0 b1_1 b1_2 b1_3 b1_4 b1_5 b1_6 b1_7=q7 ((za9 .i64 s3 (1:Int)) != (0:Int)) (gd5 n s3 (9:Int) b0_0 b0_1 b0_2 b0_3 b0_4 b0_5 b0_6 b0_7 b1_0 b1_1 b1_2 b1_3 b1_4 b1_5 b1_6 b1_7) (gd5 n s3 (10:Int) b0_0 b0_1 b0_2 b0_3 b0_4 b0_5 b0_6 b0_7 b1_0 b1_1 b1_2 b1_3 b1_4 b1_5 b1_6 b1_7):=by kernel_rfl
theorem zs6 (n:Nat) (s3 s5 b0_0 b0_1 b0_2 b0_3 b0_4 b0_5 b0_6 b0_7 b1_0 b1_1 b1_2 b1_3 b1_4 b1_5 b1_6 b1_7):gd5 (n+1) s3 s5 b0_0 b0_1 b0_2 b0_3 b0_4 b0_5 b0_6 b0_7 b1_0 b1_1 b1_2 b1_3 b1_4 b1_5 b1_6 b1_7=q7 ((za9 .i64 s3 (32:Int))==(0:Int)) (ve8 n s3 s5 true b0_0 b0_1 b0_2 b0_3 b0_4 b0_5 b0_6 b0_7 b1_0 b1_1 b1_2 b1_3 b1_4 b1_5 b1_6 b1_7) (j7 (qcv v5 ([(1:Int),(2:Int),(4:Int),(8:Int)]:List Int) b0_7) fun y1=>ve8 n s3 s5 y1 b0_0 b0_1 b0_2 b0_3 b0_4 b0_5 b0_6 b0_7 b1_0 b1_1 b1_2 b1_3 b1_4 b1_5 b1_6 b1_7):=by kernel_rfl
theorem kr8 (n:Nat) (s3 s5 s6 b0_0 b0_1 b0_2 b0_3 b0_4 b0_5 b0_6 b0_7 b1_0 b1_1 b1_2 b1_3 b1_4 b1_5 b1_6 b1_7):ve8 (n+1) s3 s5 s6 b0_0 b0_1 b0_2 b0_3 b0_4 b0_5 b0_6 b0_7 b1_0 b1_1 b1_2 b1_3 b1_4 b1_5 b1_6 b1_7=q7 (s3 != (0:Int)) (q7 ((b0_0==b1_0)&&((b0_1==b1_1)&&((b0_2==b1_2)&&((b0_3==b1_3)&&((b0_4==b1_4)&&((b0_5==b1_5)&&((b0_6==b1_6)&&(b0_7==b1_7)))))))) (j7 (qbx v5 b0_2 (0:Int) s5) fun y1=>q7 y1 (j7 (qbx v5 b0_3 (0:Int) (10:Int)) fun y2=>q7 y2 (j7 (qbx v5 b0_5 (-32768:Int) (32767:Int)) fun y3=>q7 y3 (j7 (qbx v5 b0_6 (-2147483648:Int) (2147483647:Int)) fun y4=>q7 y4 (some s6) (some false)) (some false)) (some false)) (some false)) (some false)) (some false):=by kernel_rfl
def qa_sp:FnSpec TT:=⟨[.val (.user 2)],[.val (.bool)],fun x=>qa v5 x⟩
theorem wc0:ze7 TT prog 33 qa_sp:=u0 (C:=qa_C) (by kernel_rfl) wp8 func33 (show f33.body=some (j5 f33) by kernel_rfl) (by kernel_rfl) (by kernel_rfl) (cuts:=jz2) fun x y h=>⟨v5,h⟩
def qax_C:Ctx TT:=⟨za4,[],0,[],v9,za3⟩
theorem gj4:v4 TT prog qax_C.E:=q9
def qm5:List (Pos×Cut):= []
def qax (n:Nat) (x0:Bool) (x1:Int):Option (Int):=zf7 TT prog qax_C qm5 f32 (j5 f32) ⟨[],[]⟩ [.val (.bool),.val (.int .i64)] [.val (.int .i64)] n (x0,x1)
theorem wv9 (n:Nat) (x0 x1):qax n x0 x1=q7 x0 (some x1) (some (0:Int)):=by kernel_rfl
def qax_sp:FnSpec TT:=⟨[.val (.bool),.val (.int .i64)],[.val (.int .i64)],fun x=>qax v5 x.1 x.2⟩
theorem qd6:ze7 TT prog 32 qax_sp:=u0 (C:=qax_C) (by kernel_rfl) gj4 func32 (show f32.body=some (j5 f32) by kernel_rfl) (by kernel_rfl) (by kernel_rfl) (cuts:=qm5) fun x y h=>⟨v5,h⟩
def qcw_C:Ctx TT:=⟨za4,[(33,qa_sp.toCall),(32,qax_sp.toCall)],1,[],v9,za3⟩
theorem gt2:v4 TT prog qcw_C.E:=g9 (q8 wc0) (g9 (q8 qd6) (q9))
def qw0:List (Pos×Cut):= []
def qcw (n:Nat) (x0:Int) (x1:List Ins):Option (((List Ins×Unit)×Unit)×(Int×Unit)):=zh0 TT prog qcw_C qw0 f31 (j5 f31) ⟨[],[],[],[],[]⟩ [.val (.int .i64),.ptr 0 22 [.val (.list (.user 2))]] [.blk 22 [.val (.list (.user 2))]] [.val (.int .i64)] n (x0,(x1,()),())
theorem ws1 (n:Nat) (x0 x1):qcw n x0 x1=if 0<=x0/\x0<((x1.length:Nat):Int) then (j7 (qa v5 (x1.getD x0.toNat zb1)) fun y1=>j7 (qax v5 (!y1) (4:Int)) fun y2=>some (((x1,()),()),(y2,()))) else none:=by kernel_rfl
def qcw_sp:GSpec TT:=⟨[.val (.int .i64),.ptr 0 22 [.val (.list (.user 2))]],[.blk 22 [.val (.list (.user 2))]],[.val (.int .i64)],fun x=>qcw v5 x.1 x.2.1.1⟩
theorem wq1:GOk TT prog 31 qcw_sp:=za7 (C:=qcw_C) (cuts:=qw0) (by kernel_rfl) gt2 func31 (show f31.body=some (j5 f31) by kernel_rfl) (by kernel_rfl) (by kernel_rfl) (by kernel_rfl) fun x y h=>⟨v5,h⟩
def qby_C:Ctx TT:=⟨za4,[],0,[],v9,za3⟩
theorem gg4:v4 TT prog qby_C.E:=q9
def qm8:List (Pos×Cut):= []
def qby (n:Nat) (x0:Ins):Option (Bool):=zf7 TT prog qby_C qm8 f35 (j5 f35) ⟨[],[]⟩ [.val (.user 2)] [.val (.bool)] n x0
theorem wr9 (n:Nat) (x0):qby n x0=q7 (decide (x0.Op>=(16:Int))) (some (decide (x0.Op<=(27:Int)))) (some false):=by kernel_rfl
def qby_sp:FnSpec TT:=⟨[.val (.user 2)],[.val (.bool)],fun x=>qby v5 x⟩
theorem ga5:ze7 TT prog 35 qby_sp:=u0 (C:=qby_C) (by kernel_rfl) gg4 func35 (show f35.body=some (j5 f35) by kernel_rfl) (by kernel_rfl) (by kernel_rfl) (cuts:=qm8) fun x y h=>⟨v5,h⟩
def qcx_C:Ctx TT:=⟨za4,[(35,qby_sp.toCall),(32,qax_sp.toCall)],1,[],v9,za3⟩
theorem gu7:v4 TT prog qcx_C.E:=g9 (q8 ga5) (g9 (q8 qd6) (q9))
def qu2:List (Pos×Cut):= []
def qcx (n:Nat) (x0:Int) (x1:List Ins):Option (((List Ins×Unit)×Unit)×(Int×Unit)):=zh0 TT prog qcx_C qu2 f34 (j5 f34) ⟨[],[],[],[],[]⟩ [.val (.int .i64),.ptr 0 22 [.val (.list (.user 2))]] [.blk 22 [.val (.list (.user 2))]] [.val (.int .i64)] n (x0,(x1,()),())
theorem wz7 (n:Nat) (x0 x1):qcx n x0 x1=if 0<=x0/\x0<((x1.length:Nat):Int) then (if 0<=x0/\x0<((x1.length:Nat):Int) then (j7 (qby v5 (x1.getD x0.toNat zb1)) fun y1=>q7 (!y1) (some (((x1,()),()),((0:Int),()))) (q7 (decide ((IntKind.i64.wrap ((IntKind.i64.wrap (x0+(1:Int)))+((x1.getD x0.toNat zb1).Off)))<=x0)) (some (((x1,()),()),((100:Int),()))) (j7 (qax v5 (decide ((IntKind.i64.wrap ((IntKind.i64.wrap (x0+(1:Int)))+((x1.getD x0.toNat zb1).Off)))>=((x1.length:Nat):Int))) (101:Int)) fun y2=>some (((x1,()),()),(y2,()))))) else none) else none:=by kernel_rfl
def qcx_sp:GSpec TT:=⟨[.val (.int .i64),.ptr 0 22 [.val (.list (.user 2))]],[.blk 22 [.val (.list (.user 2))]],[.val (.int .i64)],fun x=>qcx v5 x.1 x.2.1.1⟩
theorem wz1:GOk TT prog 34 qcx_sp:=za7 (C:=qcx_C) (cuts:=qu2) (by kernel_rfl) gu7 func34 (show f34.body=some (j5 f34) by kernel_rfl) (by kernel_rfl) (by kernel_rfl) (by kernel_rfl) fun x y h=>⟨v5,h⟩
def qcy_C:Ctx TT:=⟨za4,[(32,qax_sp.toCall)],1,[],v9,za3⟩
theorem gu6:v4 TT prog qcy_C.E:=g9 (q8 qd6) (q9)
def va0:List (Pos×Cut):= []
def qcy (n:Nat) (x0:Int) (x1:List Ins):Option (((List Ins×Unit)×Unit)×(Int×Unit)):=zh0 TT prog qcy_C va0 f36 (j5 f36) ⟨[],[],[],[],[]⟩ [.val (.int .i64),.ptr 0 22 [.val (.list (.user 2))]] [.blk 22 [.val (.list (.user 2))]] [.val (.int .i64)] n (x0,(x1,()),())
theorem uf4 (n:Nat) (x0 x1):qcy n x0 x1=q7 (x0==(IntKind.i64.wrap (((x1.length:Nat):Int)-(1:Int)))) (if 0<=x0/\x0<((x1.length:Nat):Int) then (q7 (((x1.getD x0.toNat zb1).Op) != (28:Int)) (if 0<=x0/\x0<((x1.length:Nat):Int) then (j7 (qax v5 (((x1.getD x0.toNat zb1).Op) != (16:Int)) (102:Int)) fun y1=>some (((x1,()),()),(y1,()))) else none) (j7 (qax v5 false (102:Int)) fun y2=>some (((x1,()),()),(y2,())))) else none) (j7 (qax v5 false (102:Int)) fun y3=>some (((x1,()),()),(y3,()))):=by kernel_rfl
def qcy_sp:GSpec TT:=⟨[.val (.int .i64),.ptr 0 22 [.val (.list (.user 2))]],[.blk 22 [.val (.list (.user 2))]],[.val (.int .i64)],fun x=>qcy v5 x.1 x.2.1.1⟩
theorem wx7:GOk TT prog 36 qcy_sp:=za7 (C:=qcy_C) (cuts:=va0) (by kernel_rfl) gu6 func36 (show f36.body=some (j5 f36) by kernel_rfl) (by kernel_rfl) (by kernel_rfl) (by kernel_rfl) fun x y h=>⟨v5,h⟩
def wg2:ByteArray:=⟨#[0,1,2,2,3,3,3,3,4,4,4,4,4,4,4,4,5,5,5,5,5,5,5,5,5,5,5,5,5,5,5,5,6,6,6,6,6,6,6,6,6,6,6,6,6,6,6,6,6,6,6,6,6,6,6,6,6,6,6,6,6,6,6,6,7,7,7,7,7,7,7,7,7,7,7,7,7,7,7,7,7,7,7,7,7,7,7,7,7,7,7,7,7,7,7,7,7,7,7,7,7,7,7,7,7,7,7,7,7,7,7,7,7,7,7,7,7,7,7,7,7,7,7,7,7,7,7,7,8,8,8,8,8,8,8,8,8,8,8,8,8,8,8,8,8,8,8,8,8,8,8,8,8,8,8,8,8,8,8,8,8,8,8,8,8,8,8,8,8,8,8,8,8,8,8,8,8,8,8,8,8,8,8,8,8,8,8,8,8,8,8,8,8,8,8,8,8,8,8,8,8,8,8,8,8,8,8,8,8,8,8,8,8,8,8,8,8,8,8,8,8,8,8,8,8,8,8,8,8,8,8,8,8,8,8,8,8,8,8,8,8,8,8,8,8,8,8,8,8,8,8,8,8,8,8,8]⟩
def qo_C:Ctx TT:=⟨za4,[],0,[],v9,za3⟩
theorem wt2:v4 TT prog qo_C.E:=q9
def qc0:List (Pos×Cut):= [([true],⟨[0,2],[],false,[],0,false⟩),([true,true],⟨[0,2],[],false,[],0,false⟩),([true,true,true],⟨[0,2],[],false,[],0,false⟩)]
def qo (n:Nat) (x0:Int):Option (Int):=zf7 TT prog qo_C qc0 f129 (j5 f129) ⟨[],[]⟩ [.val (.int .u64)] [.val (.int .i64)] n x0
noncomputable abbrev uh7:=qb9 TT prog qo_C qc0 f129 (j5 f129) ⟨[],[]⟩ [.val (.int .u64)] [.val (.int .i64)]
def kf4 (n:Nat) (s0 s2:Int):Option (Int):=uh7 n [true] ⟨[(0,k7 s0),(2,ci s2)],[]⟩
def kf0 (n:Nat) (s0 s2:Int):Option (Int):=uh7 n [true,true] ⟨[(0,k7 s0),(2,ci s2)],[]⟩
def kd4 (n:Nat) (s0 s2:Int):Option (Int):=uh7 n [true,true,true] ⟨[(0,k7 s0),(2,ci s2)],[]⟩
theorem uo4 (n:Nat) (x0):qo n x0=q7 (decide (x0>=(4294967296:Int))) (kf4 n (zb8 .u64 x0 (32:Int)) (32:Int)) (kf4 n x0 (0:Int)):=by kernel_rfl
theorem kn1 (n:Nat) (s0 s2):kf4 (n+1) s0 s2=q7 (decide (s0>=(65536:Int))) (kf0 n (zb8 .u64 s0 (16:Int)) (IntKind.i64.wrap (s2+(16:Int)))) (kf0 n s0 s2):=by kernel_rfl
theorem kj3 (n:Nat) (s0 s2):kf0 (n+1) s0 s2=q7 (decide (s0>=(256:Int))) (kd4 n (zb8 .u64 s0 (8:Int)) (IntKind.i64.wrap (s2+(8:Int)))) (kd4 n s0 s2):=by kernel_rfl
theorem kp8 (n:Nat) (s0 s2):kd4 (n+1) s0 s2=jc2 wg2 (IntKind.u8.wrap s0) fun y1=>some (IntKind.i64.wrap (s2+(IntKind.i64.wrap y1))):=by kernel_rfl
def qo_sp:FnSpec TT:=⟨[.val (.int .u64)],[.val (.int .i64)],fun x=>qo v5 x⟩
theorem wb9:ze7 TT prog 129 qo_sp:=u0 (C:=qo_C) (by kernel_rfl) wt2 func129 (show f129.body=some (j5 f129) by kernel_rfl) (by kernel_rfl) (by kernel_rfl) (cuts:=qc0) fun x y h=>⟨v5,h⟩
def qet_C:Ctx TT:=⟨za4,[(129,qo_sp.toCall)],0,[],v9,za3⟩
theorem gh5:v4 TT prog qet_C.E:=g9 (q8 wb9) (q9)
def qy8:List (Pos×Cut):= []
def qet (n:Nat) (x0:Int):Option (Int):=zf7 TT prog qet_C qy8 f93 (j5 f93) ⟨[],[]⟩ [.val (.int .u64)] [.val (.int .i64)] n x0
def qet_sp:FnSpec TT:=⟨[.val (.int .u64)],[.val (.int .i64)],fun x=>qet v5 x⟩
theorem kx5:ze7 TT prog 93 qet_sp:=u0 (C:=qet_C) (by kernel_rfl) gh5 func93 (show f93.body=some (j5 f93) by kernel_rfl) (by kernel_rfl) (by kernel_rfl) (cuts:=qy8) fun x y h=>⟨v5,h⟩
def qcz_C:Ctx TT:=⟨za4,[],0,[],v9,za3⟩
theorem gi4:v4 TT prog qcz_C.E:=q9
def qw1:List (Pos×Cut):= []
def qcz (n:Nat) (x0:Int):Option (Bool):=zf7 TT prog qcz_C qw1 f178 (j5 f178) ⟨[],[]⟩ [.val (.int .i64)] [.val (.bool)] n x0
theorem wo3 (n:Nat) (x0):qcz n x0=some (x0 != x0):=by kernel_rfl
def qcz_sp:FnSpec TT:=⟨[.val (.int .i64)],[.val (.bool)],fun x=>qcz v5 x⟩
theorem ub3:ze7 TT prog 178 qcz_sp:=u0 (C:=qcz_C) (by kernel_rfl) gi4 func178 (show f178.body=some (j5 f178) by kernel_rfl) (by kernel_rfl) (by kernel_rfl) (cuts:=qw1) fun x y h=>⟨v5,h⟩
def qcc_C:Ctx TT:=⟨za4,[(178,qcz_sp.toCall)],0,[],v9,za3⟩
theorem gx3:v4 TT prog qcc_C.E:=g9 (q8 ub3) (q9)
def qw2:List (Pos×Cut):= []
def qcc (n:Nat) (x0 x1:Int):Option (Bool):=zf7 TT prog qcc_C qw2 f125 (j5 f125) ⟨[],[]⟩ [.val (.int .i64),.val (.int .i64)] [.val (.bool)] n (x0,x1)
theorem ua6 (n:Nat) (x0 x1):qcc n x0 x1=j7 (qcz v5 x0) fun y1=>q7 y1 (j7 (qcz v5 x1) fun y2=>q7 (!y2) (some true) (some (decide (x0<x1)))) (some (decide (x0<x1))):=by kernel_rfl
def qcc_sp:FnSpec TT:=⟨[.val (.int .i64),.val (.int .i64)],[.val (.bool)],fun x=>qcc v5 x.1 x.2⟩
theorem ku1:ze7 TT prog 125 qcc_sp:=u0 (C:=qcc_C) (by kernel_rfl) gx3 func125 (show f125.body=some (j5 f125) by kernel_rfl) (by kernel_rfl) (by kernel_rfl) (cuts:=qw2) fun x y h=>⟨v5,h⟩
def qdl_C:Ctx TT:=⟨za4,[(125,qcc_sp.toCall)],1,[(6,1)],v9,za3⟩
theorem gg8:v4 TT prog qdl_C.E:=g9 (q8 ku1) (q9)
def qz7:List (Pos×Cut):= [([false,true],⟨[0,1,2,6],[],false,[],0,false⟩),([false,true,false,false,true,false,false,true],⟨[0,1,2,6,7],[],false,[],0,false⟩),([false,false,false,true,false,false,true,false,false,true],⟨[0,1,2,6,7,30],[],false,[],0,false⟩)]
def qdl (n:Nat) (x0:List Int) (x1 x2:Int):Option (List Int×Unit):=zf7 TT prog qdl_C qz7 f119 (j5 f119) ⟨[],[]⟩ [.io 3 (.int .i64),.val (.int .i64),.val (.int .i64)] [] n (x0,x1,x2)
def qdl_sp:FnSpec TT:=⟨[.io 3 (.int .i64),.val (.int .i64),.val (.int .i64)],[],fun x=>qdl v5 x.1 x.2.1 x.2.2⟩
theorem ku2:ze7 TT prog 119 qdl_sp:=u0 (C:=qdl_C) (by kernel_rfl) gg8 func119 (show f119.body=some (j5 f119) by kernel_rfl) (by kernel_rfl) (by kernel_rfl) (cuts:=qz7) fun x y h=>⟨v5,h⟩
def qeu_C:Ctx TT:=⟨za4,[(119,qdl_sp.toCall)],1,[],v9,za3⟩
theorem gw5:v4 TT prog qeu_C.E:=g9 (q8 ku2) (q9)
def qx5:List (Pos×Cut):= [([false,true,true],⟨[0,1,2,3,8,9],[],false,[],0,false⟩),([true,true,true,false,false,false,true,true],⟨[0,1,2,3,8,9,10],[],false,[],0,false⟩)]
def qeu (n:Nat) (x0:List Int) (x1 x2 x3:Int):Option (List Int×Unit):=zf7 TT prog qeu_C qx5 f92 (j5 f92) ⟨[],[]⟩ [.io 3 (.int .i64),.val (.int .i64),.val (.int .i64),.val (.int .i64)] [] n (x0,x1,x2,x3)
def qeu_sp:FnSpec TT:=⟨[.io 3 (.int .i64),.val (.int .i64),.val (.int .i64),.val (.int .i64)],[],fun x=>qeu v5 x.1 x.2.1 x.2.2.1 x.2.2.2⟩
theorem kz6:ze7 TT prog 92 qeu_sp:=u0 (C:=qeu_C) (by kernel_rfl) gw5 func92 (show f92.body=some (j5 f92) by kernel_rfl) (by kernel_rfl) (by kernel_rfl) (cuts:=qx5) fun x y h=>⟨v5,h⟩
def qdm_C:Ctx TT:=⟨za4,[(93,qet_sp.toCall),(92,qeu_sp.toCall)],1,[],v9,za3⟩
theorem gl1:v4 TT prog qdm_C.E:=g9 (q8 kx5) (g9 (q8 kz6) (q9))
def qp5:List (Pos×Cut):= []
def qdm (n:Nat) (x0:List Int):Option (List Int×Unit):=zf7 TT prog qdm_C qp5 f67 (j5 f67) ⟨[],[]⟩ [.io 3 (.int .i64)] [] n x0
def qdm_sp:FnSpec TT:=⟨[.io 3 (.int .i64)],[],fun x=>qdm v5 x⟩
theorem wv8:ze7 TT prog 67 qdm_sp:=u0 (C:=qdm_C) (by kernel_rfl) gl1 func67 (show f67.body=some (j5 f67) by kernel_rfl) (by kernel_rfl) (by kernel_rfl) (cuts:=qp5) fun x y h=>⟨v5,h⟩
def qfa_C:Ctx TT:=⟨za4,[(125,qcc_sp.toCall)],1,[(6,1)],v9,za3⟩
theorem gu4:v4 TT prog qfa_C.E:=g9 (q8 ku1) (q9)
def qu9:List (Pos×Cut):= [([false,true],⟨[0,1,2,6],[],false,[],0,false⟩),([false,true,false,false,true,false,false,true],⟨[0,1,2,6,7],[],false,[],0,false⟩),([false,false,false,true,false,false,true,false,false,true],⟨[0,1,2,6,7,30],[],false,[],0,false⟩)]
def qfa (n:Nat) (x0:List Int) (x1 x2:Nat) (x3 x4:Int):Option ((List Int×Unit)×(Unit)):=zh0 TT prog qfa_C qu9 f119 (j5 f119) ⟨[],[],[],[],[]⟩ [.slr 3 (.int .i64),.val (.int .i64),.val (.int .i64)] [.row 3 (.int .i64)] [] n ((x0,x1,x2),x3,x4,())
def qfa_sp:GSpec TT:=⟨[.slr 3 (.int .i64),.val (.int .i64),.val (.int .i64)],[.row 3 (.int .i64)],[],fun x=>qfa v5 x.1.1 x.1.2.1 x.1.2.2 x.2.1 x.2.2.1⟩
theorem uc6:GOk TT prog 119 qfa_sp:=za7 (C:=qfa_C) (cuts:=qu9) (by kernel_rfl) gu4 func119 (show f119.body=some (j5 f119) by kernel_rfl) (by kernel_rfl) (by kernel_rfl) (by kernel_rfl) fun x y h=>⟨v5,h⟩
def qfb_C:Ctx TT:=⟨za4,[(119,qfa_sp.toCall (qdl_sp.toCall))],1,[],v9,za3⟩
theorem gh6:v4 TT prog qfb_C.E:=g9 (v7 uc6 (q8 ku2)) (q9)
def qy9:List (Pos×Cut):= [([false,true,true],⟨[0,1,2,3,8,9],[],false,[],0,false⟩),([true,true,true,false,false,false,true,true],⟨[0,1,2,3,8,9,10],[],false,[],0,false⟩)]
def qfb (n:Nat) (x0:List Int) (x1 x2:Nat) (x3 x4 x5:Int):Option ((List Int×Unit)×(Unit)):=zh0 TT prog qfb_C qy9 f92 (j5 f92) ⟨[],[],[],[],[]⟩ [.slr 3 (.int .i64),.val (.int .i64),.val (.int .i64),.val (.int .i64)] [.row 3 (.int .i64)] [] n ((x0,x1,x2),x3,x4,x5,())
def qfb_sp:GSpec TT:=⟨[.slr 3 (.int .i64),.val (.int .i64),.val (.int .i64),.val (.int .i64)],[.row 3 (.int .i64)],[],fun x=>qfb v5 x.1.1 x.1.2.1 x.1.2.2 x.2.1 x.2.2.1 x.2.2.2.1⟩
theorem wl3:GOk TT prog 92 qfb_sp:=za7 (C:=qfb_C) (cuts:=qy9) (by kernel_rfl) gh6 func92 (show f92.body=some (j5 f92) by kernel_rfl) (by kernel_rfl) (by kernel_rfl) (by kernel_rfl) fun x y h=>⟨v5,h⟩
def qev_C:Ctx TT:=⟨za4,[(93,qet_sp.toCall),(92,qfb_sp.toCall (qeu_sp.toCall))],1,[],v9,za3⟩
theorem gz2:v4 TT prog qev_C.E:=g9 (q8 kx5) (g9 (v7 wl3 (q8 kz6)) (q9))
def qn9:List (Pos×Cut):= []
def qev (n:Nat) (x0:List Int) (x1 x2:Nat):Option ((List Int×Unit)×(Unit)):=zh0 TT prog qev_C qn9 f67 (j5 f67) ⟨[],[],[],[],[]⟩ [.slr 3 (.int .i64)] [.row 3 (.int .i64)] [] n ((x0,x1,x2),())
def qev_sp:GSpec TT:=⟨[.slr 3 (.int .i64)],[.row 3 (.int .i64)],[],fun x=>qev v5 x.1.1 x.1.2.1 x.1.2.2⟩
theorem wp4:GOk TT prog 67 qev_sp:=za7 (C:=qev_C) (cuts:=qn9) (by kernel_rfl) gz2 func67 (show f67.body=some (j5 f67) by kernel_rfl) (by kernel_rfl) (by kernel_rfl) (by kernel_rfl) fun x y h=>⟨v5,h⟩
def qew_C:Ctx TT:=⟨za4,[],1,[],v9,za3⟩
theorem gq6:v4 TT prog qew_C.E:=q9
def ql4:List (Pos×Cut):= [([false,true,false,true,true],⟨[0,3],[],false,[],0,false⟩),([false,true,false,true,false,true,false,false,true,false,false,true,false,true,true],⟨[0,3,4,5],[],false,[],0,false⟩),([true,false,false,true,false,true,false,true,false,false,true,false,false,true,false,true,true],⟨[0,3,4,5],[],false,[],0,false⟩)]
def qew (n:Nat) (x0:List Int) (x1 x2:Nat):Option ((List Int×Unit)×((Nat×Nat)×Unit)):=zh0 TT prog qew_C ql4 f68 (j5 f68) ⟨[],[],[],[],[]⟩ [.slr 3 (.int .i64)] [.row 3 (.int .i64)] [.part 0 1] n ((x0,x1,x2),())
def qew_sp:GSpec TT:=⟨[.slr 3 (.int .i64)],[.row 3 (.int .i64)],[.part 0 1],fun x=>qew v5 x.1.1 x.1.2.1 x.1.2.2⟩
theorem uh2:GOk TT prog 68 qew_sp:=za7 (C:=qew_C) (cuts:=ql4) (by kernel_rfl) gq6 func68 (show f68.body=some (j5 f68) by kernel_rfl) (by kernel_rfl) (by kernel_rfl) (by kernel_rfl) fun x y h=>⟨v5,h⟩
def qep_C:Ctx TT:=⟨za4,[],1,[],v9,za3⟩
theorem gi6:v4 TT prog qep_C.E:=q9
def qt1:List (Pos×Cut):= [([false,true,false,true,true],⟨[0,3],[],false,[],0,false⟩),([false,true,false,true,false,true,false,false,true,false,false,true,false,true,true],⟨[0,3,4,5],[],false,[],0,false⟩),([true,false,false,true,false,true,false,true,false,false,true,false,false,true,false,true,true],⟨[0,3,4,5],[],false,[],0,false⟩)]
def qep (n:Nat) (x0:List Int):Option ((List Int×Unit)×((Nat×Nat)×Unit)):=zh0 TT prog qep_C qt1 f68 (j5 f68) ⟨[],[0],[],[],[]⟩ [.row 3 (.int .i64)] [.row 3 (.int .i64)] [.part 0 1] n (x0,())
def qep_sp:GSpec TT:=⟨[.row 3 (.int .i64)],[.row 3 (.int .i64)],[.part 0 1],fun x=>qep v5 x.1⟩
theorem ww8:GOk TT prog 68 qep_sp:=za7 (C:=qep_C) (cuts:=qt1) (by kernel_rfl) gi6 func68 (show f68.body=some (j5 f68) by kernel_rfl) (by kernel_rfl) (by kernel_rfl) (by kernel_rfl) fun x y h=>⟨v5,h⟩
def qab_C:Ctx TT:=⟨za4,[(33,qa_sp.toCall),(35,qby_sp.toCall),(67,qev_sp.toCall (qdm_sp.toCall)),(68,qep_sp.toCall (qew_sp.toCall (v6 TT)))],0,[],v9,za3⟩
theorem gg6:v4 TT prog qab_C.E:=g9 (q8 wc0) (g9 (q8 ga5) (g9 (v7 wp4 (q8 wv8)) (g9 (v7 ww8 (v7 uh2 (j9 68))) (q9))))
def jm2:List (Pos×Cut):= [([false,true],⟨[0,1,29],[],false,[],0,false⟩),([true,true,true],⟨[0,1,5],[],false,[],0,false⟩)]
def qab (n:Nat) (x0:List Ins) (x1:Int):Option ((Unit)×((List Int×Nat×Nat)×Unit)):=zh0 TT prog qab_C jm2 f38 (j5 f38) ⟨[(0,3,.int .i64,false)],[],[],[],[]⟩ [.val (.list (.user 2)),.val (.int .i64)] [] [.slr 3 (.int .i64)] n (x0,x1,())
noncomputable abbrev wb0:=go2 TT prog qab_C jm2 f38 (j5 f38) ⟨[(0,3,.int .i64,false)],[],[],[],[]⟩ [] [.slr 3 (.int .i64)]
def je0 (n:Nat) (s0:List Ins) (s1:Int) (s29:Bool):Option ((Unit)×((List Int×Nat×Nat)×Unit)):=wb0 n [false,true] ⟨[(0,.cell ⟨.list (.user 2),s0⟩),(1,ci s1),(29,cb s29)],[]⟩
def vi6 (n:Nat) (s0:List Ins) (s1:Int) (r0:List Int):Option ((Unit)×((List Int×Nat×Nat)×Unit)):=wb0 n [true,true,true] ⟨[(0,.cell ⟨.list (.user 2),s0⟩),(1,ci s1),(5,.own 0)],[.row 3 (.int .i64) r0]⟩
theorem uf6 (n:Nat) (x0 x1):qab n x0 x1=q7 (decide (x1<(0:Int))) (je0 n x0 x1 true) (q7 (decide (x1>=((x0.length:Nat):Int))) (je0 n x0 x1 true) (if 0<=x1/\x1<((x0.length:Nat):Int) then (j7 (qa v5 (x0.getD x1.toNat zb1)) fun y1=>q7 (!y1) (je0 n x0 x1 true) (if 0<=x1/\x1<((x0.length:Nat):Int) then (je0 n x0 x1 (((x0.getD x1.toNat zb1).Op)==(28:Int))) else none)) else none)):=by kernel_rfl
theorem kb5 (n:Nat) (s0 s1 s29):je0 (n+1) s0 s1 s29=q7 s29 (some ((),((([]:List Int),0,0),()))) (if 0<=s1/\s1<((s0.length:Nat):Int) then (j7 (qby v5 (s0.getD s1.toNat zb1)) fun y1=>q7 y1 (if 0<=s1/\s1<((s0.length:Nat):Int) then (vi6 n s0 s1 ([IntKind.i64.wrap (s1+(1:Int)),IntKind.i64.wrap ((IntKind.i64.wrap (s1+(1:Int)))+((s0.getD s1.toNat zb1).Off))]:List Int)) else none) (vi6 n s0 s1 ([IntKind.i64.wrap (s1+(1:Int))]:List Int))) else none):=by kernel_rfl
theorem vw4 (n:Nat) (s0 s1 r0):vi6 (n+1) s0 s1 r0=if 0<=s1/\s1<((s0.length:Nat):Int) then (q7 (((s0.getD s1.toNat zb1).Op)==(16:Int)) (if 0<=(1:Int)/\(1:Int)<=((r0.length:Nat):Int)/\((r0.length:Nat):Int)<=((r0.length:Nat):Int) then (j7 (qev v5 r0 1 ((((r0.length:Nat):Int).toNat)-1)) fun y1=>j7 (qew v5 y1.1.1 1 ((((r0.length:Nat):Int).toNat)-1)) fun y2=>some ((),((y2.1.1,y2.2.1.1,y2.2.1.2),()))) else none) (j7 (qdm v5 r0) fun y3=>j7 (qep v5 y3.1) fun y4=>some ((),((y4.1.1,y4.2.1.1,y4.2.1.2),())))) else none:=by kernel_rfl
def qab_sp:GSpec TT:=⟨[.val (.list (.user 2)),.val (.int .i64)],[],[.slr 3 (.int .i64)],fun x=>qab v5 x.1 x.2.1⟩
theorem wz4:GOk TT prog 38 qab_sp:=za7 (C:=qab_C) (cuts:=jm2) (by kernel_rfl) gg6 func38 (show f38.body=some (j5 f38) by kernel_rfl) (by kernel_rfl) (by kernel_rfl) (by kernel_rfl) fun x y h=>⟨v5,h⟩
def qu_C:Ctx TT:=⟨za4,[(38,qab_sp.toCall (v6 TT)),(32,qax_sp.toCall)],3,[(4,1)],v9,za3⟩
theorem wt9:v4 TT prog qu_C.E:=g9 (v7 wz4 (j9 38)) (g9 (q8 qd6) (q9))
def jz0:List (Pos×Cut):= [([false,true,false,true],⟨[0,2,9,10,11],[],false,[],0,false⟩),([true,true,false,false,true,false,true],⟨[0,2,9,10,11],[],false,[],0,false⟩)]
def qu (n:Nat) (x0:Int) (x1:List Ins) (x2:List Bool):Option (((List Ins×Unit)×(Unit×Unit)×List Bool×Unit)×(Int×Unit)):=zh0 TT prog qu_C jz0 f37 (j5 f37) ⟨[],[],[],[],[]⟩ [.val (.int .i64),.ptr 0 22 [.val (.list (.user 2))],.ptr 0 35 [.row 4 (.bool)]] [.blk 22 [.val (.list (.user 2))],.blk 35 [.own 2],.row 4 (.bool)] [.val (.int .i64)] n (x0,(x1,()),(x2,()),())
noncomputable abbrev uv1:=go2 TT prog qu_C jz0 f37 (j5 f37) ⟨[],[],[],[],[]⟩ [.blk 22 [.val (.list (.user 2))],.blk 35 [.own 2],.row 4 (.bool)] [.val (.int .i64)]
def js1 (n:Nat) (s0:Int) (s9o s9n:Nat) (s10 s11:Int) (b0_0:List Ins) (r2:List Bool) (r3:List Int):Option (((List Ins×Unit)×(Unit×Unit)×List Bool×Unit)×(Int×Unit)):=uv1 n [false,true,false,true] ⟨[(0,ci s0),(2,.ptr 1 0),(9,.sl 3 1 s9o s9n),(10,ci s10),(11,ci s11)],[.blk 22 [.cell ⟨.list (.user 2),b0_0⟩],.blk 35 [.own 2],.row 4 (.bool) r2,.row 3 (.int .i64) r3]⟩
def gc2 (n:Nat) (s0:Int) (s9o s9n:Nat) (s10 s11:Int) (b0_0:List Ins) (r2:List Bool) (r3:List Int):Option (((List Ins×Unit)×(Unit×Unit)×List Bool×Unit)×(Int×Unit)):=uv1 n [true,true,false,false,true,false,true] ⟨[(0,ci s0),(2,.ptr 1 0),(9,.sl 3 1 s9o s9n),(10,ci s10),(11,ci s11)],[.blk 22 [.cell ⟨.list (.user 2),b0_0⟩],.blk 35 [.own 2],.row 4 (.bool) r2,.row 3 (.int .i64) r3]⟩
theorem ul1 (n:Nat) (x0 x1 x2):qu n x0 x1 x2=j7 (qab v5 x1 x0) fun y1=>js1 n x0 y1.2.1.2.1 y1.2.1.2.2 ((y1.2.1.2.2:Nat):Int) (0:Int) x1 x2 y1.2.1.1:=by kernel_rfl
theorem qq6 (n:Nat) (s0 s9o s9n s10 s11 b0_0 r2 r3):js1 (n+1) s0 s9o s9n s10 s11 b0_0 r2 r3=q7 (decide (s11<s10)) (if 0<=s11/\s11<((s9n:Nat):Int) then (if s9o+s11.toNat<r3.length then (if 0<=r3.getD (s9o+s11.toNat) (0:Int)/\r3.getD (s9o+s11.toNat) (0:Int)<((r2.length:Nat):Int) then (q7 (r2.getD ((r3.getD (s9o+s11.toNat) (0:Int)).toNat) false) (if 0<=r3.getD (s9o+s11.toNat) (0:Int)/\r3.getD (s9o+s11.toNat) (0:Int)<((r2.length:Nat):Int) then (gc2 n s0 s9o s9n s10 s11 b0_0 (r2.set ((r3.getD (s9o+s11.toNat) (0:Int)).toNat) true) r3) else none) (if 0<=s0/\s0<((r2.length:Nat):Int) then (if 0<=r3.getD (s9o+s11.toNat) (0:Int)/\r3.getD (s9o+s11.toNat) (0:Int)<((r2.length:Nat):Int) then (gc2 n s0 s9o s9n s10 s11 b0_0 (r2.set ((r3.getD (s9o+s11.toNat) (0:Int)).toNat) (r2.getD s0.toNat false)) r3) else none) else none)) else none) else none) else none) (if 0<=s0/\s0<((r2.length:Nat):Int) then (j7 (qax v5 (!(r2.getD s0.toNat false)) (103:Int)) fun y1=>some (((b0_0,()),((),()),r2,()),(y1,()))) else none):=by kernel_rfl
theorem qn7 (n:Nat) (s0 s9o s9n s10 s11 b0_0 r2 r3):gc2 (n+1) s0 s9o s9n s10 s11 b0_0 r2 r3=js1 n s0 s9o s9n s10 (IntKind.i64.wrap (s11+(1:Int))) b0_0 r2 r3:=by kernel_rfl
def qu_sp:GSpec TT:=⟨[.val (.int .i64),.ptr 0 22 [.val (.list (.user 2))],.ptr 0 35 [.row 4 (.bool)]],[.blk 22 [.val (.list (.user 2))],.blk 35 [.own 2],.row 4 (.bool)],[.val (.int .i64)],fun x=>qu v5 x.1 x.2.1.1 x.2.2.1.1⟩
theorem ur0:GOk TT prog 37 qu_sp:=za7 (C:=qu_C) (cuts:=jz0) (by kernel_rfl) wt9 func37 (show f37.body=some (j5 f37) by kernel_rfl) (by kernel_rfl) (by kernel_rfl) (by kernel_rfl) fun x y h=>⟨v5,h⟩
def qd_C:Ctx TT:=⟨za4,[(31,qcw_sp.toCall (v6 TT)),(34,qcx_sp.toCall (v6 TT)),(36,qcy_sp.toCall (v6 TT)),(37,qu_sp.toCall (v6 TT))],4,[],v9,za3⟩
theorem uf0:v4 TT prog qd_C.E:=g9 (v7 wq1 (j9 31)) (g9 (v7 wz1 (j9 34)) (g9 (v7 wx7 (j9 36)) (g9 (v7 ur0 (j9 37)) (q9))))
def qb8:List (Pos×Cut):= [([false,true,false,true],⟨[0,4,9,10,11],[],true,[],0,false⟩),([false,true,true,false,false,true,true,false,false,true,false,true],⟨[0,4,6,9,10,11,15,16],[],false,[],0,false⟩)]
def qd (n:Nat) (x0:Int) (x1:List Ins) (x2:List Bool):Option (((((Unit)×(Unit×Unit))×((Unit)×(Unit×Unit))×((Unit)×(Unit×Unit))×((Unit)×(Unit×Unit×Unit))×Unit)×(List Ins×Unit)×(Unit×Unit)×List Bool×Unit)×(Fault×Unit)):=zh0 TT prog qd_C qb8 f30 (j5 f30) ⟨[],[],[],[],[]⟩ [.val (.int .i64),.slb 1 4 94 [.fn 31 [] [.ptr 0 22 [.val (.list (.user 2))]],.fn 34 [] [.at_ 1 0],.fn 36 [] [.at_ 1 0],.fn 37 [] [.at_ 1 0,.ptr 0 35 [.row 4 (.bool)]]]] [.blk 94 [.fn 31 [] [.at_ 1 0],.fn 34 [] [.at_ 1 0],.fn 36 [] [.at_ 1 0],.fn 37 [] [.at_ 1 0,.at_ 2 0]],.blk 22 [.val (.list (.user 2))],.blk 35 [.own 3],.row 4 (.bool)] [.val (.user 3)] n (x0,(((),((x1,()),())),((),((),())),((),((),())),((),((),(x2,()),())),()),())
noncomputable abbrev wd4:=go2 TT prog qd_C qb8 f30 (j5 f30) ⟨[],[],[],[],[]⟩ [.blk 94 [.fn 31 [] [.at_ 1 0],.fn 34 [] [.at_ 1 0],.fn 36 [] [.at_ 1 0],.fn 37 [] [.at_ 1 0,.at_ 2 0]],.blk 22 [.val (.list (.user 2))],.blk 35 [.own 3],.row 4 (.bool)] [.val (.user 3)]
def jj2 (n:Nat) (s0 s15 s16:Int) (b1_0:List Ins) (r3:List Bool) (b4_0 b4_1:Int):Option (((((Unit)×(Unit×Unit))×((Unit)×(Unit×Unit))×((Unit)×(Unit×Unit))×((Unit)×(Unit×Unit×Unit))×Unit)×(List Ins×Unit)×(Unit×Unit)×List Bool×Unit)×(Fault×Unit)):=wd4 n [false,true,true,false,false,true,true,false,false,true,false,true] ⟨[(0,ci s0),(4,.ptr 4 0),(6,.fn (.func 31) [] [.ptr 1 0]),(9,.sl 0 1 0 4),(10,.cell ⟨.int .i64,(4:Int)⟩),(11,.cell ⟨.int .i64,(0:Int)⟩),(15,ci s15),(16,ci s16)],[.blk 94 [.fn (.func 31) [] [.ptr 1 0],.fn (.func 34) [] [.ptr 1 0],.fn (.func 36) [] [.ptr 1 0],.fn (.func 37) [] [.ptr 1 0,.ptr 2 0]],.blk 22 [.cell ⟨.list (.user 2),b1_0⟩],.blk 35 [.own 3],.row 4 (.bool) r3,.blk 28 [ci b4_0,ci b4_1]]⟩
def yp4 (n:Nat) (s0 s15 s16:Int) (b1_0:List Ins) (r3:List Bool) (b4_0 b4_1:Int):Option (((((Unit)×(Unit×Unit))×((Unit)×(Unit×Unit))×((Unit)×(Unit×Unit))×((Unit)×(Unit×Unit×Unit))×Unit)×(List Ins×Unit)×(Unit×Unit)×List Bool×Unit)×(Fault×Unit)):=wd4 n [false,true,true,false,false,true,true,false,false,true,false,true] ⟨[(0,ci s0),(4,.ptr 4 0),(6,.fn (.func 34) [] [.ptr 1 0]),(9,.sl 0 1 0 4),(10,.cell ⟨.int .i64,(4:Int)⟩),(11,.cell ⟨.int .i64,(1:Int)⟩),(15,ci s15),(16,ci s16)],[.blk 94 [.fn (.func 31) [] [.ptr 1 0],.fn (.func 34) [] [.ptr 1 0],.fn (.func 36) [] [.ptr 1 0],.fn (.func 37) [] [.ptr 1 0,.ptr 2 0]],.blk 22 [.cell ⟨.list (.user 2),b1_0⟩],.blk 35 [.own 3],.row 4 (.bool) r3,.blk 28 [ci b4_0,ci b4_1]]⟩
def yo4 (n:Nat) (s0 s15 s16:Int) (b1_0:List Ins) (r3:List Bool) (b4_0 b4_1:Int):Option (((((Unit)×(Unit×Unit))×((Unit)×(Unit×Unit))×((Unit)×(Unit×Unit))×((Unit)×(Unit×Unit×Unit))×Unit)×(List Ins×Unit)×(Unit×Unit)×List Bool×Unit)×(Fault×Unit)):=wd4 n [false,true,true,false,false,true,true,false,false,true,false,true] ⟨[(0,ci s0),(4,.ptr 4 0),(6,.fn (.func 36) [] [.ptr 1 0]),(9,.sl 0 1 0 4),(10,.cell ⟨.int .i64,(4:Int)⟩),(11,.cell ⟨.int .i64,(2:Int)⟩),(15,ci s15),(16,ci s16)],[.blk 94 [.fn (.func 31) [] [.ptr 1 0],.fn (.func 34) [] [.ptr 1 0],.fn (.func 36) [] [.ptr 1 0],.fn (.func 37) [] [.ptr 1 0,.ptr 2 0]],.blk 22 [.cell ⟨.list (.user 2),b1_0⟩],.blk 35 [.own 3],.row 4 (.bool) r3,.blk 28 [ci b4_0,ci b4_1]]⟩
def yn8 (n:Nat) (s0 s15 s16:Int) (b1_0:List Ins) (r3:List Bool) (b4_0 b4_1:Int):Option (((((Unit)×(Unit×Unit))×((Unit)×(Unit×Unit))×((Unit)×(Unit×Unit))×((Unit)×(Unit×Unit×Unit))×Unit)×(List Ins×Unit)×(Unit×Unit)×List Bool×Unit)×(Fault×Unit)):=wd4 n [false,true,true,false,false,true,true,false,false,true,false,true] ⟨[(0,ci s0),(4,.ptr 4 0),(6,.fn (.func 37) [] [.ptr 1 0,.ptr 2 0]),(9,.sl 0 1 0 4),(10,.cell ⟨.int .i64,(4:Int)⟩),(11,.cell ⟨.int .i64,(3:Int)⟩),(15,ci s15),(16,ci s16)],[.blk 94 [.fn (.func 31) [] [.ptr 1 0],.fn (.func 34) [] [.ptr 1 0],.fn (.func 36) [] [.ptr 1 0],.fn (.func 37) [] [.ptr 1 0,.ptr 2 0]],.blk 22 [.cell ⟨.list (.user 2),b1_0⟩],.blk 35 [.own 3],.row 4 (.bool) r3,.blk 28 [ci b4_0,ci b4_1]]⟩
theorem up1 (n:Nat) (x0 x1 x2):qd (n+1) x0 x1 x2=jj2 n x0 x0 (0:Int) x1 x2 (0:Int) (0:Int):=by kernel_rfl
theorem jk4 (n:Nat) (s0 s15 s16 b1_0 r3 b4_0 b4_1):jj2 (n+2) s0 s15 s16 b1_0 r3 b4_0 b4_1=q7 (decide (s16<s15)) (j7 (qcw v5 s16 b1_0) fun y1=>q7 (y1.2.1 != (0:Int)) (some (((((),((),())),((),((),())),((),((),())),((),((),(),())),()),(y1.1.1.1,()),((),()),r3,()),((⟨y1.2.1,s16⟩:Fault),()))) (jj2 (n+1) s0 s15 (IntKind.i64.wrap (s16+(1:Int))) y1.1.1.1 r3 b4_0 b4_1)) (yp4 n s0 s0 (0:Int) b1_0 r3 b4_0 b4_1):=by kernel_rfl
theorem yy5 (n:Nat) (s0 s15 s16 b1_0 r3 b4_0 b4_1):yp4 (n+2) s0 s15 s16 b1_0 r3 b4_0 b4_1=q7 (decide (s16<s15)) (j7 (qcx v5 s16 b1_0) fun y1=>q7 (y1.2.1 != (0:Int)) (some (((((),((),())),((),((),())),((),((),())),((),((),(),())),()),(y1.1.1.1,()),((),()),r3,()),((⟨y1.2.1,s16⟩:Fault),()))) (yp4 (n+1) s0 s15 (IntKind.i64.wrap (s16+(1:Int))) y1.1.1.1 r3 b4_0 b4_1)) (yo4 n s0 s0 (0:Int) b1_0 r3 b4_0 b4_1):=by kernel_rfl
theorem yz5 (n:Nat) (s0 s15 s16 b1_0 r3 b4_0 b4_1):yo4 (n+2) s0 s15 s16 b1_0 r3 b4_0 b4_1=q7 (decide (s16<s15)) (j7 (qcy v5 s16 b1_0) fun y1=>q7 (y1.2.1 != (0:Int)) (some (((((),((),())),((),((),())),((),((),())),((),((),(),())),()),(y1.1.1.1,()),((),()),r3,()),((⟨y1.2.1,s16⟩:Fault),()))) (yo4 (n+1) s0 s15 (IntKind.i64.wrap (s16+(1:Int))) y1.1.1.1 r3 b4_0 b4_1)) (yn8 n s0 s0 (0:Int) b1_0 r3 b4_0 b4_1):=by kernel_rfl
theorem yy7 (n:Nat) (s0 s15 s16 b1_0 r3 b4_0 b4_1):yn8 (n+2) s0 s15 s16 b1_0 r3 b4_0 b4_1=q7 (decide (s16<s15)) (j7 (qu v5 s16 b1_0 r3) fun y1=>q7 (y1.2.1 != (0:Int)) (some (((((),((),())),((),((),())),((),((),())),((),((),(),())),()),(y1.1.1.1,()),((),()),y1.1.2.2.1,()),((⟨y1.2.1,s16⟩:Fault),()))) (yn8 (n+1) s0 s15 (IntKind.i64.wrap (s16+(1:Int))) y1.1.1.1 y1.1.2.2.1 b4_0 b4_1)) (some (((((),((),())),((),((),())),((),((),())),((),((),(),())),()),(b1_0,()),((),()),r3,()),((⟨(0:Int),(0:Int)⟩:Fault),()))):=by kernel_rfl
def qd_sp:GSpec TT:=⟨[.val (.int .i64),.slb 1 4 94 [.fn 31 [] [.ptr 0 22 [.val (.list (.user 2))]],.fn 34 [] [.at_ 1 0],.fn 36 [] [.at_ 1 0],.fn 37 [] [.at_ 1 0,.ptr 0 35 [.row 4 (.bool)]]]],[.blk 94 [.fn 31 [] [.at_ 1 0],.fn 34 [] [.at_ 1 0],.fn 36 [] [.at_ 1 0],.fn 37 [] [.at_ 1 0,.at_ 2 0]],.blk 22 [.val (.list (.user 2))],.blk 35 [.own 3],.row 4 (.bool)],[.val (.user 3)],fun x=>qd v5 x.1 x.2.1.1.2.1.1 x.2.1.2.2.2.1.2.2.1.1⟩
theorem un4:GOk TT prog 30 qd_sp:=za7 (C:=qd_C) (cuts:=qb8) (by kernel_rfl) uf0 func30 (show f30.body=some (j5 f30) by kernel_rfl) (by kernel_rfl) (by kernel_rfl) (by kernel_rfl) fun x y h=>⟨v5,h⟩
def qda_C:Ctx TT:=⟨za4,[(30,qd_sp.toCall (v6 TT))],0,[],v9,za3⟩
theorem gg1:v4 TT prog qda_C.E:=g9 (v7 un4 (j9 30)) (q9)
def qk2:List (Pos×Cut):= []
def qda (n:Nat) (x0:List Ins):Option (Fault):=zf7 TT prog qda_C qk2 f16 (j5 f16) ⟨[],[]⟩ [.val (.list (.user 2))] [.val (.user 3)] n x0
theorem wt6 (n:Nat) (x0):qda n x0=q7 (((x0.length:Nat):Int)==(0:Int)) (some (⟨(6:Int),(0:Int)⟩:Fault)) (q7 (decide (((x0.length:Nat):Int)>(4096:Int))) (some (⟨(3:Int),(0:Int)⟩:Fault)) (if 0<=((x0.length:Nat):Int)/\((x0.length:Nat):Int)<=((x0.length:Nat):Int)/\1*(((x0.length:Nat):Int).toNat)<=281474976710656/\((x0.length:Nat):Int)<=9223372036854775807 then (if 0<=(0:Int)/\(0:Int)<(((List.replicate (((x0.length:Nat):Int).toNat) false).length:Nat):Int) then (j7 (qd v5 ((x0.length:Nat):Int) x0 ((List.replicate (((x0.length:Nat):Int).toNat) false).set 0 true)) fun y1=>some y1.2.1) else none) else none)):=by kernel_rfl
def qda_sp:FnSpec TT:=⟨[.val (.list (.user 2))],[.val (.user 3)],fun x=>qda v5 x⟩
theorem wr0:ze7 TT prog 16 qda_sp:=u0 (C:=qda_C) (by kernel_rfl) gg1 func16 (show f16.body=some (j5 f16) by kernel_rfl) (by kernel_rfl) (by kernel_rfl) (cuts:=qk2) fun x y h=>⟨v5,h⟩
end
end Go.X
