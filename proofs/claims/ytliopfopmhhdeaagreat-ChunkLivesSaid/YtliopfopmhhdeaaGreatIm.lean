import Derived.Test.YtliopfopmhhdeaaGreatTb
set_option linter.defProp false
namespace Go.X
open Go.RowKit Go.V Go.Proofs
noncomputable def kit_mark_C:Ctx TT:=⟨zs0,[],0,[],zg5,zr6,zr9⟩
def js9:za0 TT Tryz.prog kit_mark_C.E:=zb9
def ym8:List (Pos×Cut):= []
noncomputable def zx9 (n:Nat) (x0:Int) (x1:Int):Option (Int):=js4 TT Tryz.prog kit_mark_C ym8 Tryz.f41 (j9 Tryz.f41) ⟨[],[]⟩ [.val (.int .i64),.val (.int .i64)] [.val (.int .i64)] n (x0,x1)
def zy6 (n:Nat) (x0:Int) (x1:Int):zx9 n x0 x1=
 some (IntKind.i64.wrap ((IntKind.i64.wrap ((1000003:Int)*(IntKind.i64.wrap (x0+(7:Int)))))+x1)):=by kernel_rfl
noncomputable def kit_mark_sp:FnSpec TT:=⟨[.val (.int .i64),.val (.int .i64)],[.val (.int .i64)],fun x=>zx9 BIG x.1 x.2⟩
def yy8:yt7 TT Tryz.prog 41 kit_mark_sp:=zp8 (C:=kit_mark_C) (by kernel_rfl) js9 Tryz.func41 (show Tryz.f41.body=some (j9 Tryz.f41) by kernel_rfl) (by kernel_rfl) (by kernel_rfl) (cuts:=ym8) fun x y h=>⟨BIG,h⟩
noncomputable def kit_markByte_C:Ctx TT:=⟨zs0,[(41,kit_mark_sp.toCall)],0,[],zg5,zr6,zr9⟩
def yu5:za0 TT Tryz.prog kit_markByte_C.E:=zg2 (zb0 yy8) (zb9)
def zy2:List (Pos×Cut):= []
noncomputable def zb6 (n:Nat) (x0:Int) (x1:Int):Option (Int):=js4 TT Tryz.prog kit_markByte_C zy2 Tryz.f27 (j9 Tryz.f27) ⟨[],[]⟩ [.val (.int .i64),.val (.int .i64)] [.val (.int .u8)] n (x0,x1)
def zs1 (n:Nat) (x0:Int) (x1:Int):zb6 n x0 x1=
 j7 (zx9 BIG x0 x1) fun y1=>
 some (IntKind.u8.wrap (ko1 .u64 (IntKind.u64.wrap ((IntKind.u64.wrap y1)*(11400714819323198485:Int))) (56:Int))):=by kernel_rfl
noncomputable def kit_markByte_sp:FnSpec TT:=⟨[.val (.int .i64),.val (.int .i64)],[.val (.int .u8)],fun x=>zb6 BIG x.1 x.2⟩
def zl6:yt7 TT Tryz.prog 27 kit_markByte_sp:=zp8 (C:=kit_markByte_C) (by kernel_rfl) yu5 Tryz.func27 (show Tryz.f27.body=some (j9 Tryz.f27) by kernel_rfl) (by kernel_rfl) (by kernel_rfl) (cuts:=zy2) fun x y h=>⟨BIG,h⟩
end Go.X
