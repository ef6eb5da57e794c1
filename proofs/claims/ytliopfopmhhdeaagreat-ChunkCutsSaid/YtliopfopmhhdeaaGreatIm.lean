import Derived.Test.YtliopfopmhhdeaaGreatTb
set_option linter.defProp false
namespace Go.X
open Go.RowKit Go.V Go.Proofs
noncomputable def kit_mark_C:Ctx TT:=⟨zz4,[],0,[],zj9,zx9,zy7⟩
def jn3:za2 TT Tryz.prog kit_mark_C.E:=ze8
def yj6:List (Pos×Cut):= []
noncomputable def jd2 (n:Nat) (x0:Int) (x1:Int):Option (Int):=qc8 TT Tryz.prog kit_mark_C yj6 Tryz.f41 (q9 Tryz.f41) ⟨[],[]⟩ [.val (.int .i64),.val (.int .i64)] [.val (.int .i64)] n (x0,x1)
def yu4 (n:Nat) (x0:Int) (x1:Int):jd2 n x0 x1=
 some (IntKind.i64.wrap ((IntKind.i64.wrap ((1000003:Int)*(IntKind.i64.wrap (x0+(7:Int)))))+x1)):=by kernel_rfl
noncomputable def kit_mark_sp:FnSpec TT:=⟨[.val (.int .i64),.val (.int .i64)],[.val (.int .i64)],fun x=>jd2 BIG x.1 x.2⟩
def jv2:yw9 TT Tryz.prog 41 kit_mark_sp:=zt6 (C:=kit_mark_C) (by kernel_rfl) jn3 Tryz.func41 (show Tryz.f41.body=some (q9 Tryz.f41) by kernel_rfl) (by kernel_rfl) (by kernel_rfl) (cuts:=yj6) fun x y h=>⟨BIG,h⟩
noncomputable def kit_markByte_C:Ctx TT:=⟨zz4,[(41,kit_mark_sp.toCall)],0,[],zj9,zx9,zy7⟩
def yq5:za2 TT Tryz.prog kit_markByte_C.E:=zn6 (ze9 jv2) (ze8)
def zv7:List (Pos×Cut):= []
noncomputable def zc5 (n:Nat) (x0:Int) (x1:Int):Option (Int):=qc8 TT Tryz.prog kit_markByte_C zv7 Tryz.f27 (q9 Tryz.f27) ⟨[],[]⟩ [.val (.int .i64),.val (.int .i64)] [.val (.int .u8)] n (x0,x1)
def yc1 (n:Nat) (x0:Int) (x1:Int):zc5 n x0 x1=
 j8 (jd2 BIG x0 x1) fun y1=>
 some (IntKind.u8.wrap (kb4 .u64 (IntKind.u64.wrap ((IntKind.u64.wrap y1)*(11400714819323198485:Int))) (56:Int))):=by kernel_rfl
noncomputable def kit_markByte_sp:FnSpec TT:=⟨[.val (.int .i64),.val (.int .i64)],[.val (.int .u8)],fun x=>zc5 BIG x.1 x.2⟩
def zp6:yw9 TT Tryz.prog 27 kit_markByte_sp:=zt6 (C:=kit_markByte_C) (by kernel_rfl) yq5 Tryz.func27 (show Tryz.f27.body=some (q9 Tryz.f27) by kernel_rfl) (by kernel_rfl) (by kernel_rfl) (cuts:=zv7) fun x y h=>⟨BIG,h⟩
end Go.X
