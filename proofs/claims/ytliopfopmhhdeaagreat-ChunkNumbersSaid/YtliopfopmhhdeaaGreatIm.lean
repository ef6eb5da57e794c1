import Derived.Test.YtliopfopmhhdeaaGreatTb
set_option linter.defProp false
namespace Go.X
open Go.RowKit Go.V Go.Proofs
noncomputable def kit_mark_C:Ctx TT:=⟨zn8,[],0,[],ze4,zn2,zn5⟩
def jv2:za0 TT Tryz.prog kit_mark_C.E:=zb5
def yo3:List (Pos×Cut):= []
noncomputable def zy7 (n:Nat) (x0:Int) (x1:Int):Option (Int):=ji9 TT Tryz.prog kit_mark_C yo3 Tryz.f41 (j9 Tryz.f41) ⟨[],[]⟩ [.val (.int .i64),.val (.int .i64)] [.val (.int .i64)] n (x0,x1)
def zz5 (n:Nat) (x0:Int) (x1:Int):zy7 n x0 x1=
 some (IntKind.i64.wrap ((IntKind.i64.wrap ((1000003:Int)*(IntKind.i64.wrap (x0+(7:Int)))))+x1)):=by kernel_rfl
noncomputable def kit_mark_sp:FnSpec TT:=⟨[.val (.int .i64),.val (.int .i64)],[.val (.int .i64)],fun x=>zy7 BIG x.1 x.2⟩
def jb1:yp0 TT Tryz.prog 41 kit_mark_sp:=zm4 (C:=kit_mark_C) (by kernel_rfl) jv2 Tryz.func41 (show Tryz.f41.body=some (j9 Tryz.f41) by kernel_rfl) (by kernel_rfl) (by kernel_rfl) (cuts:=yo3) fun x y h=>⟨BIG,h⟩
noncomputable def kit_markByte_C:Ctx TT:=⟨zn8,[(41,kit_mark_sp.toCall)],0,[],ze4,zn2,zn5⟩
def yw6:za0 TT Tryz.prog kit_markByte_C.E:=zd3 (za3 jb1) (zb5)
def zy9:List (Pos×Cut):= []
noncomputable def zc0 (n:Nat) (x0:Int) (x1:Int):Option (Int):=ji9 TT Tryz.prog kit_markByte_C zy9 Tryz.f27 (j9 Tryz.f27) ⟨[],[]⟩ [.val (.int .i64),.val (.int .i64)] [.val (.int .u8)] n (x0,x1)
def zs9 (n:Nat) (x0:Int) (x1:Int):zc0 n x0 x1=
 j5 (zy7 BIG x0 x1) fun y1=>
 some (IntKind.u8.wrap (ku6 .u64 (IntKind.u64.wrap ((IntKind.u64.wrap y1)*(11400714819323198485:Int))) (56:Int))):=by kernel_rfl
noncomputable def kit_markByte_sp:FnSpec TT:=⟨[.val (.int .i64),.val (.int .i64)],[.val (.int .u8)],fun x=>zc0 BIG x.1 x.2⟩
def zm5:yp0 TT Tryz.prog 27 kit_markByte_sp:=zm4 (C:=kit_markByte_C) (by kernel_rfl) yw6 Tryz.func27 (show Tryz.f27.body=some (j9 Tryz.f27) by kernel_rfl) (by kernel_rfl) (by kernel_rfl) (cuts:=zy9) fun x y h=>⟨BIG,h⟩
end Go.X
