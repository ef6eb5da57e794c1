import Derived.Test.YtliopfopmhhdeaaGreatIj
import Derived.Test.YtliopfopmhhdeaaGreatAh
set_option linter.defProp false
namespace Go.X
open Go.RowKit Go.V Go.Proofs Tryz
noncomputable section
def qp_C:Ctx TT:=⟨zn8,[(27,kit_markByte_sp.toCall)],0,[],ze4,zn2,zn5⟩
def gb7:za0 TT prog qp_C.E:=zd3 (za3 zm5) (zb5)
def jz8:List (Pos×Cut):= [([false,true,false,true,true,true],⟨[0,3,4],[],false,[],0,false⟩)]
def qp (n:Nat) (x0:List Int):Option ((Unit)×((List Int×Nat×Nat)×Unit)):=yh8 TT prog qp_C jz8 f7 (j9 f7) ⟨[],[],[],[],[]⟩ [.val (.list (.int .u8))] [] [.slr 5 (.int .u8)] n (x0,())
noncomputable abbrev gm8:=qg9 TT prog qp_C jz8 f7 (j9 f7) ⟨[],[],[],[],[]⟩ [] [.slr 5 (.int .u8)]
def jp9 (n:Nat) (s0:List Int) (s4:Int) (r0:List Int):Option ((Unit)×((List Int×Nat×Nat)×Unit)):=gm8 n [false,true,false,true,true,true] ⟨[(0,.cell ⟨.list (.int .u8),s0⟩),(3,.own 0),(4,ci s4)],[.row 5 (.int .u8) r0]⟩
def gh4 (n:Nat) (x0):qp n x0=if 0<=(0:Int)/\(0:Int)<=IntKind.i64.wrap (((x0.length:Nat):Int)+(12:Int))/\1*((IntKind.i64.wrap (((x0.length:Nat):Int)+(12:Int))).toNat)<=281474976710656/\IntKind.i64.wrap (((x0.length:Nat):Int)+(12:Int))<=9223372036854775807 then (if ((List.replicate 0 (0:Int)).length+x0.length)*1<=140737488355328 then (jp9 n x0 (0:Int) ((List.replicate 0 (0:Int))++x0)) else none) else none:=by kernel_rfl
def qm7 (n:Nat) (s0 s4 r0):jp9 (n+1) s0 s4 r0=z8 (decide (s4<(12:Int))) (j5 (zc0 BIG (1:Int) s4) fun y1=>if (r0.length+1)*1<=140737488355328 then (jp9 n s0 (IntKind.i64.wrap (s4+(1:Int))) (r0++([y1]:List Int))) else none) (if 0<=(0:Int)/\(0:Int)<=((s0.length:Nat):Int)/\((s0.length:Nat):Int)<=((r0.length:Nat):Int) then (some ((),((r0,0,(((s0.length:Nat):Int).toNat)-0),()))) else none):=by kernel_rfl
def qp_sp:GSpec TT:=⟨[.val (.list (.int .u8))],[],[.slr 5 (.int .u8)],fun x=>qp BIG x.1⟩
def kt9:GOk TT prog 7 qp_sp:=zi3 (C:=qp_C) (cuts:=jz8) (by kernel_rfl) gb7 func7 (show f7.body=some (j9 f7) by kernel_rfl) (by kernel_rfl) (by kernel_rfl) (by kernel_rfl) fun x y h=>⟨BIG,h⟩
def gn3:ByteArray:=⟨#[99,97,110,110,111,116,32,98,101,32,108,101,115,115,32,116,104,97,110,32,49]⟩
def qal_C:Ctx TT:=⟨zn8,[],0,[],ze4,zn2,zn5⟩
def kn9:za0 TT prog qal_C.E:=zb5
def ql1:List (Pos×Cut):= []
def qal (n:Nat) (x0:List Int) (x1:Int):Option ((Unit)×((((Unit)×((List Int×Unit)×(Int×Unit)×Unit))×Unit)⊕(ByteArray×Unit))):=gl4 TT prog qal_C ql1 f28 (j9 f28) ⟨[],[],[],[],[]⟩ [.val (.list (.int .u8)),.val (.int .i64)] [] [.fn 42 [] [.ptr 0 22 [.val (.list (.int .u8))],.ptr 0 3 [.val (.int .i64)]]] (.ifc 9 (.val (.str))) n (x0,x1,())
def ga2 (n:Nat) (x0 x1):qal n x0 x1=z8 (decide (x1<(1:Int))) (some ((),.inr (gn3,()))) (some ((),.inl (((),((x0,()),(x1,()),())),()))):=by kernel_rfl
def qal_sp:PSpec TT:=⟨[.val (.list (.int .u8)),.val (.int .i64)],[],[.fn 42 [] [.ptr 0 22 [.val (.list (.int .u8))],.ptr 0 3 [.val (.int .i64)]]],.ifc 9 (.val (.str)),fun x=>qal BIG x.1 x.2.1⟩
def ga3:POk TT prog 28 qal_sp:=kx4 (C:=qal_C) (cuts:=ql1) (by kernel_rfl) kn9 func28 (show f28.body=some (j9 f28) by kernel_rfl) (by kernel_rfl) (by kernel_rfl) (by kernel_rfl) fun x y h=>⟨BIG,h⟩
def qo_C:Ctx TT:=⟨zn8,[(28,qal_sp.toCall (za4 TT)),(29,ql_sp.toCall)],0,[(4,1)],ze4,zn2,zn5⟩
def gb6:za0 TT prog qo_C.E:=zd3 (vw3 ga3 (q8 28)) (zd3 (za3 vp4) (zb5))
def vp5:RuP TT:=⟨2,1,42,.inl (gd6 22 3),[6,2,3],[(0,0,22,.nl (.user 2))],some 3⟩
def qo (x0:List Int):Option ((Unit)×(List Row8×Unit)):=kv0 TT prog qo_C f8 (j9 f8) ⟨[],[],[],[],[]⟩ [.val (.list (.int .u8))] [] [.dr 22 2 [5]] vp5 (x0,())
def jp8 (m k:Nat) (b1_0:List Int) (b2_0:Int) (r3:List Row8):Option ((Unit)×(List Row8×Unit)):=ko9 TT prog qo_C f8 (j9 f8) ⟨[],[],[],[],[]⟩ [] [.dr 22 2 [5]] vp5 [.ptr 1 0,.ptr 2 0] m k (⟨[(6,.fn (.func 42) [] [.ptr 1 0,.ptr 2 0]),(2,.raw (.slice none 0 0)),(3,.ptr 0 0)],[.blk 25 [.own 3],.blk 22 [.cell ⟨.list (.int .u8),b1_0⟩],.blk 3 [.cell ⟨.int .i64,b2_0⟩],.drow 22 2 [5] r3 none]⟩:St TT)
def qu3 (k:Nat) (b1_0:List Int) (b2_0:Int) (r3:List Row8):jp8 0 k b1_0 b2_0 r3=z8 (decide (b2_0=1024)&&(Nat.beq ((((b1_0).length)+1023)/1024) k&&Nat.ble ((b1_0).length) 1099511627776)) (some ((),(r3,()))) (none):=by kernel_rfl
def qu2 (m k:Nat) (b1_0:List Int) (b2_0:Int) (r3:List Row8):jp8 (m+1) k b1_0 b2_0 r3=z8 (decide (b2_0=1024)&&(Nat.beq ((((b1_0).length)+1023)/1024) (k+(m+1))&&Nat.ble ((b1_0).length) 1099511627776)) (j5 (ql BIG (List.take 1024 (List.drop (k*1024) b1_0))) fun y1=>if (r3.length+(([zz0]:List Row8).set 0 (⟨y1⟩:Row8)).length)*24<=140737488355328 then (jp8 m (k+1) b1_0 b2_0 (r3++(([zz0]:List Row8).set 0 (⟨y1⟩:Row8)))) else none) (none):=by kernel_rfl
def gh3 (x0:List Int):qo x0=j5 (qal BIG x0 (1024:Int)) fun y1=>match y1.2 with| .inl z1=>(match z8 (decide (z1.1.2.2.1.1=1024)&&Nat.ble ((z1.1.2.1.1).length) 1099511627776) (some ((((z1.1.2.1.1).length)+1023)/1024)) none with|some N=>jp8 N 0 z1.1.2.1.1 z1.1.2.2.1.1 ([]:List Row8)|none=>none)| .inr e1=>(none):=by kernel_rfl
def qo_sp:GSpec TT:=⟨[.val (.list (.int .u8))],[],[.dr 22 2 [5]],fun x=>qo x.1⟩
def kt8:GOk TT prog 8 qo_sp:=jx1 (C:=qo_C) (D:=vp5) (by kernel_rfl) gb6 func8 (show f8.body=some (j9 f8) by kernel_rfl) (by kernel_rfl) (by kernel_rfl) (by kernel_rfl) (show RuP.ok prog vp5 from vs5) fun x y h=>h
def qs_C:Ctx TT:=⟨zn8,[],0,[],ze4,zn2,zn5⟩
def gc0:za0 TT prog qs_C.E:=zb5
def qa1:List (Pos×Cut):= [([false,true,false,true,true],⟨[0,3,4],[(3,22,.nl (.user 2))],false,[],0,false⟩)]
def qs (n:Nat) (x0:List Int):Option ((Unit)×(List Row8×Unit)):=yh8 TT prog qs_C qa1 f10 (j9 f10) ⟨[],[],[],[],[]⟩ [.val (.list (.int .u8))] [] [.dr 22 2 [5]] n (x0,())
noncomputable abbrev gn1:=qg9 TT prog qs_C qa1 f10 (j9 f10) ⟨[],[],[],[],[]⟩ [] [.dr 22 2 [5]]
def jq2 (n:Nat) (s0:List Int) (s4:Int) (r0:List Row8):Option ((Unit)×(List Row8×Unit)):=gn1 n [false,true,false,true,true] ⟨[(0,.cell ⟨.list (.int .u8),s0⟩),(3,.own 0),(4,ci s4)],[.drow 22 2 [5] r0 none]⟩
def gh8 (n:Nat) (x0):qs n x0=jq2 n x0 (0:Int) ([]:List Row8):=by kernel_rfl
def qn0 (n:Nat) (s0 s4 r0):jq2 (n+1) s0 s4 r0=z8 (decide (s4<((s0.length:Nat):Int))) (if 0<=s4/\s4<=yp7 (IntKind.i64.wrap (s4+(1024:Int))) ((s0.length:Nat):Int)/\yp7 (IntKind.i64.wrap (s4+(1024:Int))) ((s0.length:Nat):Int)<=((s0.length:Nat):Int) then (if (0+(List.take (((yp7 (IntKind.i64.wrap (s4+(1024:Int))) ((s0.length:Nat):Int)).toNat)-s4.toNat) (List.drop s4.toNat s0)).length)*1<=140737488355328 then (if (r0.length+(([zz0]:List Row8).set 0 (⟨([]:List Int)++(List.take (((yp7 (IntKind.i64.wrap (s4+(1024:Int))) ((s0.length:Nat):Int)).toNat)-s4.toNat) (List.drop s4.toNat s0))⟩:Row8)).length)*24<=140737488355328 then (jq2 n s0 (IntKind.i64.wrap (s4+(1024:Int))) (r0++(([zz0]:List Row8).set 0 (⟨([]:List Int)++(List.take (((yp7 (IntKind.i64.wrap (s4+(1024:Int))) ((s0.length:Nat):Int)).toNat)-s4.toNat) (List.drop s4.toNat s0))⟩:Row8)))) else none) else none) else none) (some ((),(r0,()))):=by kernel_rfl
def qs_sp:GSpec TT:=⟨[.val (.list (.int .u8))],[],[.dr 22 2 [5]],fun x=>qs BIG x.1⟩
def gh9:GOk TT prog 10 qs_sp:=zi3 (C:=qs_C) (cuts:=qa1) (by kernel_rfl) gc0 func10 (show f10.body=some (j9 f10) by kernel_rfl) (by kernel_rfl) (by kernel_rfl) (by kernel_rfl) fun x y h=>⟨BIG,h⟩
def qh_C:Ctx TT:=⟨zn8,[],0,[],ze4,zn2,zn5⟩
def ga9:za0 TT prog qh_C.E:=zb5
def jz4:List (Pos×Cut):= [([false,true,false,true,true],⟨[0,1,5],[],false,[],0,false⟩)]
def qh (n:Nat) (x0 x1:List Int):Option (Bool):=ji9 TT prog qh_C jz4 f21 (j9 f21) ⟨[],[]⟩ [.val (.list (.int .u8)),.val (.list (.int .u8))] [.val (.bool)] n (x0,x1)
noncomputable abbrev gm6:=kj5 TT prog qh_C jz4 f21 (j9 f21) ⟨[],[]⟩ [.val (.list (.int .u8)),.val (.list (.int .u8))] [.val (.bool)]
def yr2 (n:Nat) (s0 s1:List Int) (s5:Int):Option (Bool):=gm6 n [false,true,false,true,true] ⟨[(0,.cell ⟨.list (.int .u8),s0⟩),(1,.cell ⟨.list (.int .u8),s1⟩),(5,ci s5)],[]⟩
def kt4 (n:Nat) (x0 x1):qh n x0 x1=z8 (((x0.length:Nat):Int) != ((x1.length:Nat):Int)) (some false) (yr2 n x0 x1 (0:Int)):=by kernel_rfl
def yv3 (n:Nat) (s0 s1 s5):yr2 (n+1) s0 s1 s5=z8 (decide (s5<((s0.length:Nat):Int))) (if 0<=s5/\s5<((s0.length:Nat):Int) then (if 0<=s5/\s5<((s1.length:Nat):Int) then (z8 ((s0.getD s5.toNat (0:Int)) != (s1.getD s5.toNat (0:Int))) (some false) (yr2 n s0 s1 (IntKind.i64.wrap (s5+(1:Int))))) else none) else none) (some true):=by kernel_rfl
def qh_sp:FnSpec TT:=⟨[.val (.list (.int .u8)),.val (.list (.int .u8))],[.val (.bool)],fun x=>qh BIG x.1 x.2⟩
def kg7:yp0 TT prog 21 qh_sp:=zm4 (C:=qh_C) (by kernel_rfl) ga9 func21 (show f21.body=some (j9 f21) by kernel_rfl) (by kernel_rfl) (by kernel_rfl) (cuts:=jz4) fun x y h=>⟨BIG,h⟩
def qr_C:Ctx TT:=⟨zn8,[(21,qh_sp.toCall)],2,[(6,1)],ze4,zn2,zn5⟩
def gb9:za0 TT prog qr_C.E:=zd3 (za3 kg7) (zb5)
def qa0:List (Pos×Cut):= [([false,true,false,true,true],⟨[0,1,5],[],false,[],1,false⟩)]
def qr (n:Nat) (x0 x1:List Row8):Option ((List Row8×List Row8×Unit)×(Bool×Unit)):=yh8 TT prog qr_C qa0 f9 (j9 f9) ⟨[],[],[(0,0,4000000001,.bool)],[],[]⟩ [.dr 22 2 [5],.dr 22 2 [5]] [.dr 22 2 [5],.dr 22 2 [5]] [.val (.bool)] n (x0,x1,())
noncomputable abbrev gn0:=qg9 TT prog qr_C qa0 f9 (j9 f9) ⟨[],[],[(0,0,4000000001,.bool)],[],[]⟩ [.dr 22 2 [5],.dr 22 2 [5]] [.val (.bool)]
def jq1 (n:Nat) (s5:Int) (r0 r1:List Row8):Option ((List Row8×List Row8×Unit)×(Bool×Unit)):=gn0 n [false,true,false,true,true] ⟨[(0,.own 0),(1,.own 1),(5,ci s5)],[.drow 22 2 [5] r0 none,.drow 22 2 [5] r1 none]⟩
def gh6 (n:Nat) (x0 x1):qr n x0 x1=z8 (((x0.length:Nat):Int) != ((x1.length:Nat):Int)) (some ((x0,x1,()),(false,()))) (jq1 n (0:Int) x0 x1):=by kernel_rfl
def qm9 (n:Nat) (s5 r0 r1):jq1 (n+1) s5 r0 r1=z8 (decide (s5<((r0.length:Nat):Int))) (if 0<=s5/\s5<((r0.length:Nat):Int) then (if s5.toNat<r0.length then (if 0<=s5/\s5<((r1.length:Nat):Int) then (if s5.toNat<r1.length then (j5 (qh BIG ((r0.getD s5.toNat zz0).l) ((r1.getD s5.toNat zz0).l)) fun y1=>z8 (!y1) (some ((r0.set s5.toNat (r0.getD s5.toNat zz0),r1.set s5.toNat (r1.getD s5.toNat zz0),()),(false,()))) (jq1 n (IntKind.i64.wrap (s5+(1:Int))) (r0.set s5.toNat (r0.getD s5.toNat zz0)) (r1.set s5.toNat (r1.getD s5.toNat zz0)))) else none) else none) else none) else none) (some ((r0,r1,()),(true,()))):=by kernel_rfl
def qr_sp:GSpec TT:=⟨[.dr 22 2 [5],.dr 22 2 [5]],[.dr 22 2 [5],.dr 22 2 [5]],[.val (.bool)],fun x=>qr BIG x.1 x.2.1⟩
def gh7:GOk TT prog 9 qr_sp:=zi3 (C:=qr_C) (cuts:=qa0) (by kernel_rfl) gb9 func9 (show f9.body=some (j9 f9) by kernel_rfl) (by kernel_rfl) (by kernel_rfl) (by kernel_rfl) fun x y h=>⟨BIG,h⟩
def qg_C:Ctx TT:=⟨zn8,[(27,kit_markByte_sp.toCall)],1,[],ze4,zn2,zn5⟩
def ga8:za0 TT prog qg_C.E:=zd3 (za3 zm5) (zb5)
def jz3:List (Pos×Cut):= [([false,true,false,true,true,true],⟨[1,5,6],[],false,[],0,false⟩),([false,false,true,false,false,true,false,true,true,true],⟨[1,5,6,57],[],false,[],0,false⟩)]
def qg (n:Nat) (x0:List Int) (x1 x2:Nat) (x3:List Int):Option ((List Int×Unit)×(Bool×Unit)):=yh8 TT prog qg_C jz3 f11 (j9 f11) ⟨[],[],[],[],[]⟩ [.slr 5 (.int .u8),.val (.list (.int .u8))] [.row 5 (.int .u8)] [.val (.bool)] n ((x0,x1,x2),x3,())
noncomputable abbrev gk7:=qg9 TT prog qg_C jz3 f11 (j9 f11) ⟨[],[],[],[],[]⟩ [.row 5 (.int .u8)] [.val (.bool)]
def jh9 (n:Nat) (s1:List Int) (s5o s5n:Nat) (s6:Int) (r0:List Int):Option ((List Int×Unit)×(Bool×Unit)):=gk7 n [false,true,false,true,true,true] ⟨[(1,.cell ⟨.list (.int .u8),s1⟩),(5,.sl 0 1 s5o s5n),(6,ci s6)],[.row 5 (.int .u8) r0]⟩
def jp5 (n:Nat) (s1:List Int) (s5o s5n:Nat) (s6:Int) (s57:Bool) (r0:List Int):Option ((List Int×Unit)×(Bool×Unit)):=gk7 n [false,false,true,false,false,true,false,true,true,true] ⟨[(1,.cell ⟨.list (.int .u8),s1⟩),(5,.sl 0 1 s5o s5n),(6,ci s6),(57,cb s57)],[.row 5 (.int .u8) r0]⟩
def gg6 (n:Nat) (x0 x1 x2 x3):qg n x0 x1 x2 x3=z8 (((x2:Nat):Int) != ((x3.length:Nat):Int)) (some ((x0,()),(false,()))) (if 0<=(0:Int)/\(0:Int)<=IntKind.i64.wrap (((x3.length:Nat):Int)+(12:Int))/\(IntKind.i64.wrap (((x3.length:Nat):Int)+(12:Int))<=((x2:Nat):Int)\/(((x1:Nat):Int)+IntKind.i64.wrap (((x3.length:Nat):Int)+(12:Int))<=((x0.length:Nat):Int)/\(x1=0\/0<x2))) then (jh9 n x3 (x1+0) (((IntKind.i64.wrap (((x3.length:Nat):Int)+(12:Int))).toNat)-0) (0:Int) x0) else none):=by kernel_rfl
def qm3 (n:Nat) (s1 s5o s5n s6 r0):jh9 (n+1) s1 s5o s5n s6 r0=z8 (decide (s6<((s5n:Nat):Int))) (z8 (decide (s6<((s1.length:Nat):Int))) (if 0<=s6/\s6<((s5n:Nat):Int) then (if s5o+s6.toNat<r0.length then (if 0<=s6/\s6<((s1.length:Nat):Int) then (z8 (!((r0.getD (s5o+s6.toNat) (0:Int))==(s1.getD s6.toNat (0:Int)))) (jp5 n s1 s5o s5n s6 true r0) (z8 (decide (s6>=((s1.length:Nat):Int))) (if 0<=s6/\s6<((s5n:Nat):Int) then (if s5o+s6.toNat<r0.length then (j5 (zc0 BIG (1:Int) (IntKind.i64.wrap (s6-((s1.length:Nat):Int)))) fun y1=>jp5 n s1 s5o s5n s6 (!((r0.getD (s5o+s6.toNat) (0:Int))==y1)) r0) else none) else none) (jp5 n s1 s5o s5n s6 false r0))) else none) else none) else none) (z8 (decide (s6>=((s1.length:Nat):Int))) (if 0<=s6/\s6<((s5n:Nat):Int) then (if s5o+s6.toNat<r0.length then (j5 (zc0 BIG (1:Int) (IntKind.i64.wrap (s6-((s1.length:Nat):Int)))) fun y2=>jp5 n s1 s5o s5n s6 (!((r0.getD (s5o+s6.toNat) (0:Int))==y2)) r0) else none) else none) (jp5 n s1 s5o s5n s6 false r0))) (some ((r0,()),(true,()))):=by kernel_rfl
def vy0 (n:Nat) (s1 s5o s5n s6 s57 r0):jp5 (n+1) s1 s5o s5n s6 s57 r0=z8 s57 (some ((r0,()),(false,()))) (jh9 n s1 s5o s5n (IntKind.i64.wrap (s6+(1:Int))) r0):=by kernel_rfl
def qg_sp:GSpec TT:=⟨[.slr 5 (.int .u8),.val (.list (.int .u8))],[.row 5 (.int .u8)],[.val (.bool)],fun x=>qg BIG x.1.1 x.1.2.1 x.1.2.2 x.2.1⟩
def kt3:GOk TT prog 11 qg_sp:=zi3 (C:=qg_C) (cuts:=jz3) (by kernel_rfl) ga8 func11 (show f11.body=some (j9 f11) by kernel_rfl) (by kernel_rfl) (by kernel_rfl) (by kernel_rfl) fun x y h=>⟨BIG,h⟩
def qac_C:Ctx TT:=⟨zn8,[(6,qw_sp.toCall),(7,qp_sp.toCall (za4 TT)),(8,yq2 (.list (.int .u8)) 22 2 [5] (fun x=>(qo x).map fun y=>y.2.1) (qo_sp.toCall (za4 TT))),(10,qs_sp.toCall (za4 TT)),(9,qr_sp.toCall (za4 TT)),(11,qg_sp.toCall (za4 TT)),(12,apB_sp.toCall (za4 TT))],0,[],ze4,zn2,zn5⟩
def kn0:za0 TT prog qac_C.E:=zd3 (za3 kh4) (zd3 (q9 kt9 (q8 7)) (zd3 (vu1 kt8 (fun x=>rfl) (fun z=>rfl) (q9 kt8 (q8 8))) (zd3 (q9 gh9 (q8 10)) (zd3 (q9 gh7 (q8 9)) (zd3 (q9 kt3 (q8 11)) (zd3 (q9 ka5 (q8 12)) (zb5)))))))
def qk2:List (Pos×Cut):= []
def qac (n:Nat) (x0:List Int):Option (Bool):=ji9 TT prog qac_C qk2 f3 (j9 f3) ⟨[],[]⟩ [.val (.list (.int .u8))] [.val (.bool)] n x0
def ky4 (n:Nat) (x0):qac n x0=z8 (decide (((x0.length:Nat):Int)>(50000:Int))) (j5 (qw BIG) fun y1=>some y1) (j5 (qp BIG x0) fun y2=>if y2.2.1.2.1+y2.2.1.2.2<=y2.2.1.1.length then (j5 ((qo (List.take y2.2.1.2.2 (List.drop y2.2.1.2.1 y2.2.1.1))).map fun y=>y.2.1) fun y3=>j5 (qs BIG x0) fun y4=>j5 (qr BIG y3 y4.2.1) fun y5=>z8 y5.2.1 (j5 (qg BIG y2.2.1.1 y2.2.1.2.1 y2.2.1.2.2 x0) fun y6=>z8 y6.2.1 (if y2.2.1.2.1+y2.2.1.2.2<=y6.1.1.length then (j5 ((qo (List.take y2.2.1.2.2 (List.drop y2.2.1.2.1 y6.1.1))).map fun y=>y.2.1) fun y7=>if (y5.1.1.length+y7.length)*24<=140737488355328 then (j5 (ki5 (y5.1.1++y7)) fun y8=>z8 y8.2.1 (j5 (qg BIG y6.1.1 y2.2.1.2.1 y2.2.1.2.2 x0) fun y9=>z8 y9.2.1 (j5 (qw BIG) fun y10=>some y10) (some false)) (some false)) else none) else none) (some false)) (some false)) else none):=by kernel_rfl
def qac_sp:FnSpec TT:=⟨[.val (.list (.int .u8))],[.val (.bool)],fun x=>qac BIG x⟩
def ky5:yp0 TT prog 3 qac_sp:=zm4 (C:=qac_C) (by kernel_rfl) kn0 func3 (show f3.body=some (j9 f3) by kernel_rfl) (by kernel_rfl) (by kernel_rfl) (cuts:=qk2) fun x y h=>⟨BIG,h⟩
end
end Go.X
