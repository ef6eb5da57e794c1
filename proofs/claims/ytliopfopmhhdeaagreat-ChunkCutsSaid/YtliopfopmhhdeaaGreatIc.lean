import Derived.Test.YtliopfopmhhdeaaGreatIj
import Derived.Test.YtliopfopmhhdeaaGreatAh
set_option linter.defProp false
namespace Go.X
open Go.RowKit Go.V Go.Proofs Tryz
noncomputable section
def qe_C:Ctx TT:=⟨zz4,[(27,kit_markByte_sp.toCall)],0,[],zj9,zx9,zy7⟩
def ke6:za2 TT prog qe_C.E:=zn6 (ze9 zp6) (ze8)
def jq6:List (Pos×Cut):= [([false,true,false,true,true,true],⟨[0,3,4],[],false,[],0,false⟩)]
def qe (n:Nat) (x0:List Int):Option ((Unit)×((List Int×Nat×Nat)×Unit)):=jh0 TT prog qe_C jq6 f7 (q9 f7) ⟨[],[],[],[],[]⟩ [.val (.list (.int .u8))] [] [.slr 5 (.int .u8)] n (x0,())
noncomputable abbrev kq5:=vy0 TT prog qe_C jq6 f7 (q9 f7) ⟨[],[],[],[],[]⟩ [] [.slr 5 (.int .u8)]
def ji3 (n:Nat) (s0:List Int) (s4:Int) (r0:List Int):Option ((Unit)×((List Int×Nat×Nat)×Unit)):=kq5 n [false,true,false,true,true,true] ⟨[(0,.cell ⟨.list (.int .u8),s0⟩),(3,.own 0),(4,ci s4)],[.row 5 (.int .u8) r0]⟩
def kk0 (n:Nat) (x0):qe n x0=if 0<=(0:Int)/\(0:Int)<=IntKind.i64.wrap (((x0.length:Nat):Int)+(12:Int))/\1*((IntKind.i64.wrap (((x0.length:Nat):Int)+(12:Int))).toNat)<=281474976710656/\IntKind.i64.wrap (((x0.length:Nat):Int)+(12:Int))<=9223372036854775807 then (if ((List.replicate 0 (0:Int)).length+x0.length)*1<=140737488355328 then (ji3 n x0 (0:Int) ((List.replicate 0 (0:Int))++x0)) else none) else none:=by kernel_rfl
def qa0 (n:Nat) (s0 s4 r0):ji3 (n+1) s0 s4 r0=j6 (decide (s4<(12:Int))) (j8 (zc5 BIG (1:Int) s4) fun y1=>if (r0.length+1)*1<=140737488355328 then (ji3 n s0 (IntKind.i64.wrap (s4+(1:Int))) (r0++([y1]:List Int))) else none) (if 0<=(0:Int)/\(0:Int)<=((s0.length:Nat):Int)/\((s0.length:Nat):Int)<=((r0.length:Nat):Int) then (some ((),((r0,0,(((s0.length:Nat):Int).toNat)-0),()))) else none):=by kernel_rfl
def qe_sp:GSpec TT:=⟨[.val (.list (.int .u8))],[],[.slr 5 (.int .u8)],fun x=>qe BIG x.1⟩
def kk1:GOk TT prog 7 qe_sp:=zs9 (C:=qe_C) (cuts:=jq6) (by kernel_rfl) ke6 func7 (show f7.body=some (q9 f7) by kernel_rfl) (by kernel_rfl) (by kernel_rfl) (by kernel_rfl) fun x y h=>⟨BIG,h⟩
def kr0:ByteArray:=⟨#[99,97,110,110,111,116,32,98,101,32,108,101,115,115,32,116,104,97,110,32,49]⟩
def qx_C:Ctx TT:=⟨zz4,[],0,[],zj9,zx9,zy7⟩
def kg4:za2 TT prog qx_C.E:=ze8
def qp4:List (Pos×Cut):= []
def qx (n:Nat) (x0:List Int) (x1:Int):Option ((Unit)×((((Unit)×((List Int×Unit)×(Int×Unit)×Unit))×Unit)⊕(ByteArray×Unit))):=kp6 TT prog qx_C qp4 f28 (q9 f28) ⟨[],[],[],[],[]⟩ [.val (.list (.int .u8)),.val (.int .i64)] [] [.fn 42 [] [.ptr 0 22 [.val (.list (.int .u8))],.ptr 0 3 [.val (.int .i64)]]] (.ifc 9 (.val (.str))) n (x0,x1,())
def kn0 (n:Nat) (x0 x1):qx n x0 x1=j6 (decide (x1<(1:Int))) (some ((),.inr (kr0,()))) (some ((),.inl (((),((x0,()),(x1,()),())),()))):=by kernel_rfl
def qx_sp:PSpec TT:=⟨[.val (.list (.int .u8)),.val (.int .i64)],[],[.fn 42 [] [.ptr 0 22 [.val (.list (.int .u8))],.ptr 0 3 [.val (.int .i64)]]],.ifc 9 (.val (.str)),fun x=>qx BIG x.1 x.2.1⟩
def kn1:POk TT prog 28 qx_sp:=ke0 (C:=qx_C) (cuts:=qp4) (by kernel_rfl) kg4 func28 (show f28.body=some (q9 f28) by kernel_rfl) (by kernel_rfl) (by kernel_rfl) (by kernel_rfl) fun x y h=>⟨BIG,h⟩
def qd_C:Ctx TT:=⟨zz4,[(28,qx_sp.toCall (zd4 TT)),(29,qi_sp.toCall)],0,[(4,1)],zj9,zx9,zy7⟩
def ke5:za2 TT prog qd_C.E:=zn6 (vg6 kn1 (za0 28)) (zn6 (ze9 vo8) (ze8))
def va2:RuP TT:=⟨2,1,42,.inl (kh6 22 3),[6,2,3],[(0,0,22,.nl (.user 2))],some 3⟩
def qd (x0:List Int):Option ((Unit)×(List Row8×Unit)):=kb8 TT prog qd_C f8 (q9 f8) ⟨[],[],[],[],[]⟩ [.val (.list (.int .u8))] [] [.dr 22 2 [5]] va2 (x0,())
def ji2 (m k:Nat) (b1_0:List Int) (b2_0:Int) (r3:List Row8):Option ((Unit)×(List Row8×Unit)):=vw2 TT prog qd_C f8 (q9 f8) ⟨[],[],[],[],[]⟩ [] [.dr 22 2 [5]] va2 [.ptr 1 0,.ptr 2 0] m k (⟨[(6,.fn (.func 42) [] [.ptr 1 0,.ptr 2 0]),(2,.raw (.slice none 0 0)),(3,.ptr 0 0)],[.blk 25 [.own 3],.blk 22 [.cell ⟨.list (.int .u8),b1_0⟩],.blk 3 [.cell ⟨.int .i64,b2_0⟩],.drow 22 2 [5] r3 none]⟩:St TT)
def qh3 (k:Nat) (b1_0:List Int) (b2_0:Int) (r3:List Row8):ji2 0 k b1_0 b2_0 r3=j6 (decide (b2_0=1024)&&(Nat.beq ((((b1_0).length)+1023)/1024) k&&Nat.ble ((b1_0).length) 1099511627776)) (some ((),(r3,()))) (none):=by kernel_rfl
def qh2 (m k:Nat) (b1_0:List Int) (b2_0:Int) (r3:List Row8):ji2 (m+1) k b1_0 b2_0 r3=j6 (decide (b2_0=1024)&&(Nat.beq ((((b1_0).length)+1023)/1024) (k+(m+1))&&Nat.ble ((b1_0).length) 1099511627776)) (j8 (qi BIG (List.take 1024 (List.drop (k*1024) b1_0))) fun y1=>if (r3.length+(([yd8]:List Row8).set 0 (⟨y1⟩:Row8)).length)*24<=140737488355328 then (ji2 m (k+1) b1_0 b2_0 (r3++(([yd8]:List Row8).set 0 (⟨y1⟩:Row8)))) else none) (none):=by kernel_rfl
def kj9 (x0:List Int):qd x0=j8 (qx BIG x0 (1024:Int)) fun y1=>match y1.2 with| .inl z1=>(match j6 (decide (z1.1.2.2.1.1=1024)&&Nat.ble ((z1.1.2.1.1).length) 1099511627776) (some ((((z1.1.2.1.1).length)+1023)/1024)) none with|some N=>ji2 N 0 z1.1.2.1.1 z1.1.2.2.1.1 ([]:List Row8)|none=>none)| .inr e1=>(none):=by kernel_rfl
def qd_sp:GSpec TT:=⟨[.val (.list (.int .u8))],[],[.dr 22 2 [5]],fun x=>qd x.1⟩
def ka7:GOk TT prog 8 qd_sp:=jo8 (C:=qd_C) (D:=va2) (by kernel_rfl) ke5 func8 (show f8.body=some (q9 f8) by kernel_rfl) (by kernel_rfl) (by kernel_rfl) (by kernel_rfl) (show RuP.ok prog va2 from vd0) fun x y h=>h
def qh_C:Ctx TT:=⟨zz4,[],0,[],zj9,zx9,zy7⟩
def ke9:za2 TT prog qh_C.E:=ze8
def jq9:List (Pos×Cut):= [([false,true,false,true,true],⟨[0,3,4],[(3,22,.nl (.user 2))],false,[],0,false⟩)]
def qh (n:Nat) (x0:List Int):Option ((Unit)×(List Row8×Unit)):=jh0 TT prog qh_C jq9 f10 (q9 f10) ⟨[],[],[],[],[]⟩ [.val (.list (.int .u8))] [] [.dr 22 2 [5]] n (x0,())
noncomputable abbrev kq8:=vy0 TT prog qh_C jq9 f10 (q9 f10) ⟨[],[],[],[],[]⟩ [] [.dr 22 2 [5]]
def ji6 (n:Nat) (s0:List Int) (s4:Int) (r0:List Row8):Option ((Unit)×(List Row8×Unit)):=kq8 n [false,true,false,true,true] ⟨[(0,.cell ⟨.list (.int .u8),s0⟩),(3,.own 0),(4,ci s4)],[.drow 22 2 [5] r0 none]⟩
def kk6 (n:Nat) (x0):qh n x0=ji6 n x0 (0:Int) ([]:List Row8):=by kernel_rfl
def qa3 (n:Nat) (s0 s4 r0):ji6 (n+1) s0 s4 r0=j6 (decide (s4<((s0.length:Nat):Int))) (if 0<=s4/\s4<=qe9 (IntKind.i64.wrap (s4+(1024:Int))) ((s0.length:Nat):Int)/\qe9 (IntKind.i64.wrap (s4+(1024:Int))) ((s0.length:Nat):Int)<=((s0.length:Nat):Int) then (if (0+(List.take (((qe9 (IntKind.i64.wrap (s4+(1024:Int))) ((s0.length:Nat):Int)).toNat)-s4.toNat) (List.drop s4.toNat s0)).length)*1<=140737488355328 then (if (r0.length+(([yd8]:List Row8).set 0 (⟨([]:List Int)++(List.take (((qe9 (IntKind.i64.wrap (s4+(1024:Int))) ((s0.length:Nat):Int)).toNat)-s4.toNat) (List.drop s4.toNat s0))⟩:Row8)).length)*24<=140737488355328 then (ji6 n s0 (IntKind.i64.wrap (s4+(1024:Int))) (r0++(([yd8]:List Row8).set 0 (⟨([]:List Int)++(List.take (((qe9 (IntKind.i64.wrap (s4+(1024:Int))) ((s0.length:Nat):Int)).toNat)-s4.toNat) (List.drop s4.toNat s0))⟩:Row8)))) else none) else none) else none) (some ((),(r0,()))):=by kernel_rfl
def qh_sp:GSpec TT:=⟨[.val (.list (.int .u8))],[],[.dr 22 2 [5]],fun x=>qh BIG x.1⟩
def kk7:GOk TT prog 10 qh_sp:=zs9 (C:=qh_C) (cuts:=jq9) (by kernel_rfl) ke9 func10 (show f10.body=some (q9 f10) by kernel_rfl) (by kernel_rfl) (by kernel_rfl) (by kernel_rfl) fun x y h=>⟨BIG,h⟩
def qf_C:Ctx TT:=⟨zz4,[],0,[],zj9,zx9,zy7⟩
def ke7:za2 TT prog qf_C.E:=ze8
def jq7:List (Pos×Cut):= [([false,true,false,true,true],⟨[0,1,5],[],false,[],0,false⟩)]
def qf (n:Nat) (x0 x1:List Int):Option (Bool):=qc8 TT prog qf_C jq7 f21 (q9 f21) ⟨[],[]⟩ [.val (.list (.int .u8)),.val (.list (.int .u8))] [.val (.bool)] n (x0,x1)
noncomputable abbrev kq6:=kh4 TT prog qf_C jq7 f21 (q9 f21) ⟨[],[]⟩ [.val (.list (.int .u8)),.val (.list (.int .u8))] [.val (.bool)]
def ji4 (n:Nat) (s0 s1:List Int) (s5:Int):Option (Bool):=kq6 n [false,true,false,true,true] ⟨[(0,.cell ⟨.list (.int .u8),s0⟩),(1,.cell ⟨.list (.int .u8),s1⟩),(5,ci s5)],[]⟩
def kk2 (n:Nat) (x0 x1):qf n x0 x1=j6 (((x0.length:Nat):Int) != ((x1.length:Nat):Int)) (some false) (ji4 n x0 x1 (0:Int)):=by kernel_rfl
def qa1 (n:Nat) (s0 s1 s5):ji4 (n+1) s0 s1 s5=j6 (decide (s5<((s0.length:Nat):Int))) (if 0<=s5/\s5<((s0.length:Nat):Int) then (if 0<=s5/\s5<((s1.length:Nat):Int) then (j6 ((s0.getD s5.toNat (0:Int)) != (s1.getD s5.toNat (0:Int))) (some false) (ji4 n s0 s1 (IntKind.i64.wrap (s5+(1:Int))))) else none) else none) (some true):=by kernel_rfl
def qf_sp:FnSpec TT:=⟨[.val (.list (.int .u8)),.val (.list (.int .u8))],[.val (.bool)],fun x=>qf BIG x.1 x.2⟩
def kk3:yw9 TT prog 21 qf_sp:=zt6 (C:=qf_C) (by kernel_rfl) ke7 func21 (show f21.body=some (q9 f21) by kernel_rfl) (by kernel_rfl) (by kernel_rfl) (cuts:=jq7) fun x y h=>⟨BIG,h⟩
def qg_C:Ctx TT:=⟨zz4,[(21,qf_sp.toCall)],2,[(6,1)],zj9,zx9,zy7⟩
def ke8:za2 TT prog qg_C.E:=zn6 (ze9 kk3) (ze8)
def jq8:List (Pos×Cut):= [([false,true,false,true,true],⟨[0,1,5],[],false,[],1,false⟩)]
def qg (n:Nat) (x0 x1:List Row8):Option ((List Row8×List Row8×Unit)×(Bool×Unit)):=jh0 TT prog qg_C jq8 f9 (q9 f9) ⟨[],[],[(0,0,4000000001,.bool)],[],[]⟩ [.dr 22 2 [5],.dr 22 2 [5]] [.dr 22 2 [5],.dr 22 2 [5]] [.val (.bool)] n (x0,x1,())
noncomputable abbrev kq7:=vy0 TT prog qg_C jq8 f9 (q9 f9) ⟨[],[],[(0,0,4000000001,.bool)],[],[]⟩ [.dr 22 2 [5],.dr 22 2 [5]] [.val (.bool)]
def ji5 (n:Nat) (s5:Int) (r0 r1:List Row8):Option ((List Row8×List Row8×Unit)×(Bool×Unit)):=kq7 n [false,true,false,true,true] ⟨[(0,.own 0),(1,.own 1),(5,ci s5)],[.drow 22 2 [5] r0 none,.drow 22 2 [5] r1 none]⟩
def kk4 (n:Nat) (x0 x1):qg n x0 x1=j6 (((x0.length:Nat):Int) != ((x1.length:Nat):Int)) (some ((x0,x1,()),(false,()))) (ji5 n (0:Int) x0 x1):=by kernel_rfl
def qa2 (n:Nat) (s5 r0 r1):ji5 (n+1) s5 r0 r1=j6 (decide (s5<((r0.length:Nat):Int))) (if 0<=s5/\s5<((r0.length:Nat):Int) then (if s5.toNat<r0.length then (if 0<=s5/\s5<((r1.length:Nat):Int) then (if s5.toNat<r1.length then (j8 (qf BIG ((r0.getD s5.toNat yd8).l) ((r1.getD s5.toNat yd8).l)) fun y1=>j6 (!y1) (some ((r0.set s5.toNat (r0.getD s5.toNat yd8),r1.set s5.toNat (r1.getD s5.toNat yd8),()),(false,()))) (ji5 n (IntKind.i64.wrap (s5+(1:Int))) (r0.set s5.toNat (r0.getD s5.toNat yd8)) (r1.set s5.toNat (r1.getD s5.toNat yd8)))) else none) else none) else none) else none) (some ((r0,r1,()),(true,()))):=by kernel_rfl
def qg_sp:GSpec TT:=⟨[.dr 22 2 [5],.dr 22 2 [5]],[.dr 22 2 [5],.dr 22 2 [5]],[.val (.bool)],fun x=>qg BIG x.1 x.2.1⟩
def kk5:GOk TT prog 9 qg_sp:=zs9 (C:=qg_C) (cuts:=jq8) (by kernel_rfl) ke8 func9 (show f9.body=some (q9 f9) by kernel_rfl) (by kernel_rfl) (by kernel_rfl) (by kernel_rfl) fun x y h=>⟨BIG,h⟩
def qb_C:Ctx TT:=⟨zz4,[(27,kit_markByte_sp.toCall)],1,[],zj9,zx9,zy7⟩
def ke4:za2 TT prog qb_C.E:=zn6 (ze9 zp6) (ze8)
def jq5:List (Pos×Cut):= [([false,true,false,true,true,true],⟨[1,5,6],[],false,[],0,false⟩),([false,false,true,false,false,true,false,true,true,true],⟨[1,5,6,57],[],false,[],0,false⟩)]
def qb (n:Nat) (x0:List Int) (x1 x2:Nat) (x3:List Int):Option ((List Int×Unit)×(Bool×Unit)):=jh0 TT prog qb_C jq5 f11 (q9 f11) ⟨[],[],[],[],[]⟩ [.slr 5 (.int .u8),.val (.list (.int .u8))] [.row 5 (.int .u8)] [.val (.bool)] n ((x0,x1,x2),x3,())
noncomputable abbrev kp1:=vy0 TT prog qb_C jq5 f11 (q9 f11) ⟨[],[],[],[],[]⟩ [.row 5 (.int .u8)] [.val (.bool)]
def ja9 (n:Nat) (s1:List Int) (s5o s5n:Nat) (s6:Int) (r0:List Int):Option ((List Int×Unit)×(Bool×Unit)):=kp1 n [false,true,false,true,true,true] ⟨[(1,.cell ⟨.list (.int .u8),s1⟩),(5,.sl 0 1 s5o s5n),(6,ci s6)],[.row 5 (.int .u8) r0]⟩
def ji1 (n:Nat) (s1:List Int) (s5o s5n:Nat) (s6:Int) (s57:Bool) (r0:List Int):Option ((List Int×Unit)×(Bool×Unit)):=kp1 n [false,false,true,false,false,true,false,true,true,true] ⟨[(1,.cell ⟨.list (.int .u8),s1⟩),(5,.sl 0 1 s5o s5n),(6,ci s6),(57,cb s57)],[.row 5 (.int .u8) r0]⟩
def kj7 (n:Nat) (x0 x1 x2 x3):qb n x0 x1 x2 x3=j6 (((x2:Nat):Int) != ((x3.length:Nat):Int)) (some ((x0,()),(false,()))) (if 0<=(0:Int)/\(0:Int)<=IntKind.i64.wrap (((x3.length:Nat):Int)+(12:Int))/\(IntKind.i64.wrap (((x3.length:Nat):Int)+(12:Int))<=((x2:Nat):Int)\/(((x1:Nat):Int)+IntKind.i64.wrap (((x3.length:Nat):Int)+(12:Int))<=((x0.length:Nat):Int)/\(x1=0\/0<x2))) then (ja9 n x3 (x1+0) (((IntKind.i64.wrap (((x3.length:Nat):Int)+(12:Int))).toNat)-0) (0:Int) x0) else none):=by kernel_rfl
def jz9 (n:Nat) (s1 s5o s5n s6 r0):ja9 (n+1) s1 s5o s5n s6 r0=j6 (decide (s6<((s5n:Nat):Int))) (j6 (decide (s6<((s1.length:Nat):Int))) (if 0<=s6/\s6<((s5n:Nat):Int) then (if s5o+s6.toNat<r0.length then (if 0<=s6/\s6<((s1.length:Nat):Int) then (j6 (!((r0.getD (s5o+s6.toNat) (0:Int))==(s1.getD s6.toNat (0:Int)))) (ji1 n s1 s5o s5n s6 true r0) (j6 (decide (s6>=((s1.length:Nat):Int))) (if 0<=s6/\s6<((s5n:Nat):Int) then (if s5o+s6.toNat<r0.length then (j8 (zc5 BIG (1:Int) (IntKind.i64.wrap (s6-((s1.length:Nat):Int)))) fun y1=>ji1 n s1 s5o s5n s6 (!((r0.getD (s5o+s6.toNat) (0:Int))==y1)) r0) else none) else none) (ji1 n s1 s5o s5n s6 false r0))) else none) else none) else none) (j6 (decide (s6>=((s1.length:Nat):Int))) (if 0<=s6/\s6<((s5n:Nat):Int) then (if s5o+s6.toNat<r0.length then (j8 (zc5 BIG (1:Int) (IntKind.i64.wrap (s6-((s1.length:Nat):Int)))) fun y2=>ji1 n s1 s5o s5n s6 (!((r0.getD (s5o+s6.toNat) (0:Int))==y2)) r0) else none) else none) (ji1 n s1 s5o s5n s6 false r0))) (some ((r0,()),(true,()))):=by kernel_rfl
def vh2 (n:Nat) (s1 s5o s5n s6 s57 r0):ji1 (n+1) s1 s5o s5n s6 s57 r0=j6 s57 (some ((r0,()),(false,()))) (ja9 n s1 s5o s5n (IntKind.i64.wrap (s6+(1:Int))) r0):=by kernel_rfl
def qb_sp:GSpec TT:=⟨[.slr 5 (.int .u8),.val (.list (.int .u8))],[.row 5 (.int .u8)],[.val (.bool)],fun x=>qb BIG x.1.1 x.1.2.1 x.1.2.2 x.2.1⟩
def kj8:GOk TT prog 11 qb_sp:=zs9 (C:=qb_C) (cuts:=jq5) (by kernel_rfl) ke4 func11 (show f11.body=some (q9 f11) by kernel_rfl) (by kernel_rfl) (by kernel_rfl) (by kernel_rfl) fun x y h=>⟨BIG,h⟩
def qy_C:Ctx TT:=⟨zz4,[(6,qr_sp.toCall),(7,qe_sp.toCall (zd4 TT)),(8,yl2 (.list (.int .u8)) 22 2 [5] (fun x=>(qd x).map fun y=>y.2.1) (qd_sp.toCall (zd4 TT))),(10,qh_sp.toCall (zd4 TT)),(9,qg_sp.toCall (zd4 TT)),(11,qb_sp.toCall (zd4 TT)),(12,apB_sp.toCall (zd4 TT))],0,[],zj9,zx9,zy7⟩
def kg5:za2 TT prog qy_C.E:=zn6 (ze9 km1) (zn6 (zb0 kk1 (za0 7)) (zn6 (ve5 ka7 (fun x=>rfl) (fun z=>rfl) (zb0 ka7 (za0 8))) (zn6 (zb0 kk7 (za0 10)) (zn6 (zb0 kk5 (za0 9)) (zn6 (zb0 kj8 (za0 11)) (zn6 (zb0 kc4 (za0 12)) (ze8)))))))
def qp5:List (Pos×Cut):= []
def qy (n:Nat) (x0:List Int):Option (Bool):=qc8 TT prog qy_C qp5 f3 (q9 f3) ⟨[],[]⟩ [.val (.list (.int .u8))] [.val (.bool)] n x0
def kn2 (n:Nat) (x0):qy n x0=j6 (decide (((x0.length:Nat):Int)>(50000:Int))) (j8 (qr BIG) fun y1=>some y1) (j8 (qe BIG x0) fun y2=>if y2.2.1.2.1+y2.2.1.2.2<=y2.2.1.1.length then (j8 ((qd (List.take y2.2.1.2.2 (List.drop y2.2.1.2.1 y2.2.1.1))).map fun y=>y.2.1) fun y3=>j8 (qh BIG x0) fun y4=>j8 (qg BIG y3 y4.2.1) fun y5=>j6 y5.2.1 (j8 (qb BIG y2.2.1.1 y2.2.1.2.1 y2.2.1.2.2 x0) fun y6=>j6 y6.2.1 (if y2.2.1.2.1+y2.2.1.2.2<=y6.1.1.length then (j8 ((qd (List.take y2.2.1.2.2 (List.drop y2.2.1.2.1 y6.1.1))).map fun y=>y.2.1) fun y7=>if (y5.1.1.length+y7.length)*24<=140737488355328 then (j8 (vx2 (y5.1.1++y7)) fun y8=>j6 y8.2.1 (j8 (qb BIG y6.1.1 y2.2.1.2.1 y2.2.1.2.2 x0) fun y9=>j6 y9.2.1 (j8 (qr BIG) fun y10=>some y10) (some false)) (some false)) else none) else none) (some false)) (some false)) else none):=by kernel_rfl
def kn3:FnSpec TT:=⟨[.val (.list (.int .u8))],[.val (.bool)],fun x=>qy BIG x⟩
def qy_ok:yw9 TT prog 3 kn3:=zt6 (C:=qy_C) (by kernel_rfl) kg5 func3 (show f3.body=some (q9 f3) by kernel_rfl) (by kernel_rfl) (by kernel_rfl) (cuts:=qp5) fun x y h=>⟨BIG,h⟩
end
end Go.X
