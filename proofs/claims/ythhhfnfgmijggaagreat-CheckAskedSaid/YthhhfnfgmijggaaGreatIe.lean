import Derived.Test.YthhhfnfgmijggaaGreatId
namespace Go.X
open Go.RowKit Go.V Go.Proofs Tryz
noncomputable section
def qck_C:Ctx TT:=⟨za4,[],0,[],v9,za3⟩
theorem gt4:v4 TT prog qck_C.E:=q9
def qy6:List (Pos×Cut):= []
def qck (n:Nat):Option (List Ins):=zf7 TT prog qck_C qy6 f15 (j5 f15) ⟨[],[(0,.list (.user 2))]⟩ [] [.val (.list (.user 2))] n ()
theorem wn0 (n:Nat):qck n=some ([(⟨(12:Int),false,(0:Int),(0:Int),true,(0:Int),(0:Int),(0:Int)⟩:Ins),(⟨(20:Int),false,(2:Int),(0:Int),true,(1:Int),(14:Int),(0:Int)⟩:Ins),(⟨(28:Int),false,(0:Int),(0:Int),false,(0:Int),(0:Int),(0:Int)⟩:Ins),(⟨(14:Int),false,(0:Int),(1:Int),false,(12:Int),(0:Int),(2:Int)⟩:Ins),(⟨(28:Int),false,(0:Int),(0:Int),false,(0:Int),(0:Int),(0:Int)⟩:Ins)]:List Ins):=by kernel_rfl
def qck_sp:FnSpec TT:=⟨[],[.val (.list (.user 2))],fun _=>qck v5⟩
theorem ua1:ze7 TT prog 15 qck_sp:=u0 (C:=qck_C) (by kernel_rfl) gt4 func15 (show f15.body=some (j5 f15) by kernel_rfl) (by kernel_rfl) (by kernel_rfl) (cuts:=qy6) fun x y h=>⟨v5,h⟩
def qaq_C:Ctx TT:=⟨za4,[(15,qck_sp.toCall),(8,qe_sp.toCall (v6 TT)),(12,qcb_sp.toCall)],0,[],v9,za3⟩
theorem gj3:v4 TT prog qaq_C.E:=g9 (q8 ua1) (g9 (v7 we5 (j9 8)) (g9 (q8 kx0) (q9)))
def jm9:List (Pos×Cut):= [([false,true,true,true],⟨[1,3,45],[],false,[],0,false⟩)]
def qaq (n:Nat):Option (Bool):=zf7 TT prog qaq_C jm9 f7 (j5 f7) ⟨[],[]⟩ [] [.val (.bool)] n ()
noncomputable abbrev uo8:=qb9 TT prog qaq_C jm9 f7 (j5 f7) ⟨[],[]⟩ [] [.val (.bool)]
def jd4 (n:Nat) (s45:Bool) (r0:List Place) (r1:List Ins):Option (Bool):=uo8 n [false,true,true,true] ⟨[(1,.own 0),(3,.own 1),(45,cb s45)],[.row 37 (.user 4) r0,.row 42 (.user 2) r1]⟩
theorem wu1 (n:Nat):qaq n=j7 (qck v5) fun y1=>j7 (qe v5 y1) fun y2=>j7 (qck v5) fun y3=>if 0<=(0:Int)/\(0:Int)<=(1:Int)/\(1:Int)<=((y3.length:Nat):Int) then (if (0+(List.take 1 (List.drop 0 y3)).length)*56<=140737488355328 then (j7 (qck v5) fun y4=>if 0<=(3:Int)/\(3:Int)<=((y4.length:Nat):Int)/\((y4.length:Nat):Int)<=((y4.length:Nat):Int) then (if ((([]:List Ins)++(List.take 1 (List.drop 0 y3))).length+(List.take ((((y4.length:Nat):Int).toNat)-3) (List.drop 3 y4)).length)*56<=140737488355328 then (q7 (y2.2.2.1.Err != (0:Int)) (jd4 n true y2.2.1 ((([]:List Ins)++(List.take 1 (List.drop 0 y3)))++(List.take ((((y4.length:Nat):Int).toNat)-3) (List.drop 3 y4)))) (q7 (((y2.2.1.length:Nat):Int) != (5:Int)) (jd4 n true y2.2.1 ((([]:List Ins)++(List.take 1 (List.drop 0 y3)))++(List.take ((((y4.length:Nat):Int).toNat)-3) (List.drop 3 y4)))) (if 0<=(3:Int)/\(3:Int)<((y2.2.1.length:Nat):Int) then (q7 (((y2.2.1.getD 3 k8).Least) != (14:Int)) (jd4 n true y2.2.1 ((([]:List Ins)++(List.take 1 (List.drop 0 y3)))++(List.take ((((y4.length:Nat):Int).toNat)-3) (List.drop 3 y4)))) (if 0<=(2:Int)/\(2:Int)<((y2.2.1.length:Nat):Int) then (q7 (((y2.2.1.getD 2 k8).Least) != (0:Int)) (jd4 n true y2.2.1 ((([]:List Ins)++(List.take 1 (List.drop 0 y3)))++(List.take ((((y4.length:Nat):Int).toNat)-3) (List.drop 3 y4)))) (if 0<=(4:Int)/\(4:Int)<((y2.2.1.length:Nat):Int) then (jd4 n (((((y2.2.1.getD 4 k8).Regs).length:Nat):Int) != (11:Int)) y2.2.1 ((([]:List Ins)++(List.take 1 (List.drop 0 y3)))++(List.take ((((y4.length:Nat):Int).toNat)-3) (List.drop 3 y4)))) else none)) else none)) else none))) else none) else none) else none) else none:=by kernel_rfl
theorem vu1 (n:Nat) (s45 r0 r1):jd4 (n+1) s45 r0 r1=q7 s45 (some false) (j7 (qcb v5 r1) fun y1=>q7 ((y1.Err==(112:Int))&&(y1.At==(1:Int))) (if 0<=(4:Int)/\(4:Int)<((r0.length:Nat):Int) then (if 0<=(0:Int)/\(0:Int)<((((r0.getD 4 k8).Regs).length:Nat):Int) then (some ((((((r0.getD 4 k8).Regs).getD 0 v8).Kind)==(1:Int))&&((((((r0.getD 4 k8).Regs).getD 0 v8).In_Lo)==(0:Int))&&(((((r0.getD 4 k8).Regs).getD 0 v8).In_Hi)==(65535:Int))))) else none) else none) (some false)):=by kernel_rfl
def qaq_sp:FnSpec TT:=⟨[],[.val (.bool)],fun _=>qaq v5⟩
theorem wl6:ze7 TT prog 7 qaq_sp:=u0 (C:=qaq_C) (by kernel_rfl) gj3 func7 (show f7.body=some (j5 f7) by kernel_rfl) (by kernel_rfl) (by kernel_rfl) (cuts:=jm9) fun x y h=>⟨v5,h⟩
def qer_C:Ctx TT:=⟨za4,[(7,qaq_sp.toCall),(12,qcb_sp.toCall)],0,[],v9,za3⟩
theorem gz7:v4 TT prog qer_C.E:=g9 (q8 wl6) (g9 (q8 kx0) (q9))
def qs8:List (Pos×Cut):= []
def qer (n:Nat) (x0:List Ins):Option (Bool):=zf7 TT prog qer_C qs8 f4 (j5 f4) ⟨[],[]⟩ [.val (.list (.user 2))] [.val (.bool)] n x0
theorem wm0 (n:Nat) (x0):qer n x0=j7 (qaq v5) fun y1=>q7 (!y1) (some false) (q7 (decide (((x0.length:Nat):Int)>(200:Int))) (some true) (j7 (qcb v5 x0) fun y2=>q7 (y2.Err==(0:Int)) (some (y2.At==(0:Int))) (q7 (decide (y2.At>=(0:Int))) (some (decide (y2.At<(zl5 ((x0.length:Nat):Int) (1:Int))))) (some false)))):=by kernel_rfl
def ue2:FnSpec TT:=⟨[.val (.list (.user 2))],[.val (.bool)],fun x=>qer v5 x⟩
theorem qer_ok:ze7 TT prog 4 ue2:=u0 (C:=qer_C) (by kernel_rfl) gz7 func4 (show f4.body=some (j5 f4) by kernel_rfl) (by kernel_rfl) (by kernel_rfl) (cuts:=qs8) fun x y h=>⟨v5,h⟩
end
end Go.X
