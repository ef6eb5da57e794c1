import Derived.Test.YthhhfnfgmijggaaGreatIb
namespace Go.X
open Go.RowKit Go.V Go.Proofs Tryz
noncomputable def qdc_C:Ctx TT:=⟨za4,[],0,[],v9,za3⟩
theorem gl2:v4 TT prog qdc_C.E:=q9
def qt4:List (Pos×Cut):= []
noncomputable def qdc (n:Nat) (x0:Span) (x1:Int):Option (Bool):=zf7 TT prog qdc_C qt4 f134 (j5 f134) ⟨[],[]⟩ [.val (.user 0),.val (.int .u64)] [.val (.bool)] n (x0,x1)
theorem ue9 (n:Nat) (x0 x1):qdc n x0 x1=q7 (decide (x0.Lo<=x1)) (some (decide (x1<=x0.Hi))) (some false):=by kernel_rfl
noncomputable def qdc_sp:FnSpec TT:=⟨[.val (.user 0),.val (.int .u64)],[.val (.bool)],fun x=>qdc v5 x.1 x.2⟩
theorem wm4:ze7 TT prog 134 qdc_sp:=u0 (C:=qdc_C) (by kernel_rfl) gl2 func134 (show f134.body=some (j5 f134) by kernel_rfl) (by kernel_rfl) (by kernel_rfl) (cuts:=qt4) fun x y h=>⟨v5,h⟩
noncomputable def ql_C:Ctx TT:=⟨za4,[],0,[],v9,za3⟩
theorem wj0:v4 TT prog ql_C.E:=q9
def vl5:List (Pos×Cut):= []
noncomputable def ql (n:Nat) (x0:Bool):Option (Span):=zf7 TT prog ql_C vl5 f136 (j5 f136) ⟨[],[]⟩ [.val (.bool)] [.val (.user 0)] n x0
theorem up8 (n:Nat) (x0):ql n x0=q7 x0 (some (⟨(0:Int),(4294967295:Int)⟩:Span)) (some (⟨(0:Int),(18446744073709551615:Int)⟩:Span)):=by kernel_rfl
noncomputable def ql_sp:FnSpec TT:=⟨[.val (.bool)],[.val (.user 0)],fun x=>ql v5 x⟩
theorem kd2:ze7 TT prog 136 ql_sp:=u0 (C:=ql_C) (by kernel_rfl) wj0 func136 (show f136.body=some (j5 f136) by kernel_rfl) (by kernel_rfl) (by kernel_rfl) (cuts:=vl5) fun x y h=>⟨v5,h⟩
noncomputable def qdd_C:Ctx TT:=⟨za4,[],0,[],v9,za3⟩
theorem gh8:v4 TT prog qdd_C.E:=q9
def qt5:List (Pos×Cut):= []
noncomputable def qdd (n:Nat) (x0 x1:Span):Option (Bool):=zf7 TT prog qdd_C qt5 f135 (j5 f135) ⟨[],[]⟩ [.val (.user 0),.val (.user 0)] [.val (.bool)] n (x0,x1)
theorem wl7 (n:Nat) (x0 x1):qdd n x0 x1=q7 (decide (x1.Lo<=x0.Lo)) (some (decide (x0.Hi<=x1.Hi))) (some false):=by kernel_rfl
noncomputable def qdd_sp:FnSpec TT:=⟨[.val (.user 0),.val (.user 0)],[.val (.bool)],fun x=>qdd v5 x.1 x.2⟩
theorem wt4:ze7 TT prog 135 qdd_sp:=u0 (C:=qdd_C) (by kernel_rfl) gh8 func135 (show f135.body=some (j5 f135) by kernel_rfl) (by kernel_rfl) (by kernel_rfl) (cuts:=qt5) fun x y h=>⟨v5,h⟩
noncomputable def qbo_C:Ctx TT:=⟨za4,[(134,qdc_sp.toCall),(136,ql_sp.toCall),(135,qdd_sp.toCall)],0,[],v9,za3⟩
theorem gq0:v4 TT prog qbo_C.E:=g9 (q8 wm4) (g9 (q8 kd2) (g9 (q8 wt4) (q9)))
def qx4:List (Pos×Cut):= []
noncomputable def qbo (n:Nat) (x0:Span) (x1:Bool):Option (Bool):=zf7 TT prog qbo_C qx4 f104 (j5 f104) ⟨[],[]⟩ [.val (.user 0),.val (.bool)] [.val (.bool)] n (x0,x1)
theorem ub8 (n:Nat) (x0 x1):qbo n x0 x1=j7 (qdc v5 x0 (0:Int)) fun y1=>q7 y1 (some true) (q7 x1 (j7 (ql v5 true) fun y2=>j7 (qdd v5 x0 y2) fun y3=>some (!y3)) (some false)):=by kernel_rfl
noncomputable def qbo_sp:FnSpec TT:=⟨[.val (.user 0),.val (.bool)],[.val (.bool)],fun x=>qbo v5 x.1 x.2⟩
theorem ug2:ze7 TT prog 104 qbo_sp:=u0 (C:=qbo_C) (by kernel_rfl) gq0 func104 (show f104.body=some (j5 f104) by kernel_rfl) (by kernel_rfl) (by kernel_rfl) (cuts:=qx4) fun x y h=>⟨v5,h⟩
noncomputable def qar_C:Ctx TT:=⟨za4,[],0,[],v9,za3⟩
theorem gi5:v4 TT prog qar_C.E:=q9
def qj5:List (Pos×Cut):= []
noncomputable def qar (n:Nat):Option ((Unit)×((((Unit)×(Unit))×((Unit)×(Unit))×((Unit)×(Unit))×((Unit)×(Unit))×((Unit)×(Unit))×((Unit)×(Unit))×((Unit)×(Unit))×((Unit)×(Unit))×((Unit)×(Unit))×((Unit)×(Unit))×((Unit)×(Unit))×((Unit)×(Unit))×((Unit)×(Unit))×Unit)×Unit)):=zh0 TT prog qar_C qj5 f137 (j5 f137) ⟨[],[],[],[],[]⟩ [] [] [.mp .u8 [1,2,3,4,5,6,7,8,9,10,11,12,13] [.fn 181 [] [],.fn 182 [] [],.fn 183 [] [],.fn 184 [] [],.fn 185 [] [],.fn 186 [] [],.fn 187 [] [],.fn 188 [] [],.fn 189 [] [],.fn 190 [] [],.fn 191 [] [],.fn 192 [] [],.fn 193 [] []]] n ()
theorem zp5 (n:Nat):qar n=some ((),((((),()),((),()),((),()),((),()),((),()),((),()),((),()),((),()),((),()),((),()),((),()),((),()),((),()),()),())):=by kernel_rfl
noncomputable def qar_sp:GSpec TT:=⟨[],[],[.mp .u8 [1,2,3,4,5,6,7,8,9,10,11,12,13] [.fn 181 [] [],.fn 182 [] [],.fn 183 [] [],.fn 184 [] [],.fn 185 [] [],.fn 186 [] [],.fn 187 [] [],.fn 188 [] [],.fn 189 [] [],.fn 190 [] [],.fn 191 [] [],.fn 192 [] [],.fn 193 [] []]],fun _=>qar v5⟩
theorem wk7:GOk TT prog 137 qar_sp:=za7 (C:=qar_C) (cuts:=qj5) (by kernel_rfl) gi5 func137 (show f137.body=some (j5 f137) by kernel_rfl) (by kernel_rfl) (by kernel_rfl) (by kernel_rfl) fun x y h=>⟨v5,h⟩
noncomputable def qh_C:Ctx TT:=⟨za4,[(136,ql_sp.toCall)],0,[],v9,za3⟩
theorem wp5:v4 TT prog qh_C.E:=g9 (q8 kd2) (q9)
def vr8:List (Pos×Cut):= []
noncomputable def qh (n:Nat) (x0:Span) (x1:Bool):Option (Span):=zf7 TT prog qh_C vr8 f139 (j5 f139) ⟨[],[]⟩ [.val (.user 0),.val (.bool)] [.val (.user 0)] n (x0,x1)
theorem us0 (n:Nat) (x0 x1):qh n x0 x1=q7 (!x1) (some x0) (q7 ((zb8 .u64 x0.Lo (32:Int)) != (zb8 .u64 x0.Hi (32:Int))) (j7 (ql v5 true) fun y1=>some y1) (some (⟨za9 .u64 x0.Lo (4294967295:Int),za9 .u64 x0.Hi (4294967295:Int)⟩:Span))):=by kernel_rfl
noncomputable def qh_sp:FnSpec TT:=⟨[.val (.user 0),.val (.bool)],[.val (.user 0)],fun x=>qh v5 x.1 x.2⟩
theorem us2:ze7 TT prog 139 qh_sp:=u0 (C:=qh_C) (by kernel_rfl) wp5 func139 (show f139.body=some (j5 f139) by kernel_rfl) (by kernel_rfl) (by kernel_rfl) (cuts:=vr8) fun x y h=>⟨v5,h⟩
noncomputable def qag_C:Ctx TT:=⟨za4,[(139,qh_sp.toCall)],0,[(1,1)],v9,za3⟩
theorem gj1:v4 TT prog qag_C.E:=g9 (q8 us2) (q9)
def qq4:List (Pos×Cut):= []
noncomputable def qag (n:Nat) (x0:Bool) (x1 x2:Span):Option (Work):=zf7 TT prog qag_C qq4 f108 (j5 f108) ⟨[],[]⟩ [.val (.bool),.val (.user 0),.val (.user 0)] [.val (.user 6)] n (x0,x1,x2)
theorem uc7 (n:Nat) (x0 x1 x2):qag n x0 x1 x2=j7 (qh v5 x1 x0) fun y1=>j7 (qh v5 x2 x0) fun y2=>q7 x0 (some (⟨y1.Lo,y1.Hi,y2.Lo,y2.Hi,x0,(4294967295:Int),(32:Int)⟩:Work)) (some (⟨y1.Lo,y1.Hi,y2.Lo,y2.Hi,x0,(18446744073709551615:Int),(64:Int)⟩:Work)):=by kernel_rfl
noncomputable def qag_sp:FnSpec TT:=⟨[.val (.bool),.val (.user 0),.val (.user 0)],[.val (.user 6)],fun x=>qag v5 x.1 x.2.1 x.2.2⟩
theorem ku5:ze7 TT prog 108 qag_sp:=u0 (C:=qag_C) (by kernel_rfl) gj1 func108 (show f108.body=some (j5 f108) by kernel_rfl) (by kernel_rfl) (by kernel_rfl) (cuts:=qq4) fun x y h=>⟨v5,h⟩
noncomputable def qg_C:Ctx TT:=⟨za4,[],0,[],v9,za3⟩
theorem wn2:v4 TT prog qg_C.E:=q9
def vq1:List (Pos×Cut):= []
noncomputable def qg (n:Nat) (x0:Bool):Option ((Unit)×((Unit)⊕(Unit×Unit))):=zz5 TT prog qg_C vq1 f194 (j5 f194) ⟨[],[],[],[],[]⟩ [.val (.bool)] [] [] (.ifc 163 (.agg [])) n (x0,())
theorem ul3 (n:Nat) (x0):qg n x0=q7 (!x0) (some ((),.inr ((),()))) (some ((),.inl ())):=by kernel_rfl
noncomputable def qg_sp:PSpec TT:=⟨[.val (.bool)],[],[],.ifc 163 (.agg []),fun x=>qg v5 x.1⟩
theorem yt9:POk TT prog 194 qg_sp:=zf1 (C:=qg_C) (cuts:=vq1) (by kernel_rfl) wn2 func194 (show f194.body=some (j5 f194) by kernel_rfl) (by kernel_rfl) (by kernel_rfl) (by kernel_rfl) fun x y h=>⟨v5,h⟩
noncomputable def qas_C:Ctx TT:=⟨za4,[],0,[],v9,za3⟩
theorem gh2:v4 TT prog qas_C.E:=q9
def qp9:List (Pos×Cut):= []
noncomputable def qas (n:Nat) (x0:Work) (x1 x2:Int):Option (Span):=zf7 TT prog qas_C qp9 f202 (j5 f202) ⟨[],[]⟩ [.val (.user 6),.val (.int .u64),.val (.int .u64)] [.val (.user 0)] n (x0,x1,x2)
theorem wu3 (n:Nat) (x0 x1 x2):qas n x0 x1 x2=some (⟨za9 .u64 x1 x0.most,za9 .u64 x2 x0.most⟩:Span):=by kernel_rfl
noncomputable def qas_sp:FnSpec TT:=⟨[.val (.user 6),.val (.int .u64),.val (.int .u64)],[.val (.user 0)],fun x=>qas v5 x.1 x.2.1 x.2.2⟩
theorem vj0:ze7 TT prog 202 qas_sp:=u0 (C:=qas_C) (by kernel_rfl) gh2 func202 (show f202.body=some (j5 f202) by kernel_rfl) (by kernel_rfl) (by kernel_rfl) (cuts:=qp9) fun x y h=>⟨v5,h⟩
noncomputable def qbc_C:Ctx TT:=⟨za4,[(194,qg_sp.toCall (v6 TT)),(202,qas_sp.toCall)],0,[],v9,za3⟩
theorem gs4:v4 TT prog qbc_C.E:=g9 (u9 yt9 (j9 194)) (g9 (q8 vj0) (q9))
def jn6:List (Pos×Cut):= [([true],⟨[1,2],[],false,[],0,false⟩)]
noncomputable def qbc (n:Nat) (x0:Work):Option ((Unit)×((Span×Unit)⊕(Unit×Unit))):=zz5 TT prog qbc_C jn6 f181 (j5 f181) ⟨[],[],[],[],[]⟩ [.val (.user 6)] [] [.val (.user 0)] (.ifc 163 (.agg [])) n (x0,())
noncomputable abbrev us6:=yp8 TT prog qbc_C jn6 f181 (j5 f181) ⟨[],[],[],[],[]⟩ [] [.val (.user 0)] (.ifc 163 (.agg []))
noncomputable def vi2 (n:Nat) (b0_0 b0_1 b0_2 b0_3:Int) (b0_4:Bool) (b0_5 b0_6 b1_0 b1_1:Int):Option ((Unit)×((Span×Unit)⊕(Unit×Unit))):=us6 n [true] ⟨[(1,.ptr 0 0),(2,.ptr 1 0)],[.blk 166 [k7 b0_0,k7 b0_1,k7 b0_2,k7 b0_3,cb b0_4,k7 b0_5,k7 b0_6],.blk 57 [k7 b1_0,k7 b1_1]]⟩
theorem wt3 (n:Nat) (x0):qbc n x0=q7 (decide (x0.b_Hi<=(IntKind.u64.wrap (x0.most-x0.a_Hi)))) (j7 (qg v5 true) fun y1=>match y1.2 with| .inl z1=>(vi2 n x0.a_Lo x0.a_Hi x0.b_Lo x0.b_Hi x0.narrow x0.most x0.size (0:Int) (0:Int))| .inr e1=>(some ((),.inr ((),())))) (j7 (qg v5 (decide (x0.b_Lo>(IntKind.u64.wrap (x0.most-x0.a_Lo))))) fun y2=>match y2.2 with| .inl z2=>(vi2 n x0.a_Lo x0.a_Hi x0.b_Lo x0.b_Hi x0.narrow x0.most x0.size (0:Int) (0:Int))| .inr e2=>(some ((),.inr ((),())))):=by kernel_rfl
theorem vx4 (n:Nat) (b0_0 b0_1 b0_2 b0_3 b0_4 b0_5 b0_6 b1_0 b1_1):vi2 (n+1) b0_0 b0_1 b0_2 b0_3 b0_4 b0_5 b0_6 b1_0 b1_1=j7 (qas v5 (⟨b0_0,b0_1,b0_2,b0_3,b0_4,b0_5,b0_6⟩:Work) (IntKind.u64.wrap (b0_0+b0_2)) (IntKind.u64.wrap (b0_1+b0_3))) fun y1=>some ((),.inl (y1,())):=by kernel_rfl
noncomputable def qbc_sp:PSpec TT:=⟨[.val (.user 6)],[],[.val (.user 0)],.ifc 163 (.agg []),fun x=>qbc v5 x.1⟩
theorem ws4:POk TT prog 181 qbc_sp:=zf1 (C:=qbc_C) (cuts:=jn6) (by kernel_rfl) gs4 func181 (show f181.body=some (j5 f181) by kernel_rfl) (by kernel_rfl) (by kernel_rfl) (by kernel_rfl) fun x y h=>⟨v5,h⟩
noncomputable def qat_C:Ctx TT:=⟨za4,[],2,[],v9,za3⟩
theorem gn0:v4 TT prog qat_C.E:=q9
noncomputable def qat (x0:Bool) (x1 x2:Int):Option ((Bool×Unit)×(Int×Int×Unit)×Unit):=yl3 prog qat_C f138 (j5 f138) [.ptr 0 4 [.val (.bool)],.ptr 0 57 [.val (.int .u64),.val (.int .u64)]] (.rw 1) [.blk 4 [.val (.bool)],.blk 57 [.val (.int .u64),.val (.int .u64)]] ((x0,()),(x1,x2,()),(),())
theorem ky8 (x0:Bool) (x1 x2):qat x0 x1 x2=some ((x0,()),(x1,x2,()),()):=by kernel_rfl
noncomputable def vr6:DSpec TT:=⟨[.ptr 0 4 [.val (.bool)],.ptr 0 57 [.val (.int .u64),.val (.int .u64)]],.rw 1,[.blk 4 [.val (.bool)],.blk 57 [.val (.int .u64),.val (.int .u64)]],fun x=>qat x.1.1 x.2.1.1 x.2.1.2.1⟩
theorem go5:DOk TT prog 138 vr6:=yc7 (C:=qat_C) (by kernel_rfl) gn0 func138 (show f138.body=some (j5 f138) by kernel_rfl) (by kernel_rfl) (by kernel_rfl) (by kernel_rfl) (by kernel_rfl) fun x y h=>h
noncomputable def qbz_C:Ctx TT:=⟨za4,[(136,ql_sp.toCall)],2,[],v9,za3⟩
theorem gz4:v4 TT prog qbz_C.E:=g9 (q8 kd2) (q9)
noncomputable def qbz (x0:Bool) (x1 x2:Int):Option ((Bool×Unit)×(Int×Int×Unit)×Unit):=yl3 prog qbz_C f138 (j5 f138) [.ptr 0 4 [.val (.bool)],.ptr 0 57 [.val (.int .u64),.val (.int .u64)]] (.ifc 163 (.agg [])) [.blk 4 [.val (.bool)],.blk 57 [.val (.int .u64),.val (.int .u64)]] ((x0,()),(x1,x2,()),(),())
theorem ug8 (x0:Bool) (x1 x2):qbz x0 x1 x2=j7 (ql v5 x0) fun y1=>some ((x0,()),(y1.Lo,y1.Hi,()),()):=by kernel_rfl
noncomputable def vl7:DSpec TT:=⟨[.ptr 0 4 [.val (.bool)],.ptr 0 57 [.val (.int .u64),.val (.int .u64)]],.ifc 163 (.agg []),[.blk 4 [.val (.bool)],.blk 57 [.val (.int .u64),.val (.int .u64)]],fun x=>qbz x.1.1 x.2.1.1 x.2.1.2.1⟩
theorem gq5:DOk TT prog 138 vl7:=yc7 (C:=qbz_C) (by kernel_rfl) gz4 func138 (show f138.body=some (j5 f138) by kernel_rfl) (by kernel_rfl) (by kernel_rfl) (by kernel_rfl) (by kernel_rfl) fun x y h=>h
noncomputable def qbd_C:Ctx TT:=⟨za4,[(194,qg_sp.toCall (v6 TT)),(202,qas_sp.toCall)],0,[],v9,za3⟩
theorem gy5:v4 TT prog qbd_C.E:=g9 (u9 yt9 (j9 194)) (g9 (q8 vj0) (q9))
def jk3:List (Pos×Cut):= [([true],⟨[1,2],[],false,[],0,false⟩)]
noncomputable def qbd (n:Nat) (x0:Work):Option ((Unit)×((Span×Unit)⊕(Unit×Unit))):=zz5 TT prog qbd_C jk3 f182 (j5 f182) ⟨[],[],[],[],[]⟩ [.val (.user 6)] [] [.val (.user 0)] (.ifc 163 (.agg [])) n (x0,())
noncomputable abbrev un0:=yp8 TT prog qbd_C jk3 f182 (j5 f182) ⟨[],[],[],[],[]⟩ [] [.val (.user 0)] (.ifc 163 (.agg []))
noncomputable def vk2 (n:Nat) (b0_0 b0_1 b0_2 b0_3:Int) (b0_4:Bool) (b0_5 b0_6 b1_0 b1_1:Int):Option ((Unit)×((Span×Unit)⊕(Unit×Unit))):=un0 n [true] ⟨[(1,.ptr 0 0),(2,.ptr 1 0)],[.blk 166 [k7 b0_0,k7 b0_1,k7 b0_2,k7 b0_3,cb b0_4,k7 b0_5,k7 b0_6],.blk 57 [k7 b1_0,k7 b1_1]]⟩
theorem wq4 (n:Nat) (x0):qbd n x0=q7 (decide (x0.a_Lo>=x0.b_Hi)) (j7 (qg v5 true) fun y1=>match y1.2 with| .inl z1=>(vk2 n x0.a_Lo x0.a_Hi x0.b_Lo x0.b_Hi x0.narrow x0.most x0.size (0:Int) (0:Int))| .inr e1=>(some ((),.inr ((),())))) (j7 (qg v5 (decide (x0.a_Hi<x0.b_Lo))) fun y2=>match y2.2 with| .inl z2=>(vk2 n x0.a_Lo x0.a_Hi x0.b_Lo x0.b_Hi x0.narrow x0.most x0.size (0:Int) (0:Int))| .inr e2=>(some ((),.inr ((),())))):=by kernel_rfl
theorem vx7 (n:Nat) (b0_0 b0_1 b0_2 b0_3 b0_4 b0_5 b0_6 b1_0 b1_1):vk2 (n+1) b0_0 b0_1 b0_2 b0_3 b0_4 b0_5 b0_6 b1_0 b1_1=j7 (qas v5 (⟨b0_0,b0_1,b0_2,b0_3,b0_4,b0_5,b0_6⟩:Work) (IntKind.u64.wrap (b0_0-b0_3)) (IntKind.u64.wrap (b0_1-b0_2))) fun y1=>some ((),.inl (y1,())):=by kernel_rfl
noncomputable def qbd_sp:PSpec TT:=⟨[.val (.user 6)],[],[.val (.user 0)],.ifc 163 (.agg []),fun x=>qbd v5 x.1⟩
theorem wp6:POk TT prog 182 qbd_sp:=zf1 (C:=qbd_C) (cuts:=jk3) (by kernel_rfl) gy5 func182 (show f182.body=some (j5 f182) by kernel_rfl) (by kernel_rfl) (by kernel_rfl) (by kernel_rfl) fun x y h=>⟨v5,h⟩
noncomputable def qde_C:Ctx TT:=⟨za4,[],0,[],v9,za3⟩
theorem gp4:v4 TT prog qde_C.E:=q9
def qp6:List (Pos×Cut):= []
noncomputable def qde (n:Nat) (x0 x1:Int):Option (Int×Int):=zf7 TT prog qde_C qp6 f203 (j5 f203) ⟨[],[]⟩ [.val (.int .u64),.val (.int .u64)] [.val (.int .u64),.val (.int .u64)] n (x0,x1)
theorem ug5 (n:Nat) (x0 x1):qde n x0 x1=some (IntKind.u64.wrap ((IntKind.u64.wrap ((IntKind.u64.wrap ((zb8 .u64 x0 (32:Int))*(zb8 .u64 x1 (32:Int))))+(zb8 .u64 (IntKind.u64.wrap ((IntKind.u64.wrap ((zb8 .u64 x0 (32:Int))*(za9 .u64 x1 (4294967295:Int))))+(zb8 .u64 (IntKind.u64.wrap ((za9 .u64 x0 (4294967295:Int))*(za9 .u64 x1 (4294967295:Int)))) (32:Int)))) (32:Int))))+(zb8 .u64 (IntKind.u64.wrap ((za9 .u64 (IntKind.u64.wrap ((IntKind.u64.wrap ((zb8 .u64 x0 (32:Int))*(za9 .u64 x1 (4294967295:Int))))+(zb8 .u64 (IntKind.u64.wrap ((za9 .u64 x0 (4294967295:Int))*(za9 .u64 x1 (4294967295:Int)))) (32:Int)))) (4294967295:Int))+(IntKind.u64.wrap ((za9 .u64 x0 (4294967295:Int))*(zb8 .u64 x1 (32:Int)))))) (32:Int))),IntKind.u64.wrap (x0*x1)):=by kernel_rfl
noncomputable def qde_sp:FnSpec TT:=⟨[.val (.int .u64),.val (.int .u64)],[.val (.int .u64),.val (.int .u64)],fun x=>qde v5 x.1 x.2⟩
theorem wz3:ze7 TT prog 203 qde_sp:=u0 (C:=qde_C) (by kernel_rfl) gp4 func203 (show f203.body=some (j5 f203) by kernel_rfl) (by kernel_rfl) (by kernel_rfl) (cuts:=qp6) fun x y h=>⟨v5,h⟩
noncomputable def qbe_C:Ctx TT:=⟨za4,[(203,qde_sp.toCall),(194,qg_sp.toCall (v6 TT))],0,[],v9,za3⟩
theorem gp2:v4 TT prog qbe_C.E:=g9 (q8 wz3) (g9 (u9 yt9 (j9 194)) (q9))
def jo0:List (Pos×Cut):= [([true,true],⟨[1,2,4],[],false,[],0,false⟩)]
noncomputable def qbe (n:Nat) (x0:Work):Option ((Unit)×((Span×Unit)⊕(Unit×Unit))):=zz5 TT prog qbe_C jo0 f183 (j5 f183) ⟨[],[],[],[],[]⟩ [.val (.user 6)] [] [.val (.user 0)] (.ifc 163 (.agg [])) n (x0,())
noncomputable abbrev ur7:=yp8 TT prog qbe_C jo0 f183 (j5 f183) ⟨[],[],[],[],[]⟩ [] [.val (.user 0)] (.ifc 163 (.agg []))
noncomputable def vj3 (n:Nat) (s4 b0_0 b0_1 b0_2 b0_3:Int) (b0_4:Bool) (b0_5 b0_6 b1_0 b1_1:Int):Option ((Unit)×((Span×Unit)⊕(Unit×Unit))):=ur7 n [true,true] ⟨[(1,.ptr 0 0),(2,.ptr 1 0),(4,k7 s4)],[.blk 166 [k7 b0_0,k7 b0_1,k7 b0_2,k7 b0_3,cb b0_4,k7 b0_5,k7 b0_6],.blk 57 [k7 b1_0,k7 b1_1]]⟩
theorem uc8 (n:Nat) (x0):qbe n x0=j7 (qde v5 x0.a_Hi x0.b_Hi) fun y1=>q7 (y1.1==(0:Int)) (j7 (qg v5 (decide (y1.2<=x0.most))) fun y2=>match y2.2 with| .inl z2=>(vj3 n y1.2 x0.a_Lo x0.a_Hi x0.b_Lo x0.b_Hi x0.narrow x0.most x0.size (0:Int) (0:Int))| .inr e2=>(some ((),.inr ((),())))) (j7 (qg v5 false) fun y3=>match y3.2 with| .inl z3=>(vj3 n y1.2 x0.a_Lo x0.a_Hi x0.b_Lo x0.b_Hi x0.narrow x0.most x0.size (0:Int) (0:Int))| .inr e3=>(some ((),.inr ((),())))):=by kernel_rfl
theorem ka2 (n:Nat) (s4 b0_0 b0_1 b0_2 b0_3 b0_4 b0_5 b0_6 b1_0 b1_1):vj3 (n+1) s4 b0_0 b0_1 b0_2 b0_3 b0_4 b0_5 b0_6 b1_0 b1_1=some ((),.inl ((⟨IntKind.u64.wrap (b0_0*b0_2),s4⟩:Span),())):=by kernel_rfl
noncomputable def qbe_sp:PSpec TT:=⟨[.val (.user 6)],[],[.val (.user 0)],.ifc 163 (.agg []),fun x=>qbe v5 x.1⟩
theorem uh1:POk TT prog 183 qbe_sp:=zf1 (C:=qbe_C) (cuts:=jo0) (by kernel_rfl) gp2 func183 (show f183.body=some (j5 f183) by kernel_rfl) (by kernel_rfl) (by kernel_rfl) (by kernel_rfl) fun x y h=>⟨v5,h⟩
noncomputable def qbq_C:Ctx TT:=⟨za4,[],0,[(1,1)],v9,za3⟩
theorem wa0:v4 TT prog qbq_C.E:=q9
def qz9:List (Pos×Cut):= []
noncomputable def qbq (n:Nat) (x0:Work):Option (Span):=zf7 TT prog qbq_C qz9 f184 (j5 f184) ⟨[],[]⟩ [.val (.user 6)] [.val (.user 0)] n x0
theorem wz8 (n:Nat) (x0):qbq n x0=if zl5 x0.b_Hi (1:Int)=0 then none else (if zl5 x0.b_Lo (1:Int)=0 then none else (some (⟨IntKind.u64.wrap (x0.a_Lo.tdiv (zl5 x0.b_Hi (1:Int))),IntKind.u64.wrap (x0.a_Hi.tdiv (zl5 x0.b_Lo (1:Int)))⟩:Span))):=by kernel_rfl
noncomputable def qbq_sp:FnSpec TT:=⟨[.val (.user 6)],[.val (.user 0)],fun x=>qbq v5 x⟩
theorem ww4:ze7 TT prog 184 qbq_sp:=u0 (C:=qbq_C) (by kernel_rfl) wa0 func184 (show f184.body=some (j5 f184) by kernel_rfl) (by kernel_rfl) (by kernel_rfl) (cuts:=qz9) fun x y h=>⟨v5,h⟩
noncomputable def qbr_C:Ctx TT:=⟨za4,[],0,[],v9,za3⟩
theorem gx7:v4 TT prog qbr_C.E:=q9
def qk5:List (Pos×Cut):= []
noncomputable def qbr (n:Nat) (x0:Work):Option (Span):=zf7 TT prog qbr_C qk5 f185 (j5 f185) ⟨[],[]⟩ [.val (.user 6)] [.val (.user 0)] n x0
theorem wo1 (n:Nat) (x0):qbr n x0=q7 (decide (x0.a_Hi<(zl5 x0.b_Lo (1:Int)))) (some (⟨x0.a_Lo,x0.a_Hi⟩:Span)) (some (⟨(0:Int),yi9 x0.a_Hi (IntKind.u64.wrap ((zl5 x0.b_Hi (1:Int))-(1:Int)))⟩:Span)):=by kernel_rfl
noncomputable def qbr_sp:FnSpec TT:=⟨[.val (.user 6)],[.val (.user 0)],fun x=>qbr v5 x⟩
theorem wr4:ze7 TT prog 185 qbr_sp:=u0 (C:=qbr_C) (by kernel_rfl) gx7 func185 (show f185.body=some (j5 f185) by kernel_rfl) (by kernel_rfl) (by kernel_rfl) (cuts:=qk5) fun x y h=>⟨v5,h⟩
noncomputable def qm_C:Ctx TT:=⟨za4,[(99,qam_sp.toCall)],0,[],v9,za3⟩
theorem uc3:v4 TT prog qm_C.E:=g9 (q8 jd9) (q9)
def vr7:List (Pos×Cut):= []
noncomputable def qm (n:Nat) (x0:Span):Option (Bool):=zf7 TT prog qm_C vr7 f205 (j5 f205) ⟨[],[]⟩ [.val (.user 0)] [.val (.bool)] n x0
theorem um0 (n:Nat) (x0):qm n x0=j7 (qam v5 x0.Lo) fun y1=>some ((x0.Lo==y1.Lo)&&(x0.Hi==y1.Hi)):=by kernel_rfl
noncomputable def qm_sp:FnSpec TT:=⟨[.val (.user 0)],[.val (.bool)],fun x=>qm v5 x⟩
theorem vh3:ze7 TT prog 205 qm_sp:=u0 (C:=qm_C) (by kernel_rfl) uc3 func205 (show f205.body=some (j5 f205) by kernel_rfl) (by kernel_rfl) (by kernel_rfl) (cuts:=vr7) fun x y h=>⟨v5,h⟩
noncomputable def qx_C:Ctx TT:=⟨za4,[(205,qm_sp.toCall)],0,[],v9,za3⟩
theorem wv3:v4 TT prog qx_C.E:=g9 (q8 vh3) (q9)
def vq5:List (Pos×Cut):= []
noncomputable def qx (n:Nat) (x0:Work):Option (Bool):=zf7 TT prog qx_C vq5 f195 (j5 f195) ⟨[],[]⟩ [.val (.user 6)] [.val (.bool)] n x0
theorem um9 (n:Nat) (x0):qx n x0=j7 (qm v5 (⟨x0.a_Lo,x0.a_Hi⟩:Span)) fun y1=>q7 y1 (j7 (qm v5 (⟨x0.b_Lo,x0.b_Hi⟩:Span)) fun y2=>some y2) (some false):=by kernel_rfl
noncomputable def qx_sp:FnSpec TT:=⟨[.val (.user 6)],[.val (.bool)],fun x=>qx v5 x⟩
theorem qe3:ze7 TT prog 195 qx_sp:=u0 (C:=qx_C) (by kernel_rfl) wv3 func195 (show f195.body=some (j5 f195) by kernel_rfl) (by kernel_rfl) (by kernel_rfl) (cuts:=vq5) fun x y h=>⟨v5,h⟩
noncomputable def qbk_C:Ctx TT:=⟨za4,[(195,qx_sp.toCall),(99,qam_sp.toCall)],0,[],v9,za3⟩
theorem gr1:v4 TT prog qbk_C.E:=g9 (q8 qe3) (g9 (q8 jd9) (q9))
def qn1:List (Pos×Cut):= []
noncomputable def qbk (n:Nat) (x0:Work):Option (Span):=zf7 TT prog qbk_C qn1 f186 (j5 f186) ⟨[],[]⟩ [.val (.user 6)] [.val (.user 0)] n x0
theorem ua9 (n:Nat) (x0):qbk n x0=j7 (qx v5 x0) fun y1=>q7 y1 (j7 (qam v5 (za9 .u64 x0.a_Lo x0.b_Lo)) fun y2=>some y2) (some (⟨(0:Int),yi9 x0.a_Hi x0.b_Hi⟩:Span)):=by kernel_rfl
noncomputable def qbk_sp:FnSpec TT:=⟨[.val (.user 6)],[.val (.user 0)],fun x=>qbk v5 x⟩
theorem wj5:ze7 TT prog 186 qbk_sp:=u0 (C:=qbk_C) (by kernel_rfl) gr1 func186 (show f186.body=some (j5 f186) by kernel_rfl) (by kernel_rfl) (by kernel_rfl) (cuts:=qn1) fun x y h=>⟨v5,h⟩
noncomputable def qbj_C:Ctx TT:=⟨za4,[(129,qo_sp.toCall)],0,[],v9,za3⟩
theorem gr2:v4 TT prog qbj_C.E:=g9 (q8 wb9) (q9)
def qm7:List (Pos×Cut):= []
noncomputable def qbj (n:Nat) (x0:Int):Option (Int):=zf7 TT prog qbj_C qm7 f204 (j5 f204) ⟨[],[]⟩ [.val (.int .u64)] [.val (.int .u64)] n x0
theorem wj6 (n:Nat) (x0):qbj n x0=j7 (qo v5 x0) fun y1=>if y1<0 then none else (some (IntKind.u64.wrap ((yi1 .u64 (1:Int) y1)-(1:Int)))):=by kernel_rfl
noncomputable def qbj_sp:FnSpec TT:=⟨[.val (.int .u64)],[.val (.int .u64)],fun x=>qbj v5 x⟩
theorem kw8:ze7 TT prog 204 qbj_sp:=u0 (C:=qbj_C) (by kernel_rfl) gr2 func204 (show f204.body=some (j5 f204) by kernel_rfl) (by kernel_rfl) (by kernel_rfl) (cuts:=qm7) fun x y h=>⟨v5,h⟩
noncomputable def qbl_C:Ctx TT:=⟨za4,[(195,qx_sp.toCall),(99,qam_sp.toCall),(204,qbj_sp.toCall)],0,[(3,1)],v9,za3⟩
theorem gh0:v4 TT prog qbl_C.E:=g9 (q8 qe3) (g9 (q8 jd9) (g9 (q8 kw8) (q9)))
def qt3:List (Pos×Cut):= []
noncomputable def qbl (n:Nat) (x0:Work):Option (Span):=zf7 TT prog qbl_C qt3 f187 (j5 f187) ⟨[],[]⟩ [.val (.user 6)] [.val (.user 0)] n x0
theorem ub9 (n:Nat) (x0):qbl n x0=j7 (qx v5 x0) fun y1=>q7 y1 (j7 (qam v5 (bOr .u64 x0.a_Lo x0.b_Lo)) fun y2=>some y2) (j7 (qbj v5 (bOr .u64 x0.a_Hi x0.b_Hi)) fun y3=>some (⟨zl5 x0.a_Lo x0.b_Lo,y3⟩:Span)):=by kernel_rfl
noncomputable def qbl_sp:FnSpec TT:=⟨[.val (.user 6)],[.val (.user 0)],fun x=>qbl v5 x⟩
theorem wm5:ze7 TT prog 187 qbl_sp:=u0 (C:=qbl_C) (by kernel_rfl) gh0 func187 (show f187.body=some (j5 f187) by kernel_rfl) (by kernel_rfl) (by kernel_rfl) (cuts:=qt3) fun x y h=>⟨v5,h⟩
noncomputable def qbm_C:Ctx TT:=⟨za4,[(195,qx_sp.toCall),(99,qam_sp.toCall),(204,qbj_sp.toCall)],0,[],v9,za3⟩
theorem gx8:v4 TT prog qbm_C.E:=g9 (q8 qe3) (g9 (q8 jd9) (g9 (q8 kw8) (q9)))
def qm2:List (Pos×Cut):= []
noncomputable def qbm (n:Nat) (x0:Work):Option (Span):=zf7 TT prog qbm_C qm2 f188 (j5 f188) ⟨[],[]⟩ [.val (.user 6)] [.val (.user 0)] n x0
theorem ww9 (n:Nat) (x0):qbm n x0=j7 (qx v5 x0) fun y1=>q7 y1 (j7 (qam v5 (ja8 .u64 x0.a_Lo x0.b_Lo)) fun y2=>some y2) (j7 (qbj v5 (bOr .u64 x0.a_Hi x0.b_Hi)) fun y3=>some (⟨(0:Int),y3⟩:Span)):=by kernel_rfl
noncomputable def qbm_sp:FnSpec TT:=⟨[.val (.user 6)],[.val (.user 0)],fun x=>qbm v5 x⟩
theorem wi4:ze7 TT prog 188 qbm_sp:=u0 (C:=qbm_C) (by kernel_rfl) gx8 func188 (show f188.body=some (j5 f188) by kernel_rfl) (by kernel_rfl) (by kernel_rfl) (cuts:=qm2) fun x y h=>⟨v5,h⟩
noncomputable def qbf_C:Ctx TT:=⟨za4,[(205,qm_sp.toCall),(194,qg_sp.toCall (v6 TT))],0,[],v9,za3⟩
theorem gs1:v4 TT prog qbf_C.E:=g9 (q8 vh3) (g9 (u9 yt9 (j9 194)) (q9))
def jp1:List (Pos×Cut):= [([true,true],⟨[1,2,3],[],false,[],0,false⟩)]
noncomputable def qbf (n:Nat) (x0:Work):Option ((Unit)×((Span×Unit)⊕(Unit×Unit))):=zz5 TT prog qbf_C jp1 f189 (j5 f189) ⟨[],[],[],[],[]⟩ [.val (.user 6)] [] [.val (.user 0)] (.ifc 163 (.agg [])) n (x0,())
noncomputable abbrev um3:=yp8 TT prog qbf_C jp1 f189 (j5 f189) ⟨[],[],[],[],[]⟩ [] [.val (.user 0)] (.ifc 163 (.agg []))
noncomputable def vk7 (n:Nat) (s3 b0_0 b0_1 b0_2 b0_3:Int) (b0_4:Bool) (b0_5 b0_6 b1_0 b1_1:Int):Option ((Unit)×((Span×Unit)⊕(Unit×Unit))):=um3 n [true,true] ⟨[(1,.ptr 0 0),(2,.ptr 1 0),(3,k7 s3)],[.blk 166 [k7 b0_0,k7 b0_1,k7 b0_2,k7 b0_3,cb b0_4,k7 b0_5,k7 b0_6],.blk 57 [k7 b1_0,k7 b1_1]]⟩
theorem ue5 (n:Nat) (x0):qbf n x0=if x0.size=0 then none else (j7 (qm v5 (⟨x0.b_Lo,x0.b_Hi⟩:Span)) fun y1=>q7 y1 (if x0.b_Lo.tmod x0.size<0 then none else (j7 (qg v5 (decide (x0.a_Hi<=(zb8 .u64 x0.most (x0.b_Lo.tmod x0.size))))) fun y2=>match y2.2 with| .inl z2=>(vk7 n (x0.b_Lo.tmod x0.size) x0.a_Lo x0.a_Hi x0.b_Lo x0.b_Hi x0.narrow x0.most x0.size (0:Int) (0:Int))| .inr e2=>(some ((),.inr ((),()))))) (j7 (qg v5 false) fun y3=>match y3.2 with| .inl z3=>(vk7 n (x0.b_Lo.tmod x0.size) x0.a_Lo x0.a_Hi x0.b_Lo x0.b_Hi x0.narrow x0.most x0.size (0:Int) (0:Int))| .inr e3=>(some ((),.inr ((),()))))):=by kernel_rfl
theorem vw2 (n:Nat) (s3 b0_0 b0_1 b0_2 b0_3 b0_4 b0_5 b0_6 b1_0 b1_1):vk7 (n+1) s3 b0_0 b0_1 b0_2 b0_3 b0_4 b0_5 b0_6 b1_0 b1_1=if s3<0 then none else (if s3<0 then none else (some ((),.inl ((⟨yi1 .u64 b0_0 s3,yi1 .u64 b0_1 s3⟩:Span),())))):=by kernel_rfl
noncomputable def qbf_sp:PSpec TT:=⟨[.val (.user 6)],[],[.val (.user 0)],.ifc 163 (.agg []),fun x=>qbf v5 x.1⟩
theorem ue8:POk TT prog 189 qbf_sp:=zf1 (C:=qbf_C) (cuts:=jp1) (by kernel_rfl) gs1 func189 (show f189.body=some (j5 f189) by kernel_rfl) (by kernel_rfl) (by kernel_rfl) (by kernel_rfl) fun x y h=>⟨v5,h⟩
noncomputable def qaf_C:Ctx TT:=⟨za4,[(205,qm_sp.toCall)],0,[],v9,za3⟩
theorem gi0:v4 TT prog qaf_C.E:=g9 (q8 vh3) (q9)
def jm4:List (Pos×Cut):= [([true,true],⟨[1,2,3,4],[],false,[],0,false⟩)]
noncomputable def qaf (n:Nat) (x0:Work):Option (Span):=zf7 TT prog qaf_C jm4 f190 (j5 f190) ⟨[],[]⟩ [.val (.user 6)] [.val (.user 0)] n x0
noncomputable abbrev un3:=qb9 TT prog qaf_C jm4 f190 (j5 f190) ⟨[],[]⟩ [.val (.user 6)] [.val (.user 0)]
noncomputable def je6 (n:Nat) (s3 s4 b0_0 b0_1 b0_2 b0_3:Int) (b0_4:Bool) (b0_5 b0_6 b1_0 b1_1:Int):Option (Span):=un3 n [true,true] ⟨[(1,.ptr 0 0),(2,.ptr 1 0),(3,k7 s3),(4,k7 s4)],[.blk 166 [k7 b0_0,k7 b0_1,k7 b0_2,k7 b0_3,cb b0_4,k7 b0_5,k7 b0_6],.blk 57 [k7 b1_0,k7 b1_1]]⟩
theorem wn4 (n:Nat) (x0):qaf n x0=j7 (qm v5 (⟨x0.b_Lo,x0.b_Hi⟩:Span)) fun y1=>q7 y1 (if x0.size=0 then none else (if x0.size=0 then none else (je6 n (x0.b_Hi.tmod x0.size) (x0.b_Lo.tmod x0.size) x0.a_Lo x0.a_Hi x0.b_Lo x0.b_Hi x0.narrow x0.most x0.size (0:Int) (0:Int)))) (q7 (decide (x0.b_Hi>=x0.size)) (some (⟨(0:Int),x0.a_Hi⟩:Span)) (je6 n x0.b_Hi x0.b_Lo x0.a_Lo x0.a_Hi x0.b_Lo x0.b_Hi x0.narrow x0.most x0.size (0:Int) (0:Int))):=by kernel_rfl
theorem jw4 (n:Nat) (s3 s4 b0_0 b0_1 b0_2 b0_3 b0_4 b0_5 b0_6 b1_0 b1_1):je6 (n+1) s3 s4 b0_0 b0_1 b0_2 b0_3 b0_4 b0_5 b0_6 b1_0 b1_1=if s3<0 then none else (if s4<0 then none else (some (⟨zb8 .u64 b0_0 s3,zb8 .u64 b0_1 s4⟩:Span))):=by kernel_rfl
noncomputable def qaf_sp:FnSpec TT:=⟨[.val (.user 6)],[.val (.user 0)],fun x=>qaf v5 x⟩
theorem wi7:ze7 TT prog 190 qaf_sp:=u0 (C:=qaf_C) (by kernel_rfl) gi0 func190 (show f190.body=some (j5 f190) by kernel_rfl) (by kernel_rfl) (by kernel_rfl) (cuts:=jm4) fun x y h=>⟨v5,h⟩
noncomputable def qz_C:Ctx TT:=⟨za4,[],0,[],v9,za3⟩
theorem ww7:v4 TT prog qz_C.E:=q9
def vm9:List (Pos×Cut):= []
noncomputable def qz (n:Nat) (x0:Work) (x1:Int):Option (Bool):=zf7 TT prog qz_C vm9 f197 (j5 f197) ⟨[],[]⟩ [.val (.user 6),.val (.int .u64)] [.val (.bool)] n (x0,x1)
theorem ut3 (n:Nat) (x0 x1):qz n x0 x1=if IntKind.u64.wrap (x0.size-(1:Int))<0 then none else (some ((za9 .u64 (zb8 .u64 x1 (IntKind.u64.wrap (x0.size-(1:Int)))) (1:Int))==(1:Int))):=by kernel_rfl
noncomputable def qz_sp:FnSpec TT:=⟨[.val (.user 6),.val (.int .u64)],[.val (.bool)],fun x=>qz v5 x.1 x.2⟩
theorem wc2:ze7 TT prog 197 qz_sp:=u0 (C:=qz_C) (by kernel_rfl) ww7 func197 (show f197.body=some (j5 f197) by kernel_rfl) (by kernel_rfl) (by kernel_rfl) (cuts:=vm9) fun x y h=>⟨v5,h⟩
noncomputable def qan_C:Ctx TT:=⟨za4,[(197,qz_sp.toCall)],0,[],v9,za3⟩
theorem gr8:v4 TT prog qan_C.E:=g9 (q8 wc2) (q9)
def qn5:List (Pos×Cut):= []
noncomputable def qan (n:Nat) (x0:Work) (x1:Span):Option (Bool):=zf7 TT prog qan_C qn5 f196 (j5 f196) ⟨[],[]⟩ [.val (.user 6),.val (.user 0)] [.val (.bool)] n (x0,x1)
theorem wq8 (n:Nat) (x0 x1):qan n x0 x1=j7 (qz v5 x0 x1.Lo) fun y1=>j7 (qz v5 x0 x1.Hi) fun y2=>some (!(y1==y2)):=by kernel_rfl
noncomputable def qan_sp:FnSpec TT:=⟨[.val (.user 6),.val (.user 0)],[.val (.bool)],fun x=>qan v5 x.1 x.2⟩
theorem kv4:ze7 TT prog 196 qan_sp:=u0 (C:=qan_C) (by kernel_rfl) gr8 func196 (show f196.body=some (j5 f196) by kernel_rfl) (by kernel_rfl) (by kernel_rfl) (cuts:=qn5) fun x y h=>⟨v5,h⟩
noncomputable def qdo_C:Ctx TT:=⟨za4,[],2,[],v9,za3⟩
theorem gm6:v4 TT prog qdo_C.E:=q9
def qp7:List (Pos×Cut):= []
noncomputable def qdo (n:Nat) (x0 x1:Int):Option (((Int×Unit)×(Int×Unit)×Unit)×(Int×Unit)):=zh0 TT prog qdo_C qp7 f144 (j5 f144) ⟨[],[],[],[],[]⟩ [.ptr 0 141 [.val (.int .u32)],.ptr 0 141 [.val (.int .u32)]] [.blk 141 [.val (.int .u32)],.blk 141 [.val (.int .u32)]] [.val (.int .u32)] n ((x0,()),(x1,()),())
theorem wl4 (n:Nat) (x0 x1):qdo n x0 x1=some (((x0,()),(x1,()),()),(IntKind.u32.wrap (x0+x1),())):=by kernel_rfl
noncomputable def qdo_sp:GSpec TT:=⟨[.ptr 0 141 [.val (.int .u32)],.ptr 0 141 [.val (.int .u32)]],[.blk 141 [.val (.int .u32)],.blk 141 [.val (.int .u32)]],[.val (.int .u32)],fun x=>qdo v5 x.1.1 x.2.1.1⟩
theorem wy8:GOk TT prog 144 qdo_sp:=za7 (C:=qdo_C) (cuts:=qp7) (by kernel_rfl) gm6 func144 (show f144.body=some (j5 f144) by kernel_rfl) (by kernel_rfl) (by kernel_rfl) (by kernel_rfl) fun x y h=>⟨v5,h⟩
noncomputable def qdp_C:Ctx TT:=⟨za4,[],2,[],v9,za3⟩
theorem gt0:v4 TT prog qdp_C.E:=q9
def qz8:List (Pos×Cut):= []
noncomputable def qdp (n:Nat) (x0 x1:Int):Option (((Int×Unit)×(Int×Unit)×Unit)×(Int×Unit)):=zh0 TT prog qdp_C qz8 f145 (j5 f145) ⟨[],[],[],[],[]⟩ [.ptr 0 141 [.val (.int .u32)],.ptr 0 141 [.val (.int .u32)]] [.blk 141 [.val (.int .u32)],.blk 141 [.val (.int .u32)]] [.val (.int .u32)] n ((x0,()),(x1,()),())
theorem ws6 (n:Nat) (x0 x1):qdp n x0 x1=some (((x0,()),(x1,()),()),(IntKind.u32.wrap (x0-x1),())):=by kernel_rfl
noncomputable def qdp_sp:GSpec TT:=⟨[.ptr 0 141 [.val (.int .u32)],.ptr 0 141 [.val (.int .u32)]],[.blk 141 [.val (.int .u32)],.blk 141 [.val (.int .u32)]],[.val (.int .u32)],fun x=>qdp v5 x.1.1 x.2.1.1⟩
theorem ub6:GOk TT prog 145 qdp_sp:=za7 (C:=qdp_C) (cuts:=qz8) (by kernel_rfl) gt0 func145 (show f145.body=some (j5 f145) by kernel_rfl) (by kernel_rfl) (by kernel_rfl) (by kernel_rfl) fun x y h=>⟨v5,h⟩
noncomputable def qdq_C:Ctx TT:=⟨za4,[],2,[],v9,za3⟩
theorem wa1:v4 TT prog qdq_C.E:=q9
def qs6:List (Pos×Cut):= []
noncomputable def qdq (n:Nat) (x0 x1:Int):Option (((Int×Unit)×(Int×Unit)×Unit)×(Int×Unit)):=zh0 TT prog qdq_C qs6 f146 (j5 f146) ⟨[],[],[],[],[]⟩ [.ptr 0 141 [.val (.int .u32)],.ptr 0 141 [.val (.int .u32)]] [.blk 141 [.val (.int .u32)],.blk 141 [.val (.int .u32)]] [.val (.int .u32)] n ((x0,()),(x1,()),())
theorem wr8 (n:Nat) (x0 x1):qdq n x0 x1=some (((x0,()),(x1,()),()),(IntKind.u32.wrap (x0*x1),())):=by kernel_rfl
noncomputable def qdq_sp:GSpec TT:=⟨[.ptr 0 141 [.val (.int .u32)],.ptr 0 141 [.val (.int .u32)]],[.blk 141 [.val (.int .u32)],.blk 141 [.val (.int .u32)]],[.val (.int .u32)],fun x=>qdq v5 x.1.1 x.2.1.1⟩
theorem wu5:GOk TT prog 146 qdq_sp:=za7 (C:=qdq_C) (cuts:=qs6) (by kernel_rfl) wa1 func146 (show f146.body=some (j5 f146) by kernel_rfl) (by kernel_rfl) (by kernel_rfl) (by kernel_rfl) fun x y h=>⟨v5,h⟩
noncomputable def qdr_C:Ctx TT:=⟨za4,[],2,[],v9,za3⟩
theorem gz8:v4 TT prog qdr_C.E:=q9
def qp2:List (Pos×Cut):= []
noncomputable def qdr (n:Nat) (x0 x1:Int):Option (((Int×Unit)×(Int×Unit)×Unit)×(Int×Unit)):=zh0 TT prog qdr_C qp2 f147 (j5 f147) ⟨[],[],[],[],[]⟩ [.ptr 0 141 [.val (.int .u32)],.ptr 0 141 [.val (.int .u32)]] [.blk 141 [.val (.int .u32)],.blk 141 [.val (.int .u32)]] [.val (.int .u32)] n ((x0,()),(x1,()),())
theorem wz6 (n:Nat) (x0 x1):qdr n x0 x1=if x1=0 then none else (some (((x0,()),(x1,()),()),(IntKind.u32.wrap (x0.tdiv x1),()))):=by kernel_rfl
noncomputable def qdr_sp:GSpec TT:=⟨[.ptr 0 141 [.val (.int .u32)],.ptr 0 141 [.val (.int .u32)]],[.blk 141 [.val (.int .u32)],.blk 141 [.val (.int .u32)]],[.val (.int .u32)],fun x=>qdr v5 x.1.1 x.2.1.1⟩
theorem wk5:GOk TT prog 147 qdr_sp:=za7 (C:=qdr_C) (cuts:=qp2) (by kernel_rfl) gz8 func147 (show f147.body=some (j5 f147) by kernel_rfl) (by kernel_rfl) (by kernel_rfl) (by kernel_rfl) fun x y h=>⟨v5,h⟩
noncomputable def qds_C:Ctx TT:=⟨za4,[],2,[],v9,za3⟩
theorem gu0:v4 TT prog qds_C.E:=q9
def qn8:List (Pos×Cut):= []
noncomputable def qds (n:Nat) (x0 x1:Int):Option (((Int×Unit)×(Int×Unit)×Unit)×(Int×Unit)):=zh0 TT prog qds_C qn8 f148 (j5 f148) ⟨[],[],[],[],[]⟩ [.ptr 0 141 [.val (.int .u32)],.ptr 0 141 [.val (.int .u32)]] [.blk 141 [.val (.int .u32)],.blk 141 [.val (.int .u32)]] [.val (.int .u32)] n ((x0,()),(x1,()),())
theorem wm3 (n:Nat) (x0 x1):qds n x0 x1=if x1=0 then none else (some (((x0,()),(x1,()),()),(x0.tmod x1,()))):=by kernel_rfl
noncomputable def qds_sp:GSpec TT:=⟨[.ptr 0 141 [.val (.int .u32)],.ptr 0 141 [.val (.int .u32)]],[.blk 141 [.val (.int .u32)],.blk 141 [.val (.int .u32)]],[.val (.int .u32)],fun x=>qds v5 x.1.1 x.2.1.1⟩
theorem wu6:GOk TT prog 148 qds_sp:=za7 (C:=qds_C) (cuts:=qn8) (by kernel_rfl) gu0 func148 (show f148.body=some (j5 f148) by kernel_rfl) (by kernel_rfl) (by kernel_rfl) (by kernel_rfl) fun x y h=>⟨v5,h⟩
noncomputable def qdt_C:Ctx TT:=⟨za4,[],2,[],v9,za3⟩
theorem gm2:v4 TT prog qdt_C.E:=q9
def qy2:List (Pos×Cut):= []
noncomputable def qdt (n:Nat) (x0 x1:Int):Option (((Int×Unit)×(Int×Unit)×Unit)×(Int×Unit)):=zh0 TT prog qdt_C qy2 f149 (j5 f149) ⟨[],[],[],[],[]⟩ [.ptr 0 141 [.val (.int .u32)],.ptr 0 141 [.val (.int .u32)]] [.blk 141 [.val (.int .u32)],.blk 141 [.val (.int .u32)]] [.val (.int .u32)] n ((x0,()),(x1,()),())
theorem wo8 (n:Nat) (x0 x1):qdt n x0 x1=some (((x0,()),(x1,()),()),(za9 .u32 x0 x1,())):=by kernel_rfl
noncomputable def qdt_sp:GSpec TT:=⟨[.ptr 0 141 [.val (.int .u32)],.ptr 0 141 [.val (.int .u32)]],[.blk 141 [.val (.int .u32)],.blk 141 [.val (.int .u32)]],[.val (.int .u32)],fun x=>qdt v5 x.1.1 x.2.1.1⟩
theorem wx0:GOk TT prog 149 qdt_sp:=za7 (C:=qdt_C) (cuts:=qy2) (by kernel_rfl) gm2 func149 (show f149.body=some (j5 f149) by kernel_rfl) (by kernel_rfl) (by kernel_rfl) (by kernel_rfl) fun x y h=>⟨v5,h⟩
noncomputable def qdu_C:Ctx TT:=⟨za4,[],2,[],v9,za3⟩
theorem gw2:v4 TT prog qdu_C.E:=q9
def qo6:List (Pos×Cut):= []
noncomputable def qdu (n:Nat) (x0 x1:Int):Option (((Int×Unit)×(Int×Unit)×Unit)×(Int×Unit)):=zh0 TT prog qdu_C qo6 f150 (j5 f150) ⟨[],[],[],[],[]⟩ [.ptr 0 141 [.val (.int .u32)],.ptr 0 141 [.val (.int .u32)]] [.blk 141 [.val (.int .u32)],.blk 141 [.val (.int .u32)]] [.val (.int .u32)] n ((x0,()),(x1,()),())
theorem wt0 (n:Nat) (x0 x1):qdu n x0 x1=some (((x0,()),(x1,()),()),(bOr .u32 x0 x1,())):=by kernel_rfl
noncomputable def qdu_sp:GSpec TT:=⟨[.ptr 0 141 [.val (.int .u32)],.ptr 0 141 [.val (.int .u32)]],[.blk 141 [.val (.int .u32)],.blk 141 [.val (.int .u32)]],[.val (.int .u32)],fun x=>qdu v5 x.1.1 x.2.1.1⟩
theorem uf8:GOk TT prog 150 qdu_sp:=za7 (C:=qdu_C) (cuts:=qo6) (by kernel_rfl) gw2 func150 (show f150.body=some (j5 f150) by kernel_rfl) (by kernel_rfl) (by kernel_rfl) (by kernel_rfl) fun x y h=>⟨v5,h⟩
noncomputable def qdv_C:Ctx TT:=⟨za4,[],2,[],v9,za3⟩
theorem gz6:v4 TT prog qdv_C.E:=q9
def qo5:List (Pos×Cut):= []
noncomputable def qdv (n:Nat) (x0 x1:Int):Option (((Int×Unit)×(Int×Unit)×Unit)×(Int×Unit)):=zh0 TT prog qdv_C qo5 f151 (j5 f151) ⟨[],[],[],[],[]⟩ [.ptr 0 141 [.val (.int .u32)],.ptr 0 141 [.val (.int .u32)]] [.blk 141 [.val (.int .u32)],.blk 141 [.val (.int .u32)]] [.val (.int .u32)] n ((x0,()),(x1,()),())
theorem uf9 (n:Nat) (x0 x1):qdv n x0 x1=some (((x0,()),(x1,()),()),(ja8 .u32 x0 x1,())):=by kernel_rfl
noncomputable def qdv_sp:GSpec TT:=⟨[.ptr 0 141 [.val (.int .u32)],.ptr 0 141 [.val (.int .u32)]],[.blk 141 [.val (.int .u32)],.blk 141 [.val (.int .u32)]],[.val (.int .u32)],fun x=>qdv v5 x.1.1 x.2.1.1⟩
theorem wl5:GOk TT prog 151 qdv_sp:=za7 (C:=qdv_C) (cuts:=qo5) (by kernel_rfl) gz6 func151 (show f151.body=some (j5 f151) by kernel_rfl) (by kernel_rfl) (by kernel_rfl) (by kernel_rfl) fun x y h=>⟨v5,h⟩
noncomputable def qdw_C:Ctx TT:=⟨za4,[],3,[],v9,za3⟩
theorem gu1:v4 TT prog qdw_C.E:=q9
def qy4:List (Pos×Cut):= []
noncomputable def qdw (n:Nat) (x0 x1 x2:Int):Option (((Int×Unit)×(Int×Unit)×(Int×Unit)×Unit)×(Int×Unit)):=zh0 TT prog qdw_C qy4 f152 (j5 f152) ⟨[],[],[],[],[]⟩ [.ptr 0 141 [.val (.int .u32)],.ptr 0 141 [.val (.int .u32)],.ptr 0 141 [.val (.int .u32)]] [.blk 141 [.val (.int .u32)],.blk 141 [.val (.int .u32)],.blk 141 [.val (.int .u32)]] [.val (.int .u32)] n ((x0,()),(x1,()),(x2,()),())
theorem wz0 (n:Nat) (x0 x1 x2):qdw n x0 x1 x2=if x2=0 then none else (if x1.tmod x2<0 then none else (some (((x0,()),(x1,()),(x2,()),()),(yi1 .u32 x0 (x1.tmod x2),())))):=by kernel_rfl
noncomputable def qdw_sp:GSpec TT:=⟨[.ptr 0 141 [.val (.int .u32)],.ptr 0 141 [.val (.int .u32)],.ptr 0 141 [.val (.int .u32)]],[.blk 141 [.val (.int .u32)],.blk 141 [.val (.int .u32)],.blk 141 [.val (.int .u32)]],[.val (.int .u32)],fun x=>qdw v5 x.1.1 x.2.1.1 x.2.2.1.1⟩
theorem wo0:GOk TT prog 152 qdw_sp:=za7 (C:=qdw_C) (cuts:=qy4) (by kernel_rfl) gu1 func152 (show f152.body=some (j5 f152) by kernel_rfl) (by kernel_rfl) (by kernel_rfl) (by kernel_rfl) fun x y h=>⟨v5,h⟩
noncomputable def qdx_C:Ctx TT:=⟨za4,[],3,[],v9,za3⟩
theorem gm5:v4 TT prog qdx_C.E:=q9
def qu4:List (Pos×Cut):= []
noncomputable def qdx (n:Nat) (x0 x1 x2:Int):Option (((Int×Unit)×(Int×Unit)×(Int×Unit)×Unit)×(Int×Unit)):=zh0 TT prog qdx_C qu4 f153 (j5 f153) ⟨[],[],[],[],[]⟩ [.ptr 0 141 [.val (.int .u32)],.ptr 0 141 [.val (.int .u32)],.ptr 0 141 [.val (.int .u32)]] [.blk 141 [.val (.int .u32)],.blk 141 [.val (.int .u32)],.blk 141 [.val (.int .u32)]] [.val (.int .u32)] n ((x0,()),(x1,()),(x2,()),())
theorem wq0 (n:Nat) (x0 x1 x2):qdx n x0 x1 x2=if x2=0 then none else (if x1.tmod x2<0 then none else (some (((x0,()),(x1,()),(x2,()),()),(zb8 .u32 x0 (x1.tmod x2),())))):=by kernel_rfl
noncomputable def qdx_sp:GSpec TT:=⟨[.ptr 0 141 [.val (.int .u32)],.ptr 0 141 [.val (.int .u32)],.ptr 0 141 [.val (.int .u32)]],[.blk 141 [.val (.int .u32)],.blk 141 [.val (.int .u32)],.blk 141 [.val (.int .u32)]],[.val (.int .u32)],fun x=>qdx v5 x.1.1 x.2.1.1 x.2.2.1.1⟩
theorem wp7:GOk TT prog 153 qdx_sp:=za7 (C:=qdx_C) (cuts:=qu4) (by kernel_rfl) gm5 func153 (show f153.body=some (j5 f153) by kernel_rfl) (by kernel_rfl) (by kernel_rfl) (by kernel_rfl) fun x y h=>⟨v5,h⟩
noncomputable def qdy_C:Ctx TT:=⟨za4,[],3,[],v9,za3⟩
theorem gy8:v4 TT prog qdy_C.E:=q9
def qr2:List (Pos×Cut):= []
noncomputable def qdy (n:Nat) (x0 x1 x2:Int):Option (((Int×Unit)×(Int×Unit)×(Int×Unit)×Unit)×(Int×Unit)):=zh0 TT prog qdy_C qr2 f154 (j5 f154) ⟨[],[],[],[],[]⟩ [.ptr 0 141 [.val (.int .u32)],.ptr 0 141 [.val (.int .u32)],.ptr 0 141 [.val (.int .u32)]] [.blk 141 [.val (.int .u32)],.blk 141 [.val (.int .u32)],.blk 141 [.val (.int .u32)]] [.val (.int .u32)] n ((x0,()),(x1,()),(x2,()),())
theorem ug1 (n:Nat) (x0 x1 x2):qdy n x0 x1 x2=if x2=0 then none else (if x1.tmod x2<0 then none else (some (((x0,()),(x1,()),(x2,()),()),(IntKind.u32.wrap (zb8 .i32 (IntKind.i32.wrap x0) (x1.tmod x2)),())))):=by kernel_rfl
noncomputable def qdy_sp:GSpec TT:=⟨[.ptr 0 141 [.val (.int .u32)],.ptr 0 141 [.val (.int .u32)],.ptr 0 141 [.val (.int .u32)]],[.blk 141 [.val (.int .u32)],.blk 141 [.val (.int .u32)],.blk 141 [.val (.int .u32)]],[.val (.int .u32)],fun x=>qdy v5 x.1.1 x.2.1.1 x.2.2.1.1⟩
theorem ud9:GOk TT prog 154 qdy_sp:=za7 (C:=qdy_C) (cuts:=qr2) (by kernel_rfl) gy8 func154 (show f154.body=some (j5 f154) by kernel_rfl) (by kernel_rfl) (by kernel_rfl) (by kernel_rfl) fun x y h=>⟨v5,h⟩
noncomputable def qdz_C:Ctx TT:=⟨za4,[],1,[],v9,za3⟩
theorem wa6:v4 TT prog qdz_C.E:=q9
def va2:List (Pos×Cut):= []
noncomputable def qdz (n:Nat) (x0:Int):Option (((Int×Unit)×Unit)×(Int×Unit)):=zh0 TT prog qdz_C va2 f155 (j5 f155) ⟨[],[],[],[],[]⟩ [.ptr 0 141 [.val (.int .u32)]] [.blk 141 [.val (.int .u32)]] [.val (.int .u32)] n ((x0,()),())
theorem wz9 (n:Nat) (x0):qdz n x0=some (((x0,()),()),(x0,())):=by kernel_rfl
noncomputable def qdz_sp:GSpec TT:=⟨[.ptr 0 141 [.val (.int .u32)]],[.blk 141 [.val (.int .u32)]],[.val (.int .u32)],fun x=>qdz v5 x.1.1⟩
theorem ub7:GOk TT prog 155 qdz_sp:=za7 (C:=qdz_C) (cuts:=va2) (by kernel_rfl) wa6 func155 (show f155.body=some (j5 f155) by kernel_rfl) (by kernel_rfl) (by kernel_rfl) (by kernel_rfl) fun x y h=>⟨v5,h⟩
noncomputable def qea_C:Ctx TT:=⟨za4,[],1,[],v9,za3⟩
theorem gk4:v4 TT prog qea_C.E:=q9
def qp8:List (Pos×Cut):= []
noncomputable def qea (n:Nat) (x0:Int):Option (((Int×Unit)×Unit)×(Int×Unit)):=zh0 TT prog qea_C qp8 f156 (j5 f156) ⟨[],[],[],[],[]⟩ [.ptr 0 141 [.val (.int .u32)]] [.blk 141 [.val (.int .u32)]] [.val (.int .u32)] n ((x0,()),())
theorem ub5 (n:Nat) (x0):qea n x0=some (((x0,()),()),(IntKind.u32.wrap (0-x0),())):=by kernel_rfl
noncomputable def qea_sp:GSpec TT:=⟨[.ptr 0 141 [.val (.int .u32)]],[.blk 141 [.val (.int .u32)]],[.val (.int .u32)],fun x=>qea v5 x.1.1⟩
theorem wh6:GOk TT prog 156 qea_sp:=za7 (C:=qea_C) (cuts:=qp8) (by kernel_rfl) gk4 func156 (show f156.body=some (j5 f156) by kernel_rfl) (by kernel_rfl) (by kernel_rfl) (by kernel_rfl) fun x y h=>⟨v5,h⟩
noncomputable def qc_C:Ctx TT:=⟨za4,[(144,qdo_sp.toCall (v6 TT)),(145,qdp_sp.toCall (v6 TT)),(146,qdq_sp.toCall (v6 TT)),(147,qdr_sp.toCall (v6 TT)),(148,qds_sp.toCall (v6 TT)),(149,qdt_sp.toCall (v6 TT)),(150,qdu_sp.toCall (v6 TT)),(151,qdv_sp.toCall (v6 TT)),(152,qdw_sp.toCall (v6 TT)),(153,qdx_sp.toCall (v6 TT)),(154,qdy_sp.toCall (v6 TT)),(155,qdz_sp.toCall (v6 TT)),(156,qea_sp.toCall (v6 TT))],0,[],v9,za3⟩
theorem wm8:v4 TT prog qc_C.E:=g9 (v7 wy8 (j9 144)) (g9 (v7 ub6 (j9 145)) (g9 (v7 wu5 (j9 146)) (g9 (v7 wk5 (j9 147)) (g9 (v7 wu6 (j9 148)) (g9 (v7 wx0 (j9 149)) (g9 (v7 uf8 (j9 150)) (g9 (v7 wl5 (j9 151)) (g9 (v7 wo0 (j9 152)) (g9 (v7 wp7 (j9 153)) (g9 (v7 ud9 (j9 154)) (g9 (v7 ub7 (j9 155)) (g9 (v7 wh6 (j9 156)) (q9)))))))))))))
def jz4:List (Pos×Cut):= [([false,true],⟨[0,5,6,7,21],[],false,[],0,false⟩)]
noncomputable def qc (n:Nat) (x0 x1 x2 x3:Int):Option (Int×Int):=zf7 TT prog qc_C jz4 f110 (j5 f110) ⟨[],[]⟩ [.val (.int .u8),.val (.int .u32),.val (.int .u32),.val (.int .u32)] [.val (.int .u32),.val (.int .i64)] n (x0,x1,x2,x3)
noncomputable abbrev uw2:=qb9 TT prog qc_C jz4 f110 (j5 f110) ⟨[],[]⟩ [.val (.int .u8),.val (.int .u32),.val (.int .u32),.val (.int .u32)] [.val (.int .u32),.val (.int .i64)]
noncomputable def ve4 (n:Nat) (s0:Int) (s21:Bool) (b0_0 b1_0 b2_0:Int):Option (Int×Int):=uw2 n [false,true] ⟨[(0,cu8 s0),(5,.ptr 0 0),(6,.ptr 1 0),(7,.ptr 2 0),(21,cb s21)],[.blk 141 [ui1 b0_0],.blk 141 [ui1 b1_0],.blk 141 [ui1 b2_0]]⟩
theorem un1 (n:Nat) (x0 x1 x2 x3):qc n x0 x1 x2 x3=q7 (x0==(4:Int)) (ve4 n x0 (x3==(0:Int)) x1 x2 x3) (q7 (x0==(5:Int)) (ve4 n x0 (x3==(0:Int)) x1 x2 x3) (ve4 n x0 false x1 x2 x3)):=by kernel_rfl
theorem kr4 (n:Nat) (s0 s21 b0_0 b1_0 b2_0):ve4 (n+1) s0 s21 b0_0 b1_0 b2_0=q7 s21 (some ((0:Int),(113:Int))) (if s0=(1:Int) then (j7 (qdo v5 b1_0 b2_0) fun y1=>some (y1.2.1,(0:Int))) else (if s0=(2:Int) then (j7 (qdp v5 b1_0 b2_0) fun y2=>some (y2.2.1,(0:Int))) else (if s0=(3:Int) then (j7 (qdq v5 b1_0 b2_0) fun y3=>some (y3.2.1,(0:Int))) else (if s0=(4:Int) then (j7 (qdr v5 b1_0 b2_0) fun y4=>some (y4.2.1,(0:Int))) else (if s0=(5:Int) then (j7 (qds v5 b1_0 b2_0) fun y5=>some (y5.2.1,(0:Int))) else (if s0=(6:Int) then (j7 (qdt v5 b1_0 b2_0) fun y6=>some (y6.2.1,(0:Int))) else (if s0=(7:Int) then (j7 (qdu v5 b1_0 b2_0) fun y7=>some (y7.2.1,(0:Int))) else (if s0=(8:Int) then (j7 (qdv v5 b1_0 b2_0) fun y8=>some (y8.2.1,(0:Int))) else (if s0=(9:Int) then (j7 (qdw v5 b1_0 b2_0 b0_0) fun y9=>some (y9.2.1,(0:Int))) else (if s0=(10:Int) then (j7 (qdx v5 b1_0 b2_0 b0_0) fun y10=>some (y10.2.1,(0:Int))) else (if s0=(11:Int) then (j7 (qdy v5 b1_0 b2_0 b0_0) fun y11=>some (y11.2.1,(0:Int))) else (if s0=(12:Int) then (j7 (qdz v5 b2_0) fun y12=>some (y12.2.1,(0:Int))) else (if s0=(13:Int) then (j7 (qea v5 b1_0) fun y13=>some (y13.2.1,(0:Int))) else (some ((0:Int),(2:Int)))))))))))))))):=by kernel_rfl
noncomputable def qc_sp:FnSpec TT:=⟨[.val (.int .u8),.val (.int .u32),.val (.int .u32),.val (.int .u32)],[.val (.int .u32),.val (.int .i64)],fun x=>qc v5 x.1 x.2.1 x.2.2.1 x.2.2.2⟩
theorem us9:ze7 TT prog 110 qc_sp:=u0 (C:=qc_C) (by kernel_rfl) wm8 func110 (show f110.body=some (j5 f110) by kernel_rfl) (by kernel_rfl) (by kernel_rfl) (cuts:=jz4) fun x y h=>⟨v5,h⟩
noncomputable def qeb_C:Ctx TT:=⟨za4,[],2,[],v9,za3⟩
theorem gx6:v4 TT prog qeb_C.E:=q9
def qs2:List (Pos×Cut):= []
noncomputable def qeb (n:Nat) (x0 x1:Int):Option (((Int×Unit)×(Int×Unit)×Unit)×(Int×Unit)):=zh0 TT prog qeb_C qs2 f157 (j5 f157) ⟨[],[],[],[],[]⟩ [.ptr 0 49 [.val (.int .u64)],.ptr 0 49 [.val (.int .u64)]] [.blk 49 [.val (.int .u64)],.blk 49 [.val (.int .u64)]] [.val (.int .u64)] n ((x0,()),(x1,()),())
theorem uh0 (n:Nat) (x0 x1):qeb n x0 x1=some (((x0,()),(x1,()),()),(IntKind.u64.wrap (x0+x1),())):=by kernel_rfl
noncomputable def qeb_sp:GSpec TT:=⟨[.ptr 0 49 [.val (.int .u64)],.ptr 0 49 [.val (.int .u64)]],[.blk 49 [.val (.int .u64)],.blk 49 [.val (.int .u64)]],[.val (.int .u64)],fun x=>qeb v5 x.1.1 x.2.1.1⟩
theorem uc2:GOk TT prog 157 qeb_sp:=za7 (C:=qeb_C) (cuts:=qs2) (by kernel_rfl) gx6 func157 (show f157.body=some (j5 f157) by kernel_rfl) (by kernel_rfl) (by kernel_rfl) (by kernel_rfl) fun x y h=>⟨v5,h⟩
noncomputable def qec_C:Ctx TT:=⟨za4,[],2,[],v9,za3⟩
theorem gl6:v4 TT prog qec_C.E:=q9
def qx2:List (Pos×Cut):= []
noncomputable def qec (n:Nat) (x0 x1:Int):Option (((Int×Unit)×(Int×Unit)×Unit)×(Int×Unit)):=zh0 TT prog qec_C qx2 f158 (j5 f158) ⟨[],[],[],[],[]⟩ [.ptr 0 49 [.val (.int .u64)],.ptr 0 49 [.val (.int .u64)]] [.blk 49 [.val (.int .u64)],.blk 49 [.val (.int .u64)]] [.val (.int .u64)] n ((x0,()),(x1,()),())
theorem uc1 (n:Nat) (x0 x1):qec n x0 x1=some (((x0,()),(x1,()),()),(IntKind.u64.wrap (x0-x1),())):=by kernel_rfl
noncomputable def qec_sp:GSpec TT:=⟨[.ptr 0 49 [.val (.int .u64)],.ptr 0 49 [.val (.int .u64)]],[.blk 49 [.val (.int .u64)],.blk 49 [.val (.int .u64)]],[.val (.int .u64)],fun x=>qec v5 x.1.1 x.2.1.1⟩
theorem uc0:GOk TT prog 158 qec_sp:=za7 (C:=qec_C) (cuts:=qx2) (by kernel_rfl) gl6 func158 (show f158.body=some (j5 f158) by kernel_rfl) (by kernel_rfl) (by kernel_rfl) (by kernel_rfl) fun x y h=>⟨v5,h⟩
noncomputable def qed_C:Ctx TT:=⟨za4,[],2,[],v9,za3⟩
theorem gj2:v4 TT prog qed_C.E:=q9
def qs0:List (Pos×Cut):= []
noncomputable def qed (n:Nat) (x0 x1:Int):Option (((Int×Unit)×(Int×Unit)×Unit)×(Int×Unit)):=zh0 TT prog qed_C qs0 f159 (j5 f159) ⟨[],[],[],[],[]⟩ [.ptr 0 49 [.val (.int .u64)],.ptr 0 49 [.val (.int .u64)]] [.blk 49 [.val (.int .u64)],.blk 49 [.val (.int .u64)]] [.val (.int .u64)] n ((x0,()),(x1,()),())
theorem uf7 (n:Nat) (x0 x1):qed n x0 x1=some (((x0,()),(x1,()),()),(IntKind.u64.wrap (x0*x1),())):=by kernel_rfl
noncomputable def qed_sp:GSpec TT:=⟨[.ptr 0 49 [.val (.int .u64)],.ptr 0 49 [.val (.int .u64)]],[.blk 49 [.val (.int .u64)],.blk 49 [.val (.int .u64)]],[.val (.int .u64)],fun x=>qed v5 x.1.1 x.2.1.1⟩
theorem wo7:GOk TT prog 159 qed_sp:=za7 (C:=qed_C) (cuts:=qs0) (by kernel_rfl) gj2 func159 (show f159.body=some (j5 f159) by kernel_rfl) (by kernel_rfl) (by kernel_rfl) (by kernel_rfl) fun x y h=>⟨v5,h⟩
noncomputable def qee_C:Ctx TT:=⟨za4,[],2,[],v9,za3⟩
theorem gl4:v4 TT prog qee_C.E:=q9
def ql5:List (Pos×Cut):= []
noncomputable def qee (n:Nat) (x0 x1:Int):Option (((Int×Unit)×(Int×Unit)×Unit)×(Int×Unit)):=zh0 TT prog qee_C ql5 f160 (j5 f160) ⟨[],[],[],[],[]⟩ [.ptr 0 49 [.val (.int .u64)],.ptr 0 49 [.val (.int .u64)]] [.blk 49 [.val (.int .u64)],.blk 49 [.val (.int .u64)]] [.val (.int .u64)] n ((x0,()),(x1,()),())
theorem ud7 (n:Nat) (x0 x1):qee n x0 x1=if x1=0 then none else (some (((x0,()),(x1,()),()),(IntKind.u64.wrap (x0.tdiv x1),()))):=by kernel_rfl
noncomputable def qee_sp:GSpec TT:=⟨[.ptr 0 49 [.val (.int .u64)],.ptr 0 49 [.val (.int .u64)]],[.blk 49 [.val (.int .u64)],.blk 49 [.val (.int .u64)]],[.val (.int .u64)],fun x=>qee v5 x.1.1 x.2.1.1⟩
theorem ue3:GOk TT prog 160 qee_sp:=za7 (C:=qee_C) (cuts:=ql5) (by kernel_rfl) gl4 func160 (show f160.body=some (j5 f160) by kernel_rfl) (by kernel_rfl) (by kernel_rfl) (by kernel_rfl) fun x y h=>⟨v5,h⟩
noncomputable def qef_C:Ctx TT:=⟨za4,[],2,[],v9,za3⟩
theorem gp6:v4 TT prog qef_C.E:=q9
def qv7:List (Pos×Cut):= []
noncomputable def qef (n:Nat) (x0 x1:Int):Option (((Int×Unit)×(Int×Unit)×Unit)×(Int×Unit)):=zh0 TT prog qef_C qv7 f161 (j5 f161) ⟨[],[],[],[],[]⟩ [.ptr 0 49 [.val (.int .u64)],.ptr 0 49 [.val (.int .u64)]] [.blk 49 [.val (.int .u64)],.blk 49 [.val (.int .u64)]] [.val (.int .u64)] n ((x0,()),(x1,()),())
theorem wn9 (n:Nat) (x0 x1):qef n x0 x1=if x1=0 then none else (some (((x0,()),(x1,()),()),(x0.tmod x1,()))):=by kernel_rfl
noncomputable def qef_sp:GSpec TT:=⟨[.ptr 0 49 [.val (.int .u64)],.ptr 0 49 [.val (.int .u64)]],[.blk 49 [.val (.int .u64)],.blk 49 [.val (.int .u64)]],[.val (.int .u64)],fun x=>qef v5 x.1.1 x.2.1.1⟩
theorem wo5:GOk TT prog 161 qef_sp:=za7 (C:=qef_C) (cuts:=qv7) (by kernel_rfl) gp6 func161 (show f161.body=some (j5 f161) by kernel_rfl) (by kernel_rfl) (by kernel_rfl) (by kernel_rfl) fun x y h=>⟨v5,h⟩
noncomputable def qeg_C:Ctx TT:=⟨za4,[],2,[],v9,za3⟩
theorem gm3:v4 TT prog qeg_C.E:=q9
def qn3:List (Pos×Cut):= []
noncomputable def qeg (n:Nat) (x0 x1:Int):Option (((Int×Unit)×(Int×Unit)×Unit)×(Int×Unit)):=zh0 TT prog qeg_C qn3 f162 (j5 f162) ⟨[],[],[],[],[]⟩ [.ptr 0 49 [.val (.int .u64)],.ptr 0 49 [.val (.int .u64)]] [.blk 49 [.val (.int .u64)],.blk 49 [.val (.int .u64)]] [.val (.int .u64)] n ((x0,()),(x1,()),())
theorem wy0 (n:Nat) (x0 x1):qeg n x0 x1=some (((x0,()),(x1,()),()),(za9 .u64 x0 x1,())):=by kernel_rfl
noncomputable def qeg_sp:GSpec TT:=⟨[.ptr 0 49 [.val (.int .u64)],.ptr 0 49 [.val (.int .u64)]],[.blk 49 [.val (.int .u64)],.blk 49 [.val (.int .u64)]],[.val (.int .u64)],fun x=>qeg v5 x.1.1 x.2.1.1⟩
theorem ug0:GOk TT prog 162 qeg_sp:=za7 (C:=qeg_C) (cuts:=qn3) (by kernel_rfl) gm3 func162 (show f162.body=some (j5 f162) by kernel_rfl) (by kernel_rfl) (by kernel_rfl) (by kernel_rfl) fun x y h=>⟨v5,h⟩
noncomputable def qeh_C:Ctx TT:=⟨za4,[],2,[],v9,za3⟩
theorem gw0:v4 TT prog qeh_C.E:=q9
def qk6:List (Pos×Cut):= []
noncomputable def qeh (n:Nat) (x0 x1:Int):Option (((Int×Unit)×(Int×Unit)×Unit)×(Int×Unit)):=zh0 TT prog qeh_C qk6 f163 (j5 f163) ⟨[],[],[],[],[]⟩ [.ptr 0 49 [.val (.int .u64)],.ptr 0 49 [.val (.int .u64)]] [.blk 49 [.val (.int .u64)],.blk 49 [.val (.int .u64)]] [.val (.int .u64)] n ((x0,()),(x1,()),())
theorem wz2 (n:Nat) (x0 x1):qeh n x0 x1=some (((x0,()),(x1,()),()),(bOr .u64 x0 x1,())):=by kernel_rfl
noncomputable def qeh_sp:GSpec TT:=⟨[.ptr 0 49 [.val (.int .u64)],.ptr 0 49 [.val (.int .u64)]],[.blk 49 [.val (.int .u64)],.blk 49 [.val (.int .u64)]],[.val (.int .u64)],fun x=>qeh v5 x.1.1 x.2.1.1⟩
theorem ub0:GOk TT prog 163 qeh_sp:=za7 (C:=qeh_C) (cuts:=qk6) (by kernel_rfl) gw0 func163 (show f163.body=some (j5 f163) by kernel_rfl) (by kernel_rfl) (by kernel_rfl) (by kernel_rfl) fun x y h=>⟨v5,h⟩
noncomputable def qei_C:Ctx TT:=⟨za4,[],2,[],v9,za3⟩
theorem gv4:v4 TT prog qei_C.E:=q9
def qs5:List (Pos×Cut):= []
noncomputable def qei (n:Nat) (x0 x1:Int):Option (((Int×Unit)×(Int×Unit)×Unit)×(Int×Unit)):=zh0 TT prog qei_C qs5 f164 (j5 f164) ⟨[],[],[],[],[]⟩ [.ptr 0 49 [.val (.int .u64)],.ptr 0 49 [.val (.int .u64)]] [.blk 49 [.val (.int .u64)],.blk 49 [.val (.int .u64)]] [.val (.int .u64)] n ((x0,()),(x1,()),())
theorem ww6 (n:Nat) (x0 x1):qei n x0 x1=some (((x0,()),(x1,()),()),(ja8 .u64 x0 x1,())):=by kernel_rfl
noncomputable def qei_sp:GSpec TT:=⟨[.ptr 0 49 [.val (.int .u64)],.ptr 0 49 [.val (.int .u64)]],[.blk 49 [.val (.int .u64)],.blk 49 [.val (.int .u64)]],[.val (.int .u64)],fun x=>qei v5 x.1.1 x.2.1.1⟩
theorem wj8:GOk TT prog 164 qei_sp:=za7 (C:=qei_C) (cuts:=qs5) (by kernel_rfl) gv4 func164 (show f164.body=some (j5 f164) by kernel_rfl) (by kernel_rfl) (by kernel_rfl) (by kernel_rfl) fun x y h=>⟨v5,h⟩
noncomputable def qej_C:Ctx TT:=⟨za4,[],3,[],v9,za3⟩
theorem gr9:v4 TT prog qej_C.E:=q9
def va1:List (Pos×Cut):= []
noncomputable def qej (n:Nat) (x0 x1 x2:Int):Option (((Int×Unit)×(Int×Unit)×(Int×Unit)×Unit)×(Int×Unit)):=zh0 TT prog qej_C va1 f165 (j5 f165) ⟨[],[],[],[],[]⟩ [.ptr 0 49 [.val (.int .u64)],.ptr 0 49 [.val (.int .u64)],.ptr 0 49 [.val (.int .u64)]] [.blk 49 [.val (.int .u64)],.blk 49 [.val (.int .u64)],.blk 49 [.val (.int .u64)]] [.val (.int .u64)] n ((x0,()),(x1,()),(x2,()),())
theorem ud0 (n:Nat) (x0 x1 x2):qej n x0 x1 x2=if x2=0 then none else (if x1.tmod x2<0 then none else (some (((x0,()),(x1,()),(x2,()),()),(yi1 .u64 x0 (x1.tmod x2),())))):=by kernel_rfl
noncomputable def qej_sp:GSpec TT:=⟨[.ptr 0 49 [.val (.int .u64)],.ptr 0 49 [.val (.int .u64)],.ptr 0 49 [.val (.int .u64)]],[.blk 49 [.val (.int .u64)],.blk 49 [.val (.int .u64)],.blk 49 [.val (.int .u64)]],[.val (.int .u64)],fun x=>qej v5 x.1.1 x.2.1.1 x.2.2.1.1⟩
theorem wu8:GOk TT prog 165 qej_sp:=za7 (C:=qej_C) (cuts:=va1) (by kernel_rfl) gr9 func165 (show f165.body=some (j5 f165) by kernel_rfl) (by kernel_rfl) (by kernel_rfl) (by kernel_rfl) fun x y h=>⟨v5,h⟩
noncomputable def qek_C:Ctx TT:=⟨za4,[],3,[],v9,za3⟩
theorem gm7:v4 TT prog qek_C.E:=q9
def qr6:List (Pos×Cut):= []
noncomputable def qek (n:Nat) (x0 x1 x2:Int):Option (((Int×Unit)×(Int×Unit)×(Int×Unit)×Unit)×(Int×Unit)):=zh0 TT prog qek_C qr6 f166 (j5 f166) ⟨[],[],[],[],[]⟩ [.ptr 0 49 [.val (.int .u64)],.ptr 0 49 [.val (.int .u64)],.ptr 0 49 [.val (.int .u64)]] [.blk 49 [.val (.int .u64)],.blk 49 [.val (.int .u64)],.blk 49 [.val (.int .u64)]] [.val (.int .u64)] n ((x0,()),(x1,()),(x2,()),())
theorem uf2 (n:Nat) (x0 x1 x2):qek n x0 x1 x2=if x2=0 then none else (if x1.tmod x2<0 then none else (some (((x0,()),(x1,()),(x2,()),()),(zb8 .u64 x0 (x1.tmod x2),())))):=by kernel_rfl
noncomputable def qek_sp:GSpec TT:=⟨[.ptr 0 49 [.val (.int .u64)],.ptr 0 49 [.val (.int .u64)],.ptr 0 49 [.val (.int .u64)]],[.blk 49 [.val (.int .u64)],.blk 49 [.val (.int .u64)],.blk 49 [.val (.int .u64)]],[.val (.int .u64)],fun x=>qek v5 x.1.1 x.2.1.1 x.2.2.1.1⟩
theorem wm6:GOk TT prog 166 qek_sp:=za7 (C:=qek_C) (cuts:=qr6) (by kernel_rfl) gm7 func166 (show f166.body=some (j5 f166) by kernel_rfl) (by kernel_rfl) (by kernel_rfl) (by kernel_rfl) fun x y h=>⟨v5,h⟩
noncomputable def qel_C:Ctx TT:=⟨za4,[],3,[],v9,za3⟩
theorem gk3:v4 TT prog qel_C.E:=q9
def qv1:List (Pos×Cut):= []
noncomputable def qel (n:Nat) (x0 x1 x2:Int):Option (((Int×Unit)×(Int×Unit)×(Int×Unit)×Unit)×(Int×Unit)):=zh0 TT prog qel_C qv1 f167 (j5 f167) ⟨[],[],[],[],[]⟩ [.ptr 0 49 [.val (.int .u64)],.ptr 0 49 [.val (.int .u64)],.ptr 0 49 [.val (.int .u64)]] [.blk 49 [.val (.int .u64)],.blk 49 [.val (.int .u64)],.blk 49 [.val (.int .u64)]] [.val (.int .u64)] n ((x0,()),(x1,()),(x2,()),())
theorem wj7 (n:Nat) (x0 x1 x2):qel n x0 x1 x2=if x2=0 then none else (if x1.tmod x2<0 then none else (some (((x0,()),(x1,()),(x2,()),()),(IntKind.u64.wrap (zb8 .i64 (IntKind.i64.wrap x0) (x1.tmod x2)),())))):=by kernel_rfl
noncomputable def qel_sp:GSpec TT:=⟨[.ptr 0 49 [.val (.int .u64)],.ptr 0 49 [.val (.int .u64)],.ptr 0 49 [.val (.int .u64)]],[.blk 49 [.val (.int .u64)],.blk 49 [.val (.int .u64)],.blk 49 [.val (.int .u64)]],[.val (.int .u64)],fun x=>qel v5 x.1.1 x.2.1.1 x.2.2.1.1⟩
theorem ub4:GOk TT prog 167 qel_sp:=za7 (C:=qel_C) (cuts:=qv1) (by kernel_rfl) gk3 func167 (show f167.body=some (j5 f167) by kernel_rfl) (by kernel_rfl) (by kernel_rfl) (by kernel_rfl) fun x y h=>⟨v5,h⟩
noncomputable def qem_C:Ctx TT:=⟨za4,[],1,[],v9,za3⟩
theorem gw9:v4 TT prog qem_C.E:=q9
def qr1:List (Pos×Cut):= []
noncomputable def qem (n:Nat) (x0:Int):Option (((Int×Unit)×Unit)×(Int×Unit)):=zh0 TT prog qem_C qr1 f168 (j5 f168) ⟨[],[],[],[],[]⟩ [.ptr 0 49 [.val (.int .u64)]] [.blk 49 [.val (.int .u64)]] [.val (.int .u64)] n ((x0,()),())
theorem wu9 (n:Nat) (x0):qem n x0=some (((x0,()),()),(x0,())):=by kernel_rfl
noncomputable def qem_sp:GSpec TT:=⟨[.ptr 0 49 [.val (.int .u64)]],[.blk 49 [.val (.int .u64)]],[.val (.int .u64)],fun x=>qem v5 x.1.1⟩
theorem ua4:GOk TT prog 168 qem_sp:=za7 (C:=qem_C) (cuts:=qr1) (by kernel_rfl) gw9 func168 (show f168.body=some (j5 f168) by kernel_rfl) (by kernel_rfl) (by kernel_rfl) (by kernel_rfl) fun x y h=>⟨v5,h⟩
noncomputable def qen_C:Ctx TT:=⟨za4,[],1,[],v9,za3⟩
theorem gv5:v4 TT prog qen_C.E:=q9
def qv9:List (Pos×Cut):= []
noncomputable def qen (n:Nat) (x0:Int):Option (((Int×Unit)×Unit)×(Int×Unit)):=zh0 TT prog qen_C qv9 f169 (j5 f169) ⟨[],[],[],[],[]⟩ [.ptr 0 49 [.val (.int .u64)]] [.blk 49 [.val (.int .u64)]] [.val (.int .u64)] n ((x0,()),())
theorem wr7 (n:Nat) (x0):qen n x0=some (((x0,()),()),(IntKind.u64.wrap (0-x0),())):=by kernel_rfl
noncomputable def qen_sp:GSpec TT:=⟨[.ptr 0 49 [.val (.int .u64)]],[.blk 49 [.val (.int .u64)]],[.val (.int .u64)],fun x=>qen v5 x.1.1⟩
theorem wq9:GOk TT prog 169 qen_sp:=za7 (C:=qen_C) (cuts:=qv9) (by kernel_rfl) gv5 func169 (show f169.body=some (j5 f169) by kernel_rfl) (by kernel_rfl) (by kernel_rfl) (by kernel_rfl) fun x y h=>⟨v5,h⟩
noncomputable def qau_C:Ctx TT:=⟨za4,[(157,qeb_sp.toCall (v6 TT)),(158,qec_sp.toCall (v6 TT)),(159,qed_sp.toCall (v6 TT)),(160,qee_sp.toCall (v6 TT)),(161,qef_sp.toCall (v6 TT)),(162,qeg_sp.toCall (v6 TT)),(163,qeh_sp.toCall (v6 TT)),(164,qei_sp.toCall (v6 TT)),(165,qej_sp.toCall (v6 TT)),(166,qek_sp.toCall (v6 TT)),(167,qel_sp.toCall (v6 TT)),(168,qem_sp.toCall (v6 TT)),(169,qen_sp.toCall (v6 TT))],0,[],v9,za3⟩
theorem gj0:v4 TT prog qau_C.E:=g9 (v7 uc2 (j9 157)) (g9 (v7 uc0 (j9 158)) (g9 (v7 wo7 (j9 159)) (g9 (v7 ue3 (j9 160)) (g9 (v7 wo5 (j9 161)) (g9 (v7 ug0 (j9 162)) (g9 (v7 ub0 (j9 163)) (g9 (v7 wj8 (j9 164)) (g9 (v7 wu8 (j9 165)) (g9 (v7 wm6 (j9 166)) (g9 (v7 ub4 (j9 167)) (g9 (v7 ua4 (j9 168)) (g9 (v7 wq9 (j9 169)) (q9)))))))))))))
def jn9:List (Pos×Cut):= [([false,true],⟨[0,5,6,7,21],[],false,[],0,false⟩)]
noncomputable def qau (n:Nat) (x0 x1 x2 x3:Int):Option (Int×Int):=zf7 TT prog qau_C jn9 f111 (j5 f111) ⟨[],[]⟩ [.val (.int .u8),.val (.int .u64),.val (.int .u64),.val (.int .u64)] [.val (.int .u64),.val (.int .i64)] n (x0,x1,x2,x3)
noncomputable abbrev uk3:=qb9 TT prog qau_C jn9 f111 (j5 f111) ⟨[],[]⟩ [.val (.int .u8),.val (.int .u64),.val (.int .u64),.val (.int .u64)] [.val (.int .u64),.val (.int .i64)]
noncomputable def jp7 (n:Nat) (s0:Int) (s21:Bool) (b0_0 b1_0 b2_0:Int):Option (Int×Int):=uk3 n [false,true] ⟨[(0,cu8 s0),(5,.ptr 0 0),(6,.ptr 1 0),(7,.ptr 2 0),(21,cb s21)],[.blk 49 [k7 b0_0],.blk 49 [k7 b1_0],.blk 49 [k7 b2_0]]⟩
theorem wp3 (n:Nat) (x0 x1 x2 x3):qau n x0 x1 x2 x3=q7 (x0==(4:Int)) (jp7 n x0 (x3==(0:Int)) x1 x2 x3) (q7 (x0==(5:Int)) (jp7 n x0 (x3==(0:Int)) x1 x2 x3) (jp7 n x0 false x1 x2 x3)):=by kernel_rfl
theorem vu7 (n:Nat) (s0 s21 b0_0 b1_0 b2_0):jp7 (n+1) s0 s21 b0_0 b1_0 b2_0=q7 s21 (some ((0:Int),(113:Int))) (if s0=(1:Int) then (j7 (qeb v5 b1_0 b2_0) fun y1=>some (y1.2.1,(0:Int))) else (if s0=(2:Int) then (j7 (qec v5 b1_0 b2_0) fun y2=>some (y2.2.1,(0:Int))) else (if s0=(3:Int) then (j7 (qed v5 b1_0 b2_0) fun y3=>some (y3.2.1,(0:Int))) else (if s0=(4:Int) then (j7 (qee v5 b1_0 b2_0) fun y4=>some (y4.2.1,(0:Int))) else (if s0=(5:Int) then (j7 (qef v5 b1_0 b2_0) fun y5=>some (y5.2.1,(0:Int))) else (if s0=(6:Int) then (j7 (qeg v5 b1_0 b2_0) fun y6=>some (y6.2.1,(0:Int))) else (if s0=(7:Int) then (j7 (qeh v5 b1_0 b2_0) fun y7=>some (y7.2.1,(0:Int))) else (if s0=(8:Int) then (j7 (qei v5 b1_0 b2_0) fun y8=>some (y8.2.1,(0:Int))) else (if s0=(9:Int) then (j7 (qej v5 b1_0 b2_0 b0_0) fun y9=>some (y9.2.1,(0:Int))) else (if s0=(10:Int) then (j7 (qek v5 b1_0 b2_0 b0_0) fun y10=>some (y10.2.1,(0:Int))) else (if s0=(11:Int) then (j7 (qel v5 b1_0 b2_0 b0_0) fun y11=>some (y11.2.1,(0:Int))) else (if s0=(12:Int) then (j7 (qem v5 b2_0) fun y12=>some (y12.2.1,(0:Int))) else (if s0=(13:Int) then (j7 (qen v5 b1_0) fun y13=>some (y13.2.1,(0:Int))) else (some ((0:Int),(2:Int)))))))))))))))):=by kernel_rfl
noncomputable def qau_sp:FnSpec TT:=⟨[.val (.int .u8),.val (.int .u64),.val (.int .u64),.val (.int .u64)],[.val (.int .u64),.val (.int .i64)],fun x=>qau v5 x.1 x.2.1 x.2.2.1 x.2.2.2⟩
theorem wl2:ze7 TT prog 111 qau_sp:=u0 (C:=qau_C) (by kernel_rfl) gj0 func111 (show f111.body=some (j5 f111) by kernel_rfl) (by kernel_rfl) (by kernel_rfl) (cuts:=jn9) fun x y h=>⟨v5,h⟩
noncomputable def qcm_C:Ctx TT:=⟨za4,[(110,qc_sp.toCall),(111,qau_sp.toCall)],0,[],v9,za3⟩
theorem gw6:v4 TT prog qcm_C.E:=g9 (q8 us9) (g9 (q8 wl2) (q9))
def ql8:List (Pos×Cut):= []
noncomputable def qcm (n:Nat) (x0:Int) (x1:Bool) (x2 x3:Int):Option (Int×Int):=zf7 TT prog qcm_C ql8 f85 (j5 f85) ⟨[],[]⟩ [.val (.int .u8),.val (.bool),.val (.int .u64),.val (.int .u64)] [.val (.int .u64),.val (.int .i64)] n (x0,x1,x2,x3)
theorem wx9 (n:Nat) (x0 x1 x2 x3):qcm n x0 x1 x2 x3=q7 x1 (j7 (qc v5 x0 (32:Int) (IntKind.u32.wrap x2) (IntKind.u32.wrap x3)) fun y1=>some (IntKind.u64.wrap y1.1,y1.2)) (j7 (qau v5 x0 (64:Int) x2 x3) fun y2=>some (y2.1,y2.2)):=by kernel_rfl
noncomputable def qcm_sp:FnSpec TT:=⟨[.val (.int .u8),.val (.bool),.val (.int .u64),.val (.int .u64)],[.val (.int .u64),.val (.int .i64)],fun x=>qcm v5 x.1 x.2.1 x.2.2.1 x.2.2.2⟩
theorem ws8:ze7 TT prog 85 qcm_sp:=u0 (C:=qcm_C) (by kernel_rfl) gw6 func85 (show f85.body=some (j5 f85) by kernel_rfl) (by kernel_rfl) (by kernel_rfl) (cuts:=ql8) fun x y h=>⟨v5,h⟩
noncomputable def qbg_C:Ctx TT:=⟨za4,[(205,qm_sp.toCall),(196,qan_sp.toCall),(194,qg_sp.toCall (v6 TT)),(85,qcm_sp.toCall)],0,[],v9,za3⟩
theorem gm1:v4 TT prog qbg_C.E:=g9 (q8 vh3) (g9 (q8 kv4) (g9 (u9 yt9 (j9 194)) (g9 (q8 ws8) (q9))))
def jk2:List (Pos×Cut):= [([true],⟨[1,2],[],false,[],0,false⟩)]
noncomputable def qbg (n:Nat) (x0:Work):Option ((Unit)×((Span×Unit)⊕(Unit×Unit))):=zz5 TT prog qbg_C jk2 f191 (j5 f191) ⟨[],[],[],[],[]⟩ [.val (.user 6)] [] [.val (.user 0)] (.ifc 163 (.agg [])) n (x0,())
noncomputable abbrev um7:=yp8 TT prog qbg_C jk2 f191 (j5 f191) ⟨[],[],[],[],[]⟩ [] [.val (.user 0)] (.ifc 163 (.agg []))
noncomputable def vk8 (n:Nat) (b0_0 b0_1 b0_2 b0_3:Int) (b0_4:Bool) (b0_5 b0_6 b1_0 b1_1:Int):Option ((Unit)×((Span×Unit)⊕(Unit×Unit))):=um7 n [true] ⟨[(1,.ptr 0 0),(2,.ptr 1 0)],[.blk 166 [k7 b0_0,k7 b0_1,k7 b0_2,k7 b0_3,cb b0_4,k7 b0_5,k7 b0_6],.blk 57 [k7 b1_0,k7 b1_1]]⟩
theorem uh4 (n:Nat) (x0):qbg n x0=j7 (qm v5 (⟨x0.b_Lo,x0.b_Hi⟩:Span)) fun y1=>q7 y1 (j7 (qan v5 x0 (⟨x0.a_Lo,x0.a_Hi⟩:Span)) fun y2=>j7 (qg v5 (!y2)) fun y3=>match y3.2 with| .inl z3=>(vk8 n x0.a_Lo x0.a_Hi x0.b_Lo x0.b_Hi x0.narrow x0.most x0.size (0:Int) (0:Int))| .inr e3=>(some ((),.inr ((),())))) (j7 (qg v5 false) fun y4=>match y4.2 with| .inl z4=>(vk8 n x0.a_Lo x0.a_Hi x0.b_Lo x0.b_Hi x0.narrow x0.most x0.size (0:Int) (0:Int))| .inr e4=>(some ((),.inr ((),())))):=by kernel_rfl
theorem vs6 (n:Nat) (b0_0 b0_1 b0_2 b0_3 b0_4 b0_5 b0_6 b1_0 b1_1):vk8 (n+1) b0_0 b0_1 b0_2 b0_3 b0_4 b0_5 b0_6 b1_0 b1_1=j7 (qcm v5 (11:Int) b0_4 b0_0 b0_2) fun y1=>j7 (qcm v5 (11:Int) b0_4 b0_1 b0_2) fun y2=>some ((),.inl ((⟨y1.1,y2.1⟩:Span),())):=by kernel_rfl
noncomputable def qbg_sp:PSpec TT:=⟨[.val (.user 6)],[],[.val (.user 0)],.ifc 163 (.agg []),fun x=>qbg v5 x.1⟩
theorem wo6:POk TT prog 191 qbg_sp:=zf1 (C:=qbg_C) (cuts:=jk2) (by kernel_rfl) gm1 func191 (show f191.body=some (j5 f191) by kernel_rfl) (by kernel_rfl) (by kernel_rfl) (by kernel_rfl) fun x y h=>⟨v5,h⟩
noncomputable def qbs_C:Ctx TT:=⟨za4,[],0,[],v9,za3⟩
theorem gz0:v4 TT prog qbs_C.E:=q9
def qx9:List (Pos×Cut):= []
noncomputable def qbs (n:Nat) (x0:Work):Option (Span):=zf7 TT prog qbs_C qx9 f192 (j5 f192) ⟨[],[]⟩ [.val (.user 6)] [.val (.user 0)] n x0
theorem wy6 (n:Nat) (x0):qbs n x0=some (⟨x0.b_Lo,x0.b_Hi⟩:Span):=by kernel_rfl
noncomputable def qbs_sp:FnSpec TT:=⟨[.val (.user 6)],[.val (.user 0)],fun x=>qbs v5 x⟩
theorem wk6:ze7 TT prog 192 qbs_sp:=u0 (C:=qbs_C) (by kernel_rfl) gz0 func192 (show f192.body=some (j5 f192) by kernel_rfl) (by kernel_rfl) (by kernel_rfl) (cuts:=qx9) fun x y h=>⟨v5,h⟩
noncomputable def qdf_C:Ctx TT:=⟨za4,[(194,qg_sp.toCall (v6 TT)),(202,qas_sp.toCall)],0,[],v9,za3⟩
theorem go4:v4 TT prog qdf_C.E:=g9 (u9 yt9 (j9 194)) (g9 (q8 vj0) (q9))
def qt7:List (Pos×Cut):= []
noncomputable def qdf (n:Nat) (x0:Work):Option ((Unit)×((Span×Unit)⊕(Unit×Unit))):=zz5 TT prog qdf_C qt7 f193 (j5 f193) ⟨[],[],[],[],[]⟩ [.val (.user 6)] [] [.val (.user 0)] (.ifc 163 (.agg [])) n (x0,())
theorem wn1 (n:Nat) (x0):qdf n x0=q7 (x0.a_Hi==(0:Int)) (some ((),.inl ((⟨x0.a_Lo,x0.a_Hi⟩:Span),()))) (j7 (qg v5 (decide (x0.a_Lo>(0:Int)))) fun y1=>match y1.2 with| .inl z1=>(j7 (qas v5 x0 (IntKind.u64.wrap (0-x0.a_Hi)) (IntKind.u64.wrap (0-x0.a_Lo))) fun y2=>some ((),.inl (y2,())))| .inr e1=>(some ((),.inr ((),())))):=by kernel_rfl
noncomputable def qdf_sp:PSpec TT:=⟨[.val (.user 6)],[],[.val (.user 0)],.ifc 163 (.agg []),fun x=>qdf v5 x.1⟩
theorem wi8:POk TT prog 193 qdf_sp:=zf1 (C:=qdf_C) (cuts:=qt7) (by kernel_rfl) go4 func193 (show f193.body=some (j5 f193) by kernel_rfl) (by kernel_rfl) (by kernel_rfl) (by kernel_rfl) fun x y h=>⟨v5,h⟩
noncomputable def qn_C:Ctx TT:=⟨za4,[(137,qar_sp.toCall (v6 TT)),(106,qk_sp.toCall),(136,ql_sp.toCall),(108,qag_sp.toCall),(181,qbc_sp.toCall (v6 TT)),(182,qbd_sp.toCall (v6 TT)),(183,qbe_sp.toCall (v6 TT)),(184,qbq_sp.toCall),(185,qbr_sp.toCall),(186,qbk_sp.toCall),(187,qbl_sp.toCall),(188,qbm_sp.toCall),(189,qbf_sp.toCall (v6 TT)),(190,qaf_sp.toCall),(191,qbg_sp.toCall (v6 TT)),(192,qbs_sp.toCall),(193,qdf_sp.toCall (v6 TT))],0,[],v9,za3⟩
theorem ub2:v4 TT prog qn_C.E:=g9 (v7 wk7 (j9 137)) (g9 (q8 kd9) (g9 (q8 kd2) (g9 (q8 ku5) (g9 (u9 ws4 (j9 181)) (g9 (u9 wp6 (j9 182)) (g9 (u9 uh1 (j9 183)) (g9 (q8 ww4) (g9 (q8 wr4) (g9 (q8 wj5) (g9 (q8 wm5) (g9 (q8 wi4) (g9 (u9 ue8 (j9 189)) (g9 (q8 wi7) (g9 (u9 wo6 (j9 191)) (g9 (q8 wk6) (g9 (u9 wi8 (j9 193)) (q9)))))))))))))))))
def vl6:List (Pos×Cut):= []
noncomputable def uu9:DefP TT:=⟨3,31,[31,5,6,7,8,9],2,138,[(0,0),(1,0)],vr6,vl7⟩
noncomputable def qn (n:Nat) (x0:Int) (x1:Bool) (x2 x3:Span):Option ((Unit)×(Span×Unit)):=kh3 prog qn_C vl6 f105 (j5 f105) ⟨[],[],[],[],[]⟩ [.val (.int .u8),.val (.bool),.val (.user 0),.val (.user 0)] [] [.val (.user 0)] uu9 n (x0,x1,x2,x3,())
theorem ye9 (n:Nat) (x0 x1 x2 x3):qn n x0 x1 x2 x3=j7 (qar v5) fun y1=>if x0=(1:Int) then (j7 (qk v5 x2) fun y2=>q7 (!y2) (j7 (ql v5 x1) fun y3=>some ((),(y3,()))) (j7 (qk v5 x3) fun y4=>q7 (!y4) (j7 (ql v5 x1) fun y5=>some ((),(y5,()))) (j7 (qag v5 x1 x2 x3) fun y6=>j7 (qbc v5 y6) fun y7=>match y7.2 with| .inl z7=>(j7 (qat x1 z7.1.Lo z7.1.Hi) fun y8=>some ((),((⟨y8.2.1.1,y8.2.1.2.1⟩:Span),())))| .inr e7=>(j7 (qbz x1 (0:Int) (0:Int)) fun y9=>some ((),((⟨y9.2.1.1,y9.2.1.2.1⟩:Span),())))))) else (if x0=(2:Int) then (j7 (qk v5 x2) fun y10=>q7 (!y10) (j7 (ql v5 x1) fun y11=>some ((),(y11,()))) (j7 (qk v5 x3) fun y12=>q7 (!y12) (j7 (ql v5 x1) fun y13=>some ((),(y13,()))) (j7 (qag v5 x1 x2 x3) fun y14=>j7 (qbd v5 y14) fun y15=>match y15.2 with| .inl z15=>(j7 (qat x1 z15.1.Lo z15.1.Hi) fun y16=>some ((),((⟨y16.2.1.1,y16.2.1.2.1⟩:Span),())))| .inr e15=>(j7 (qbz x1 (0:Int) (0:Int)) fun y17=>some ((),((⟨y17.2.1.1,y17.2.1.2.1⟩:Span),())))))) else (if x0=(3:Int) then (j7 (qk v5 x2) fun y18=>q7 (!y18) (j7 (ql v5 x1) fun y19=>some ((),(y19,()))) (j7 (qk v5 x3) fun y20=>q7 (!y20) (j7 (ql v5 x1) fun y21=>some ((),(y21,()))) (j7 (qag v5 x1 x2 x3) fun y22=>j7 (qbe v5 y22) fun y23=>match y23.2 with| .inl z23=>(j7 (qat x1 z23.1.Lo z23.1.Hi) fun y24=>some ((),((⟨y24.2.1.1,y24.2.1.2.1⟩:Span),())))| .inr e23=>(j7 (qbz x1 (0:Int) (0:Int)) fun y25=>some ((),((⟨y25.2.1.1,y25.2.1.2.1⟩:Span),())))))) else (if x0=(4:Int) then (j7 (qk v5 x2) fun y26=>q7 (!y26) (j7 (ql v5 x1) fun y27=>some ((),(y27,()))) (j7 (qk v5 x3) fun y28=>q7 (!y28) (j7 (ql v5 x1) fun y29=>some ((),(y29,()))) (j7 (qag v5 x1 x2 x3) fun y30=>j7 (qbq v5 y30) fun y31=>j7 (qat x1 y31.Lo y31.Hi) fun y32=>some ((),((⟨y32.2.1.1,y32.2.1.2.1⟩:Span),()))))) else (if x0=(5:Int) then (j7 (qk v5 x2) fun y33=>q7 (!y33) (j7 (ql v5 x1) fun y34=>some ((),(y34,()))) (j7 (qk v5 x3) fun y35=>q7 (!y35) (j7 (ql v5 x1) fun y36=>some ((),(y36,()))) (j7 (qag v5 x1 x2 x3) fun y37=>j7 (qbr v5 y37) fun y38=>j7 (qat x1 y38.Lo y38.Hi) fun y39=>some ((),((⟨y39.2.1.1,y39.2.1.2.1⟩:Span),()))))) else (if x0=(6:Int) then (j7 (qk v5 x2) fun y40=>q7 (!y40) (j7 (ql v5 x1) fun y41=>some ((),(y41,()))) (j7 (qk v5 x3) fun y42=>q7 (!y42) (j7 (ql v5 x1) fun y43=>some ((),(y43,()))) (j7 (qag v5 x1 x2 x3) fun y44=>j7 (qbk v5 y44) fun y45=>j7 (qat x1 y45.Lo y45.Hi) fun y46=>some ((),((⟨y46.2.1.1,y46.2.1.2.1⟩:Span),()))))) else (if x0=(7:Int) then (j7 (qk v5 x2) fun y47=>q7 (!y47) (j7 (ql v5 x1) fun y48=>some ((),(y48,()))) (j7 (qk v5 x3) fun y49=>q7 (!y49) (j7 (ql v5 x1) fun y50=>some ((),(y50,()))) (j7 (qag v5 x1 x2 x3) fun y51=>j7 (qbl v5 y51) fun y52=>j7 (qat x1 y52.Lo y52.Hi) fun y53=>some ((),((⟨y53.2.1.1,y53.2.1.2.1⟩:Span),()))))) else (if x0=(8:Int) then (j7 (qk v5 x2) fun y54=>q7 (!y54) (j7 (ql v5 x1) fun y55=>some ((),(y55,()))) (j7 (qk v5 x3) fun y56=>q7 (!y56) (j7 (ql v5 x1) fun y57=>some ((),(y57,()))) (j7 (qag v5 x1 x2 x3) fun y58=>j7 (qbm v5 y58) fun y59=>j7 (qat x1 y59.Lo y59.Hi) fun y60=>some ((),((⟨y60.2.1.1,y60.2.1.2.1⟩:Span),()))))) else (if x0=(9:Int) then (j7 (qk v5 x2) fun y61=>q7 (!y61) (j7 (ql v5 x1) fun y62=>some ((),(y62,()))) (j7 (qk v5 x3) fun y63=>q7 (!y63) (j7 (ql v5 x1) fun y64=>some ((),(y64,()))) (j7 (qag v5 x1 x2 x3) fun y65=>j7 (qbf v5 y65) fun y66=>match y66.2 with| .inl z66=>(j7 (qat x1 z66.1.Lo z66.1.Hi) fun y67=>some ((),((⟨y67.2.1.1,y67.2.1.2.1⟩:Span),())))| .inr e66=>(j7 (qbz x1 (0:Int) (0:Int)) fun y68=>some ((),((⟨y68.2.1.1,y68.2.1.2.1⟩:Span),())))))) else (if x0=(10:Int) then (j7 (qk v5 x2) fun y69=>q7 (!y69) (j7 (ql v5 x1) fun y70=>some ((),(y70,()))) (j7 (qk v5 x3) fun y71=>q7 (!y71) (j7 (ql v5 x1) fun y72=>some ((),(y72,()))) (j7 (qag v5 x1 x2 x3) fun y73=>j7 (qaf v5 y73) fun y74=>j7 (qat x1 y74.Lo y74.Hi) fun y75=>some ((),((⟨y75.2.1.1,y75.2.1.2.1⟩:Span),()))))) else (if x0=(11:Int) then (j7 (qk v5 x2) fun y76=>q7 (!y76) (j7 (ql v5 x1) fun y77=>some ((),(y77,()))) (j7 (qk v5 x3) fun y78=>q7 (!y78) (j7 (ql v5 x1) fun y79=>some ((),(y79,()))) (j7 (qag v5 x1 x2 x3) fun y80=>j7 (qbg v5 y80) fun y81=>match y81.2 with| .inl z81=>(j7 (qat x1 z81.1.Lo z81.1.Hi) fun y82=>some ((),((⟨y82.2.1.1,y82.2.1.2.1⟩:Span),())))| .inr e81=>(j7 (qbz x1 (0:Int) (0:Int)) fun y83=>some ((),((⟨y83.2.1.1,y83.2.1.2.1⟩:Span),())))))) else (if x0=(12:Int) then (j7 (qk v5 x2) fun y84=>q7 (!y84) (j7 (ql v5 x1) fun y85=>some ((),(y85,()))) (j7 (qk v5 x3) fun y86=>q7 (!y86) (j7 (ql v5 x1) fun y87=>some ((),(y87,()))) (j7 (qag v5 x1 x2 x3) fun y88=>j7 (qbs v5 y88) fun y89=>j7 (qat x1 y89.Lo y89.Hi) fun y90=>some ((),((⟨y90.2.1.1,y90.2.1.2.1⟩:Span),()))))) else (if x0=(13:Int) then (j7 (qk v5 x2) fun y91=>q7 (!y91) (j7 (ql v5 x1) fun y92=>some ((),(y92,()))) (j7 (qk v5 x3) fun y93=>q7 (!y93) (j7 (ql v5 x1) fun y94=>some ((),(y94,()))) (j7 (qag v5 x1 x2 x3) fun y95=>j7 (qdf v5 y95) fun y96=>match y96.2 with| .inl z96=>(j7 (qat x1 z96.1.Lo z96.1.Hi) fun y97=>some ((),((⟨y97.2.1.1,y97.2.1.2.1⟩:Span),())))| .inr e96=>(j7 (qbz x1 (0:Int) (0:Int)) fun y98=>some ((),((⟨y98.2.1.1,y98.2.1.2.1⟩:Span),())))))) else (j7 (ql v5 x1) fun y99=>some ((),(y99,()))))))))))))))):=by kernel_rfl
noncomputable def qn_sp:GSpec TT:=⟨[.val (.int .u8),.val (.bool),.val (.user 0),.val (.user 0)],[],[.val (.user 0)],fun x=>qn v5 x.1 x.2.1 x.2.2.1 x.2.2.2.1⟩
theorem up9:GOk TT prog 105 qn_sp:=yo8 (C:=qn_C) (cuts:=vl6) (D:=uu9) (by kernel_rfl) ub2 func105 (show f105.body=some (j5 f105) by kernel_rfl) (by kernel_rfl) (by kernel_rfl) (by kernel_rfl) go5 gq5 fun x y h=>⟨v5,h⟩
noncomputable def qb_C:Ctx TT:=⟨za4,[(102,qw_sp.toCall),(103,qac_sp.toCall),(104,qbo_sp.toCall),(105,qn_sp.toCall (v6 TT))],0,[(20,1)],v9,za3⟩
theorem wi9:v4 TT prog qb_C.E:=g9 (q8 wf1) (g9 (q8 kz4) (g9 (q8 ug2) (g9 (v7 up9 (j9 105)) (q9))))
def qb0:List (Pos×Cut):= [([true],⟨[0,1,6,7,8],[],false,[],0,false⟩),([false,false,true],⟨[0,1,6,7,8,15],[],false,[],0,false⟩),([true,true,false,false,true],⟨[0,1,6,7,8,33],[],false,[],0,false⟩),([true,true,true,true,false,false,true],⟨[0,1,6,7,8,51],[],false,[],0,false⟩),([true,true,true,true],⟨[0,1,6,8,10,11,12,13,14],[],false,[],0,false⟩),([false,false,true,true,true,true,true],⟨[0,1,6,8,10,11,12,13,14,90],[],false,[],0,false⟩),([true,true,false,false,true,true,true,true,true],⟨[0,1,6,8,10,12,14,109],[],false,[],0,false⟩),([true,true,true,true,false,false,true,true,true,true,true],⟨[0,6,8,12,120],[],false,[],0,false⟩),([false,true,true,true,true,false,false,true,true,true,true,true],⟨[0,6,8,12,14,120],[],false,[],0,false⟩)]
noncomputable def qb (n:Nat) (x0:Int) (x1:Bool) (x2 x3:Known):Option (Known×Int):=zf7 TT prog qb_C qb0 f78 (j5 f78) ⟨[],[]⟩ [.val (.int .u8),.val (.bool),.val (.user 1),.val (.user 1)] [.val (.user 1),.val (.int .i64)] n (x0,x1,x2,x3)
noncomputable abbrev vd5:=qb9 TT prog qb_C qb0 f78 (j5 f78) ⟨[],[]⟩ [.val (.int .u8),.val (.bool),.val (.user 1),.val (.user 1)] [.val (.user 1),.val (.int .i64)]
noncomputable def vf2 (n:Nat) (s0:Int) (s1 s15:Bool) (b0_0 b0_1 b0_2 b1_0 b1_1 b1_2 b2_0 b2_1 b2_2:Int):Option (Known×Int):=vd5 n [false,false,true] ⟨[(0,cu8 s0),(1,cb s1),(6,.ptr 0 0),(7,.ptr 1 0),(8,.ptr 2 0),(15,cb s15)],[.blk 59 [cu8 b0_0,k7 b0_1,k7 b0_2],.blk 59 [cu8 b1_0,k7 b1_1,k7 b1_2],.blk 59 [cu8 b2_0,k7 b2_1,k7 b2_2]]⟩
noncomputable def qg1 (n:Nat) (s0:Int) (s1 s33:Bool) (b0_0 b0_1 b0_2 b1_0 b1_1 b1_2 b2_0 b2_1 b2_2:Int):Option (Known×Int):=vd5 n [true,true,false,false,true] ⟨[(0,cu8 s0),(1,cb s1),(6,.ptr 0 0),(7,.ptr 1 0),(8,.ptr 2 0),(33,cb s33)],[.blk 59 [cu8 b0_0,k7 b0_1,k7 b0_2],.blk 59 [cu8 b1_0,k7 b1_1,k7 b1_2],.blk 59 [cu8 b2_0,k7 b2_1,k7 b2_2]]⟩
noncomputable def ge9 (n:Nat) (s0:Int) (s1 s51:Bool) (b0_0 b0_1 b0_2 b1_0 b1_1 b1_2 b2_0 b2_1 b2_2:Int):Option (Known×Int):=vd5 n [true,true,true,true,false,false,true] ⟨[(0,cu8 s0),(1,cb s1),(6,.ptr 0 0),(7,.ptr 1 0),(8,.ptr 2 0),(51,cb s51)],[.blk 59 [cu8 b0_0,k7 b0_1,k7 b0_2],.blk 59 [cu8 b1_0,k7 b1_1,k7 b1_2],.blk 59 [cu8 b2_0,k7 b2_1,k7 b2_2]]⟩
noncomputable def vd0 (n:Nat) (s0:Int) (s1:Bool) (b0_0 b0_1 b0_2 b1_0 b1_1 b1_2 b2_0 b2_1 b2_2:Int):Option (Known×Int):=vd5 n [true] ⟨[(0,cu8 s0),(1,cb s1),(6,.ptr 0 0),(7,.ptr 1 0),(8,.ptr 2 0)],[.blk 59 [cu8 b0_0,k7 b0_1,k7 b0_2],.blk 59 [cu8 b1_0,k7 b1_1,k7 b1_2],.blk 59 [cu8 b2_0,k7 b2_1,k7 b2_2]]⟩
noncomputable def qf0 (n:Nat) (s0:Int) (s1 s11 s13 s14:Bool) (b0_0 b0_1 b0_2 b1_0 b1_1 b1_2 b2_0 b2_1 b3_0 b3_1:Int):Option (Known×Int):=vd5 n [true,true,true,true] ⟨[(0,cu8 s0),(1,cb s1),(6,.ptr 0 0),(8,.ptr 1 0),(10,.ptr 2 0),(11,cb s11),(12,.ptr 3 0),(13,cb s13),(14,cb s14)],[.blk 59 [cu8 b0_0,k7 b0_1,k7 b0_2],.blk 59 [cu8 b1_0,k7 b1_1,k7 b1_2],.blk 57 [k7 b2_0,k7 b2_1],.blk 57 [k7 b3_0,k7 b3_1]]⟩
noncomputable def qf1 (n:Nat) (s0:Int) (s1 s11 s13 s14 s90:Bool) (b0_0 b0_1 b0_2 b1_0 b1_1 b1_2 b2_0 b2_1 b3_0 b3_1:Int):Option (Known×Int):=vd5 n [false,false,true,true,true,true,true] ⟨[(0,cu8 s0),(1,cb s1),(6,.ptr 0 0),(8,.ptr 1 0),(10,.ptr 2 0),(11,cb s11),(12,.ptr 3 0),(13,cb s13),(14,cb s14),(90,cb s90)],[.blk 59 [cu8 b0_0,k7 b0_1,k7 b0_2],.blk 59 [cu8 b1_0,k7 b1_1,k7 b1_2],.blk 57 [k7 b2_0,k7 b2_1],.blk 57 [k7 b3_0,k7 b3_1]]⟩
noncomputable def gc6 (n:Nat) (s0:Int) (s1 s14 s109:Bool) (b0_0 b0_1 b0_2 b1_0 b1_1 b1_2 b2_0 b2_1 b3_0 b3_1:Int):Option (Known×Int):=vd5 n [true,true,false,false,true,true,true,true,true] ⟨[(0,cu8 s0),(1,cb s1),(6,.ptr 0 0),(8,.ptr 1 0),(10,.ptr 2 0),(12,.ptr 3 0),(14,cb s14),(109,cb s109)],[.blk 59 [cu8 b0_0,k7 b0_1,k7 b0_2],.blk 59 [cu8 b1_0,k7 b1_1,k7 b1_2],.blk 57 [k7 b2_0,k7 b2_1],.blk 57 [k7 b3_0,k7 b3_1]]⟩
noncomputable def gc7 (n:Nat) (s0:Int) (s14 s120:Bool) (b0_0 b0_1 b0_2 b1_0 b1_1 b1_2 b2_0 b2_1:Int):Option (Known×Int):=vd5 n [false,true,true,true,true,false,false,true,true,true,true,true] ⟨[(0,cu8 s0),(6,.ptr 0 0),(8,.ptr 1 0),(12,.ptr 2 0),(14,cb s14),(120,cb s120)],[.blk 59 [cu8 b0_0,k7 b0_1,k7 b0_2],.blk 59 [cu8 b1_0,k7 b1_1,k7 b1_2],.blk 57 [k7 b2_0,k7 b2_1]]⟩
noncomputable def vd9 (n:Nat) (s0:Int) (s120:Bool) (b0_0 b0_1 b0_2 b1_0 b1_1 b1_2 b2_0 b2_1:Int):Option (Known×Int):=vd5 n [true,true,true,true,false,false,true,true,true,true,true] ⟨[(0,cu8 s0),(6,.ptr 0 0),(8,.ptr 1 0),(12,.ptr 2 0),(120,cb s120)],[.blk 59 [cu8 b0_0,k7 b0_1,k7 b0_2],.blk 59 [cu8 b1_0,k7 b1_1,k7 b1_2],.blk 57 [k7 b2_0,k7 b2_1]]⟩
theorem uq5 (n:Nat) (x0 x1 x2 x3):qb n x0 x1 x2 x3=q7 (decide (x0<(1:Int))) (vf2 n x0 x1 true x2.Kind x2.In_Lo x2.In_Hi x3.Kind x3.In_Lo x3.In_Hi (0:Int) (0:Int) (0:Int)) (q7 (decide (x0>(13:Int))) (vf2 n x0 x1 true x2.Kind x2.In_Lo x2.In_Hi x3.Kind x3.In_Lo x3.In_Hi (0:Int) (0:Int) (0:Int)) (j7 (qw v5 x2) fun y1=>q7 (!y1) (vf2 n x0 x1 true x2.Kind x2.In_Lo x2.In_Hi x3.Kind x3.In_Lo x3.In_Hi (0:Int) (0:Int) (0:Int)) (j7 (qw v5 x3) fun y2=>vf2 n x0 x1 (!y2) x2.Kind x2.In_Lo x2.In_Hi x3.Kind x3.In_Lo x3.In_Hi (0:Int) (0:Int) (0:Int)))):=by kernel_rfl
theorem ks3 (n:Nat) (s0 s1 s15 b0_0 b0_1 b0_2 b1_0 b1_1 b1_2 b2_0 b2_1 b2_2):vf2 (n+1) s0 s1 s15 b0_0 b0_1 b0_2 b1_0 b1_1 b1_2 b2_0 b2_1 b2_2=q7 s15 (some ((⟨(0:Int),(0:Int),(0:Int)⟩:Known),(2:Int))) (q7 (s0 != (12:Int)) (q7 (b0_0==(0:Int)) (qg1 n s0 s1 true b0_0 b0_1 b0_2 b1_0 b1_1 b1_2 b2_0 b2_1 b2_2) (q7 (s0 != (13:Int)) (qg1 n s0 s1 (b1_0==(0:Int)) b0_0 b0_1 b0_2 b1_0 b1_1 b1_2 b2_0 b2_1 b2_2) (qg1 n s0 s1 false b0_0 b0_1 b0_2 b1_0 b1_1 b1_2 b2_0 b2_1 b2_2))) (q7 (s0 != (13:Int)) (qg1 n s0 s1 (b1_0==(0:Int)) b0_0 b0_1 b0_2 b1_0 b1_1 b1_2 b2_0 b2_1 b2_2) (qg1 n s0 s1 false b0_0 b0_1 b0_2 b1_0 b1_1 b1_2 b2_0 b2_1 b2_2))):=by kernel_rfl
theorem ks4 (n:Nat) (s0 s1 s33 b0_0 b0_1 b0_2 b1_0 b1_1 b1_2 b2_0 b2_1 b2_2):qg1 (n+1) s0 s1 s33 b0_0 b0_1 b0_2 b1_0 b1_1 b1_2 b2_0 b2_1 b2_2=q7 s33 (some ((⟨(0:Int),(0:Int),(0:Int)⟩:Known),(110:Int))) (q7 (s0==(12:Int)) (ge9 n s0 s1 (!s1) b0_0 b0_1 b0_2 b1_0 b1_1 b1_2 b2_0 b2_1 b2_2) (ge9 n s0 s1 false b0_0 b0_1 b0_2 b1_0 b1_1 b1_2 b2_0 b2_1 b2_2)):=by kernel_rfl
theorem ks2 (n:Nat) (s0 s1 s51 b0_0 b0_1 b0_2 b1_0 b1_1 b1_2 b2_0 b2_1 b2_2):ge9 (n+1) s0 s1 s51 b0_0 b0_1 b0_2 b1_0 b1_1 b1_2 b2_0 b2_1 b2_2=q7 s51 (some ((⟨b1_0,b1_1,b1_2⟩:Known),(0:Int))) (q7 (s0==(12:Int)) (vd0 n s0 s1 b1_0 b1_1 b1_2 b1_0 b1_1 b1_2 b2_0 b2_1 b2_2) (q7 (s0==(13:Int)) (vd0 n s0 s1 b0_0 b0_1 b0_2 b0_0 b0_1 b0_2 b2_0 b2_1 b2_2) (vd0 n s0 s1 b0_0 b0_1 b0_2 b1_0 b1_1 b1_2 b2_0 b2_1 b2_2))):=by kernel_rfl
theorem km4 (n:Nat) (s0 s1 b0_0 b0_1 b0_2 b1_0 b1_1 b1_2 b2_0 b2_1 b2_2):vd0 (n+1) s0 s1 b0_0 b0_1 b0_2 b1_0 b1_1 b1_2 b2_0 b2_1 b2_2=j7 (qac v5 (⟨b0_0,b0_1,b0_2⟩:Known)) fun y1=>j7 (qac v5 (⟨b1_0,b1_1,b1_2⟩:Known)) fun y2=>q7 (s0==(1:Int)) (q7 (!s1) (qf0 n s0 s1 y1.2 y2.2 y2.2 b0_0 b0_1 b0_2 b2_0 b2_1 b2_2 y1.1.Lo y1.1.Hi y2.1.Lo y2.1.Hi) (qf0 n s0 s1 y1.2 y2.2 false b0_0 b0_1 b0_2 b2_0 b2_1 b2_2 y1.1.Lo y1.1.Hi y2.1.Lo y2.1.Hi)) (q7 (s0==(2:Int)) (q7 (!s1) (qf0 n s0 s1 y1.2 y2.2 y2.2 b0_0 b0_1 b0_2 b2_0 b2_1 b2_2 y1.1.Lo y1.1.Hi y2.1.Lo y2.1.Hi) (qf0 n s0 s1 y1.2 y2.2 false b0_0 b0_1 b0_2 b2_0 b2_1 b2_2 y1.1.Lo y1.1.Hi y2.1.Lo y2.1.Hi)) (qf0 n s0 s1 y1.2 y2.2 false b0_0 b0_1 b0_2 b2_0 b2_1 b2_2 y1.1.Lo y1.1.Hi y2.1.Lo y2.1.Hi)):=by kernel_rfl
theorem kn0 (n:Nat) (s0 s1 s11 s13 s14 b0_0 b0_1 b0_2 b1_0 b1_1 b1_2 b2_0 b2_1 b3_0 b3_1):qf0 (n+1) s0 s1 s11 s13 s14 b0_0 b0_1 b0_2 b1_0 b1_1 b1_2 b2_0 b2_1 b3_0 b3_1=q7 s11 (q7 s13 (q7 (s0==(4:Int)) (j7 (qbo v5 (⟨b3_0,b3_1⟩:Span) s1) fun y1=>qf1 n s0 s1 s11 s13 s14 y1 b0_0 b0_1 b0_2 b1_0 b1_1 b1_2 b2_0 b2_1 b3_0 b3_1) (q7 (s0==(5:Int)) (j7 (qbo v5 (⟨b3_0,b3_1⟩:Span) s1) fun y2=>qf1 n s0 s1 s11 s13 s14 y2 b0_0 b0_1 b0_2 b1_0 b1_1 b1_2 b2_0 b2_1 b3_0 b3_1) (qf1 n s0 s1 s11 s13 s14 false b0_0 b0_1 b0_2 b1_0 b1_1 b1_2 b2_0 b2_1 b3_0 b3_1))) (qf1 n s0 s1 s11 s13 s14 false b0_0 b0_1 b0_2 b1_0 b1_1 b1_2 b2_0 b2_1 b3_0 b3_1)) (qf1 n s0 s1 s11 s13 s14 false b0_0 b0_1 b0_2 b1_0 b1_1 b1_2 b2_0 b2_1 b3_0 b3_1):=by kernel_rfl
theorem kq7 (n:Nat) (s0 s1 s11 s13 s14 s90 b0_0 b0_1 b0_2 b1_0 b1_1 b1_2 b2_0 b2_1 b3_0 b3_1):qf1 (n+1) s0 s1 s11 s13 s14 s90 b0_0 b0_1 b0_2 b1_0 b1_1 b1_2 b2_0 b2_1 b3_0 b3_1=q7 s90 (some ((⟨(0:Int),(0:Int),(0:Int)⟩:Known),(113:Int))) (q7 s11 (gc6 n s0 s1 s14 s13 b0_0 b0_1 b0_2 b1_0 b1_1 b1_2 b2_0 b2_1 b3_0 b3_1) (gc6 n s0 s1 s14 false b0_0 b0_1 b0_2 b1_0 b1_1 b1_2 b2_0 b2_1 b3_0 b3_1)):=by kernel_rfl
theorem kq8 (n:Nat) (s0 s1 s14 s109 b0_0 b0_1 b0_2 b1_0 b1_1 b1_2 b2_0 b2_1 b3_0 b3_1):gc6 (n+1) s0 s1 s14 s109 b0_0 b0_1 b0_2 b1_0 b1_1 b1_2 b2_0 b2_1 b3_0 b3_1=q7 s109 (j7 (qn v5 s0 s1 (⟨b2_0,b2_1⟩:Span) (⟨b3_0,b3_1⟩:Span)) fun y1=>some ((⟨(1:Int),y1.2.1.Lo,y1.2.1.Hi⟩:Known),(0:Int))) (q7 s14 (gc7 n s0 s14 (b0_0==(2:Int)) b0_0 b0_1 b0_2 b1_0 b1_1 b1_2 b3_0 b3_1) (gc7 n s0 s14 false b0_0 b0_1 b0_2 b1_0 b1_1 b1_2 b3_0 b3_1)):=by kernel_rfl
theorem kp9 (n:Nat) (s0 s14 s120 b0_0 b0_1 b0_2 b1_0 b1_1 b1_2 b2_0 b2_1):gc7 (n+1) s0 s14 s120 b0_0 b0_1 b0_2 b1_0 b1_1 b1_2 b2_0 b2_1=q7 s120 (vd9 n s0 s120 b0_0 b0_1 b0_2 b1_0 b1_1 b1_2 b2_0 b2_1) (q7 s14 (q7 (b0_0==(3:Int)) (vd9 n s0 (b2_0==b2_1) b0_0 b0_1 b0_2 b1_0 b1_1 b1_2 b2_0 b2_1) (vd9 n s0 false b0_0 b0_1 b0_2 b1_0 b1_1 b1_2 b2_0 b2_1)) (vd9 n s0 false b0_0 b0_1 b0_2 b1_0 b1_1 b1_2 b2_0 b2_1)):=by kernel_rfl
theorem ki8 (n:Nat) (s0 s120 b0_0 b0_1 b0_2 b1_0 b1_1 b1_2 b2_0 b2_1):vd9 (n+1) s0 s120 b0_0 b0_1 b0_2 b1_0 b1_1 b1_2 b2_0 b2_1=q7 s120 (j7 (qn v5 s0 false (⟨b0_1,b0_2⟩:Span) (⟨b2_0,b2_1⟩:Span)) fun y1=>some ((⟨b0_0,y1.2.1.Lo,y1.2.1.Hi⟩:Known),(0:Int))) (some ((⟨(0:Int),(0:Int),(0:Int)⟩:Known),(114:Int))):=by kernel_rfl
noncomputable def qb_sp:FnSpec TT:=⟨[.val (.int .u8),.val (.bool),.val (.user 1),.val (.user 1)],[.val (.user 1),.val (.int .i64)],fun x=>qb v5 x.1 x.2.1 x.2.2.1 x.2.2.2⟩
theorem ul4:ze7 TT prog 78 qb_sp:=u0 (C:=qb_C) (by kernel_rfl) wi9 func78 (show f78.body=some (j5 f78) by kernel_rfl) (by kernel_rfl) (by kernel_rfl) (cuts:=qb0) fun x y h=>⟨v5,h⟩
end Go.X
