import Derived.Test.YthhhfnfgmijggaaGreatIb
namespace Go.X
open Go.RowKit Go.V Go.Proofs Tryz
noncomputable def qde_C:Ctx TT:=⟨za5,[],0,[],k9,za6⟩
theorem gl7:v7 TT prog qde_C.E:=v5
def qz5:List (Pos×Cut):= []
noncomputable def qde (n:Nat) (x0:Span) (x1:Int):Option (Bool):=zg2 TT prog qde_C qz5 f134 (j5 f134) ⟨[],[]⟩ [.val (.user 0),.val (.int .u64)] [.val (.bool)] n (x0,x1)
theorem ug1 (n:Nat) (x0 x1):qde n x0 x1=q7 (decide (x0.Lo<=x1)) (some (decide (x1<=x0.Hi))) (some false):=by kernel_rfl
noncomputable def qde_sp:FnSpec TT:=⟨[.val (.user 0),.val (.int .u64)],[.val (.bool)],fun x=>qde v9 x.1 x.2⟩
theorem wo5:ze8 TT prog 134 qde_sp:=za0 (C:=qde_C) (by kernel_rfl) gl7 func134 (show f134.body=some (j5 f134) by kernel_rfl) (by kernel_rfl) (by kernel_rfl) (cuts:=qz5) fun x y h=>⟨v9,h⟩
noncomputable def ql_C:Ctx TT:=⟨za5,[],0,[],k9,za6⟩
theorem wt9:v7 TT prog ql_C.E:=v5
def vs9:List (Pos×Cut):= []
noncomputable def ql (n:Nat) (x0:Bool):Option (Span):=zg2 TT prog ql_C vs9 f136 (j5 f136) ⟨[],[]⟩ [.val (.bool)] [.val (.user 0)] n x0
theorem ut7 (n:Nat) (x0):ql n x0=q7 x0 (some (⟨(0:Int),(4294967295:Int)⟩:Span)) (some (⟨(0:Int),(18446744073709551615:Int)⟩:Span)):=by kernel_rfl
noncomputable def ql_sp:FnSpec TT:=⟨[.val (.bool)],[.val (.user 0)],fun x=>ql v9 x⟩
theorem kf4:ze8 TT prog 136 ql_sp:=za0 (C:=ql_C) (by kernel_rfl) wt9 func136 (show f136.body=some (j5 f136) by kernel_rfl) (by kernel_rfl) (by kernel_rfl) (cuts:=vs9) fun x y h=>⟨v9,h⟩
noncomputable def qdf_C:Ctx TT:=⟨za5,[],0,[],k9,za6⟩
theorem gz0:v7 TT prog qdf_C.E:=v5
def qz3:List (Pos×Cut):= []
noncomputable def qdf (n:Nat) (x0 x1:Span):Option (Bool):=zg2 TT prog qdf_C qz3 f135 (j5 f135) ⟨[],[]⟩ [.val (.user 0),.val (.user 0)] [.val (.bool)] n (x0,x1)
theorem ua0 (n:Nat) (x0 x1):qdf n x0 x1=q7 (decide (x1.Lo<=x0.Lo)) (some (decide (x0.Hi<=x1.Hi))) (some false):=by kernel_rfl
noncomputable def qdf_sp:FnSpec TT:=⟨[.val (.user 0),.val (.user 0)],[.val (.bool)],fun x=>qdf v9 x.1 x.2⟩
theorem uf1:ze8 TT prog 135 qdf_sp:=za0 (C:=qdf_C) (by kernel_rfl) gz0 func135 (show f135.body=some (j5 f135) by kernel_rfl) (by kernel_rfl) (by kernel_rfl) (cuts:=qz3) fun x y h=>⟨v9,h⟩
noncomputable def qbp_C:Ctx TT:=⟨za5,[(134,qde_sp.toCall),(136,ql_sp.toCall),(135,qdf_sp.toCall)],0,[],k9,za6⟩
theorem wc7:v7 TT prog qbp_C.E:=w6 (q8 wo5) (w6 (q8 kf4) (w6 (q8 uf1) (v5)))
def qx9:List (Pos×Cut):= []
noncomputable def qbp (n:Nat) (x0:Span) (x1:Bool):Option (Bool):=zg2 TT prog qbp_C qx9 f104 (j5 f104) ⟨[],[]⟩ [.val (.user 0),.val (.bool)] [.val (.bool)] n (x0,x1)
theorem uc0 (n:Nat) (x0 x1):qbp n x0 x1=j7 (qde v9 x0 (0:Int)) fun y1=>q7 y1 (some true) (q7 x1 (j7 (ql v9 true) fun y2=>j7 (qdf v9 x0 y2) fun y3=>some (!y3)) (some false)):=by kernel_rfl
noncomputable def qbp_sp:FnSpec TT:=⟨[.val (.user 0),.val (.bool)],[.val (.bool)],fun x=>qbp v9 x.1 x.2⟩
theorem wq3:ze8 TT prog 104 qbp_sp:=za0 (C:=qbp_C) (by kernel_rfl) wc7 func104 (show f104.body=some (j5 f104) by kernel_rfl) (by kernel_rfl) (by kernel_rfl) (cuts:=qx9) fun x y h=>⟨v9,h⟩
noncomputable def qas_C:Ctx TT:=⟨za5,[],0,[],k9,za6⟩
theorem gj6:v7 TT prog qas_C.E:=v5
def qt1:List (Pos×Cut):= []
noncomputable def qas (n:Nat):Option ((Unit)×((((Unit)×(Unit))×((Unit)×(Unit))×((Unit)×(Unit))×((Unit)×(Unit))×((Unit)×(Unit))×((Unit)×(Unit))×((Unit)×(Unit))×((Unit)×(Unit))×((Unit)×(Unit))×((Unit)×(Unit))×((Unit)×(Unit))×((Unit)×(Unit))×((Unit)×(Unit))×Unit)×Unit)):=zh5 TT prog qas_C qt1 f137 (j5 f137) ⟨[],[],[],[],[]⟩ [] [] [.mp .u8 [1,2,3,4,5,6,7,8,9,10,11,12,13] [.fn 181 [] [],.fn 182 [] [],.fn 183 [] [],.fn 184 [] [],.fn 185 [] [],.fn 186 [] [],.fn 187 [] [],.fn 188 [] [],.fn 189 [] [],.fn 190 [] [],.fn 191 [] [],.fn 192 [] [],.fn 193 [] []]] n ()
theorem zp5 (n:Nat):qas n=some ((),((((),()),((),()),((),()),((),()),((),()),((),()),((),()),((),()),((),()),((),()),((),()),((),()),((),()),()),())):=by kernel_rfl
noncomputable def qas_sp:GSpec TT:=⟨[],[],[.mp .u8 [1,2,3,4,5,6,7,8,9,10,11,12,13] [.fn 181 [] [],.fn 182 [] [],.fn 183 [] [],.fn 184 [] [],.fn 185 [] [],.fn 186 [] [],.fn 187 [] [],.fn 188 [] [],.fn 189 [] [],.fn 190 [] [],.fn 191 [] [],.fn 192 [] [],.fn 193 [] []]],fun _=>qas v9⟩
theorem wr7:GOk TT prog 137 qas_sp:=za9 (C:=qas_C) (cuts:=qt1) (by kernel_rfl) gj6 func137 (show f137.body=some (j5 f137) by kernel_rfl) (by kernel_rfl) (by kernel_rfl) (by kernel_rfl) fun x y h=>⟨v9,h⟩
noncomputable def qf_C:Ctx TT:=⟨za5,[(136,ql_sp.toCall)],0,[],k9,za6⟩
theorem wq5:v7 TT prog qf_C.E:=w6 (q8 kf4) (v5)
def vp3:List (Pos×Cut):= []
noncomputable def qf (n:Nat) (x0:Span) (x1:Bool):Option (Span):=zg2 TT prog qf_C vp3 f139 (j5 f139) ⟨[],[]⟩ [.val (.user 0),.val (.bool)] [.val (.user 0)] n (x0,x1)
theorem uv4 (n:Nat) (x0 x1):qf n x0 x1=q7 (!x1) (some x0) (q7 ((zc0 .u64 x0.Lo (32:Int)) != (zc0 .u64 x0.Hi (32:Int))) (j7 (ql v9 true) fun y1=>some y1) (some (⟨zb1 .u64 x0.Lo (4294967295:Int),zb1 .u64 x0.Hi (4294967295:Int)⟩:Span))):=by kernel_rfl
noncomputable def qf_sp:FnSpec TT:=⟨[.val (.user 0),.val (.bool)],[.val (.user 0)],fun x=>qf v9 x.1 x.2⟩
theorem ut2:ze8 TT prog 139 qf_sp:=za0 (C:=qf_C) (by kernel_rfl) wq5 func139 (show f139.body=some (j5 f139) by kernel_rfl) (by kernel_rfl) (by kernel_rfl) (cuts:=vp3) fun x y h=>⟨v9,h⟩
noncomputable def qag_C:Ctx TT:=⟨za5,[(139,qf_sp.toCall)],0,[(1,1)],k9,za6⟩
theorem gr2:v7 TT prog qag_C.E:=w6 (q8 ut2) (v5)
def va5:List (Pos×Cut):= []
noncomputable def qag (n:Nat) (x0:Bool) (x1 x2:Span):Option (Work):=zg2 TT prog qag_C va5 f108 (j5 f108) ⟨[],[]⟩ [.val (.bool),.val (.user 0),.val (.user 0)] [.val (.user 6)] n (x0,x1,x2)
theorem uj7 (n:Nat) (x0 x1 x2):qag n x0 x1 x2=j7 (qf v9 x1 x0) fun y1=>j7 (qf v9 x2 x0) fun y2=>q7 x0 (some (⟨y1.Lo,y1.Hi,y2.Lo,y2.Hi,x0,(4294967295:Int),(32:Int)⟩:Work)) (some (⟨y1.Lo,y1.Hi,y2.Lo,y2.Hi,x0,(18446744073709551615:Int),(64:Int)⟩:Work)):=by kernel_rfl
noncomputable def qag_sp:FnSpec TT:=⟨[.val (.bool),.val (.user 0),.val (.user 0)],[.val (.user 6)],fun x=>qag v9 x.1 x.2.1 x.2.2⟩
theorem kw8:ze8 TT prog 108 qag_sp:=za0 (C:=qag_C) (by kernel_rfl) gr2 func108 (show f108.body=some (j5 f108) by kernel_rfl) (by kernel_rfl) (by kernel_rfl) (cuts:=va5) fun x y h=>⟨v9,h⟩
noncomputable def qh_C:Ctx TT:=⟨za5,[],0,[],k9,za6⟩
theorem uk4:v7 TT prog qh_C.E:=v5
def vn7:List (Pos×Cut):= []
noncomputable def qh (n:Nat) (x0:Bool):Option ((Unit)×((Unit)⊕(Unit×Unit))):=zz4 TT prog qh_C vn7 f194 (j5 f194) ⟨[],[],[],[],[]⟩ [.val (.bool)] [] [] (.ifc 163 (.agg [])) n (x0,())
theorem uo5 (n:Nat) (x0):qh n x0=q7 (!x0) (some ((),.inr ((),()))) (some ((),.inl ())):=by kernel_rfl
noncomputable def qh_sp:PSpec TT:=⟨[.val (.bool)],[],[],.ifc 163 (.agg []),fun x=>qh v9 x.1⟩
theorem yu1:POk TT prog 194 qh_sp:=zf7 (C:=qh_C) (cuts:=vn7) (by kernel_rfl) uk4 func194 (show f194.body=some (j5 f194) by kernel_rfl) (by kernel_rfl) (by kernel_rfl) (by kernel_rfl) fun x y h=>⟨v9,h⟩
noncomputable def qat_C:Ctx TT:=⟨za5,[],0,[],k9,za6⟩
theorem gu8:v7 TT prog qat_C.E:=v5
def vb8:List (Pos×Cut):= []
noncomputable def qat (n:Nat) (x0:Work) (x1 x2:Int):Option (Span):=zg2 TT prog qat_C vb8 f202 (j5 f202) ⟨[],[]⟩ [.val (.user 6),.val (.int .u64),.val (.int .u64)] [.val (.user 0)] n (x0,x1,x2)
theorem uc7 (n:Nat) (x0 x1 x2):qat n x0 x1 x2=some (⟨zb1 .u64 x1 x0.most,zb1 .u64 x2 x0.most⟩:Span):=by kernel_rfl
noncomputable def qat_sp:FnSpec TT:=⟨[.val (.user 6),.val (.int .u64),.val (.int .u64)],[.val (.user 0)],fun x=>qat v9 x.1 x.2.1 x.2.2⟩
theorem vm4:ze8 TT prog 202 qat_sp:=za0 (C:=qat_C) (by kernel_rfl) gu8 func202 (show f202.body=some (j5 f202) by kernel_rfl) (by kernel_rfl) (by kernel_rfl) (cuts:=vb8) fun x y h=>⟨v9,h⟩
noncomputable def qbd_C:Ctx TT:=⟨za5,[(194,qh_sp.toCall (k7 TT)),(202,qat_sp.toCall)],0,[],k9,za6⟩
theorem go7:v7 TT prog qbd_C.E:=w6 (za1 yu1 (j9 194)) (w6 (q8 vm4) (v5))
def jo9:List (Pos×Cut):= [([true],⟨[1,2],[],false,[],0,false⟩)]
noncomputable def qbd (n:Nat) (x0:Work):Option ((Unit)×((Span×Unit)⊕(Unit×Unit))):=zz4 TT prog qbd_C jo9 f181 (j5 f181) ⟨[],[],[],[],[]⟩ [.val (.user 6)] [] [.val (.user 0)] (.ifc 163 (.agg [])) n (x0,())
noncomputable abbrev uw5:=yr2 TT prog qbd_C jo9 f181 (j5 f181) ⟨[],[],[],[],[]⟩ [] [.val (.user 0)] (.ifc 163 (.agg []))
noncomputable def vk6 (n:Nat) (b0_0 b0_1 b0_2 b0_3:Int) (b0_4:Bool) (b0_5 b0_6 b1_0 b1_1:Int):Option ((Unit)×((Span×Unit)⊕(Unit×Unit))):=uw5 n [true] ⟨[(1,.ptr 0 0),(2,.ptr 1 0)],[.blk 166 [w3 b0_0,w3 b0_1,w3 b0_2,w3 b0_3,cb b0_4,w3 b0_5,w3 b0_6],.blk 57 [w3 b1_0,w3 b1_1]]⟩
theorem ua7 (n:Nat) (x0):qbd n x0=q7 (decide (x0.b_Hi<=(IntKind.u64.wrap (x0.most-x0.a_Hi)))) (j7 (qh v9 true) fun y1=>match y1.2 with| .inl z1=>(vk6 n x0.a_Lo x0.a_Hi x0.b_Lo x0.b_Hi x0.narrow x0.most x0.size (0:Int) (0:Int))| .inr e1=>(some ((),.inr ((),())))) (j7 (qh v9 (decide (x0.b_Lo>(IntKind.u64.wrap (x0.most-x0.a_Lo))))) fun y2=>match y2.2 with| .inl z2=>(vk6 n x0.a_Lo x0.a_Hi x0.b_Lo x0.b_Hi x0.narrow x0.most x0.size (0:Int) (0:Int))| .inr e2=>(some ((),.inr ((),())))):=by kernel_rfl
theorem vx0 (n:Nat) (b0_0 b0_1 b0_2 b0_3 b0_4 b0_5 b0_6 b1_0 b1_1):vk6 (n+1) b0_0 b0_1 b0_2 b0_3 b0_4 b0_5 b0_6 b1_0 b1_1=j7 (qat v9 (⟨b0_0,b0_1,b0_2,b0_3,b0_4,b0_5,b0_6⟩:Work) (IntKind.u64.wrap (b0_0+b0_2)) (IntKind.u64.wrap (b0_1+b0_3))) fun y1=>some ((),.inl (y1,())):=by kernel_rfl
noncomputable def qbd_sp:PSpec TT:=⟨[.val (.user 6)],[],[.val (.user 0)],.ifc 163 (.agg []),fun x=>qbd v9 x.1⟩
theorem wx1:POk TT prog 181 qbd_sp:=zf7 (C:=qbd_C) (cuts:=jo9) (by kernel_rfl) go7 func181 (show f181.body=some (j5 f181) by kernel_rfl) (by kernel_rfl) (by kernel_rfl) (by kernel_rfl) fun x y h=>⟨v9,h⟩
noncomputable def qau_C:Ctx TT:=⟨za5,[],2,[],k9,za6⟩
theorem wb4:v7 TT prog qau_C.E:=v5
noncomputable def qau (x0:Bool) (x1 x2:Int):Option ((Bool×Unit)×(Int×Int×Unit)×Unit):=yl6 prog qau_C f138 (j5 f138) [.ptr 0 4 [.val (.bool)],.ptr 0 57 [.val (.int .u64),.val (.int .u64)]] (.rw 1) [.blk 4 [.val (.bool)],.blk 57 [.val (.int .u64),.val (.int .u64)]] ((x0,()),(x1,x2,()),(),())
theorem ge1 (x0:Bool) (x1 x2):qau x0 x1 x2=some ((x0,()),(x1,x2,()),()):=by kernel_rfl
noncomputable def vp1:DSpec TT:=⟨[.ptr 0 4 [.val (.bool)],.ptr 0 57 [.val (.int .u64),.val (.int .u64)]],.rw 1,[.blk 4 [.val (.bool)],.blk 57 [.val (.int .u64),.val (.int .u64)]],fun x=>qau x.1.1 x.2.1.1 x.2.1.2.1⟩
theorem gv1:DOk TT prog 138 vp1:=yd9 (C:=qau_C) (by kernel_rfl) wb4 func138 (show f138.body=some (j5 f138) by kernel_rfl) (by kernel_rfl) (by kernel_rfl) (by kernel_rfl) (by kernel_rfl) fun x y h=>h
noncomputable def qca_C:Ctx TT:=⟨za5,[(136,ql_sp.toCall)],2,[],k9,za6⟩
theorem gu4:v7 TT prog qca_C.E:=w6 (q8 kf4) (v5)
noncomputable def qca (x0:Bool) (x1 x2:Int):Option ((Bool×Unit)×(Int×Int×Unit)×Unit):=yl6 prog qca_C f138 (j5 f138) [.ptr 0 4 [.val (.bool)],.ptr 0 57 [.val (.int .u64),.val (.int .u64)]] (.ifc 163 (.agg [])) [.blk 4 [.val (.bool)],.blk 57 [.val (.int .u64),.val (.int .u64)]] ((x0,()),(x1,x2,()),(),())
theorem wy0 (x0:Bool) (x1 x2):qca x0 x1 x2=j7 (ql v9 x0) fun y1=>some ((x0,()),(y1.Lo,y1.Hi,()),()):=by kernel_rfl
noncomputable def vt2:DSpec TT:=⟨[.ptr 0 4 [.val (.bool)],.ptr 0 57 [.val (.int .u64),.val (.int .u64)]],.ifc 163 (.agg []),[.blk 4 [.val (.bool)],.blk 57 [.val (.int .u64),.val (.int .u64)]],fun x=>qca x.1.1 x.2.1.1 x.2.1.2.1⟩
theorem gu5:DOk TT prog 138 vt2:=yd9 (C:=qca_C) (by kernel_rfl) gu4 func138 (show f138.body=some (j5 f138) by kernel_rfl) (by kernel_rfl) (by kernel_rfl) (by kernel_rfl) (by kernel_rfl) fun x y h=>h
noncomputable def qbe_C:Ctx TT:=⟨za5,[(194,qh_sp.toCall (k7 TT)),(202,qat_sp.toCall)],0,[],k9,za6⟩
theorem gw3:v7 TT prog qbe_C.E:=w6 (za1 yu1 (j9 194)) (w6 (q8 vm4) (v5))
def jl9:List (Pos×Cut):= [([true],⟨[1,2],[],false,[],0,false⟩)]
noncomputable def qbe (n:Nat) (x0:Work):Option ((Unit)×((Span×Unit)⊕(Unit×Unit))):=zz4 TT prog qbe_C jl9 f182 (j5 f182) ⟨[],[],[],[],[]⟩ [.val (.user 6)] [] [.val (.user 0)] (.ifc 163 (.agg [])) n (x0,())
noncomputable abbrev up9:=yr2 TT prog qbe_C jl9 f182 (j5 f182) ⟨[],[],[],[],[]⟩ [] [.val (.user 0)] (.ifc 163 (.agg []))
noncomputable def vn2 (n:Nat) (b0_0 b0_1 b0_2 b0_3:Int) (b0_4:Bool) (b0_5 b0_6 b1_0 b1_1:Int):Option ((Unit)×((Span×Unit)⊕(Unit×Unit))):=up9 n [true] ⟨[(1,.ptr 0 0),(2,.ptr 1 0)],[.blk 166 [w3 b0_0,w3 b0_1,w3 b0_2,w3 b0_3,cb b0_4,w3 b0_5,w3 b0_6],.blk 57 [w3 b1_0,w3 b1_1]]⟩
theorem wp6 (n:Nat) (x0):qbe n x0=q7 (decide (x0.a_Lo>=x0.b_Hi)) (j7 (qh v9 true) fun y1=>match y1.2 with| .inl z1=>(vn2 n x0.a_Lo x0.a_Hi x0.b_Lo x0.b_Hi x0.narrow x0.most x0.size (0:Int) (0:Int))| .inr e1=>(some ((),.inr ((),())))) (j7 (qh v9 (decide (x0.a_Hi<x0.b_Lo))) fun y2=>match y2.2 with| .inl z2=>(vn2 n x0.a_Lo x0.a_Hi x0.b_Lo x0.b_Hi x0.narrow x0.most x0.size (0:Int) (0:Int))| .inr e2=>(some ((),.inr ((),())))):=by kernel_rfl
theorem kc2 (n:Nat) (b0_0 b0_1 b0_2 b0_3 b0_4 b0_5 b0_6 b1_0 b1_1):vn2 (n+1) b0_0 b0_1 b0_2 b0_3 b0_4 b0_5 b0_6 b1_0 b1_1=j7 (qat v9 (⟨b0_0,b0_1,b0_2,b0_3,b0_4,b0_5,b0_6⟩:Work) (IntKind.u64.wrap (b0_0-b0_3)) (IntKind.u64.wrap (b0_1-b0_2))) fun y1=>some ((),.inl (y1,())):=by kernel_rfl
noncomputable def qbe_sp:PSpec TT:=⟨[.val (.user 6)],[],[.val (.user 0)],.ifc 163 (.agg []),fun x=>qbe v9 x.1⟩
theorem wn3:POk TT prog 182 qbe_sp:=zf7 (C:=qbe_C) (cuts:=jl9) (by kernel_rfl) gw3 func182 (show f182.body=some (j5 f182) by kernel_rfl) (by kernel_rfl) (by kernel_rfl) (by kernel_rfl) fun x y h=>⟨v9,h⟩
noncomputable def qdg_C:Ctx TT:=⟨za5,[],0,[],k9,za6⟩
theorem gw0:v7 TT prog qdg_C.E:=v5
def qy7:List (Pos×Cut):= []
noncomputable def qdg (n:Nat) (x0 x1:Int):Option (Int×Int):=zg2 TT prog qdg_C qy7 f203 (j5 f203) ⟨[],[]⟩ [.val (.int .u64),.val (.int .u64)] [.val (.int .u64),.val (.int .u64)] n (x0,x1)
theorem wx4 (n:Nat) (x0 x1):qdg n x0 x1=some (IntKind.u64.wrap ((IntKind.u64.wrap ((IntKind.u64.wrap ((zc0 .u64 x0 (32:Int))*(zc0 .u64 x1 (32:Int))))+(zc0 .u64 (IntKind.u64.wrap ((IntKind.u64.wrap ((zc0 .u64 x0 (32:Int))*(zb1 .u64 x1 (4294967295:Int))))+(zc0 .u64 (IntKind.u64.wrap ((zb1 .u64 x0 (4294967295:Int))*(zb1 .u64 x1 (4294967295:Int)))) (32:Int)))) (32:Int))))+(zc0 .u64 (IntKind.u64.wrap ((zb1 .u64 (IntKind.u64.wrap ((IntKind.u64.wrap ((zc0 .u64 x0 (32:Int))*(zb1 .u64 x1 (4294967295:Int))))+(zc0 .u64 (IntKind.u64.wrap ((zb1 .u64 x0 (4294967295:Int))*(zb1 .u64 x1 (4294967295:Int)))) (32:Int)))) (4294967295:Int))+(IntKind.u64.wrap ((zb1 .u64 x0 (4294967295:Int))*(zc0 .u64 x1 (32:Int)))))) (32:Int))),IntKind.u64.wrap (x0*x1)):=by kernel_rfl
noncomputable def qdg_sp:FnSpec TT:=⟨[.val (.int .u64),.val (.int .u64)],[.val (.int .u64),.val (.int .u64)],fun x=>qdg v9 x.1 x.2⟩
theorem uf7:ze8 TT prog 203 qdg_sp:=za0 (C:=qdg_C) (by kernel_rfl) gw0 func203 (show f203.body=some (j5 f203) by kernel_rfl) (by kernel_rfl) (by kernel_rfl) (cuts:=qy7) fun x y h=>⟨v9,h⟩
noncomputable def qbf_C:Ctx TT:=⟨za5,[(203,qdg_sp.toCall),(194,qh_sp.toCall (k7 TT))],0,[],k9,za6⟩
theorem gn7:v7 TT prog qbf_C.E:=w6 (q8 uf7) (w6 (za1 yu1 (j9 194)) (v5))
def jo7:List (Pos×Cut):= [([true,true],⟨[1,2,4],[],false,[],0,false⟩)]
noncomputable def qbf (n:Nat) (x0:Work):Option ((Unit)×((Span×Unit)⊕(Unit×Unit))):=zz4 TT prog qbf_C jo7 f183 (j5 f183) ⟨[],[],[],[],[]⟩ [.val (.user 6)] [] [.val (.user 0)] (.ifc 163 (.agg [])) n (x0,())
noncomputable abbrev uv6:=yr2 TT prog qbf_C jo7 f183 (j5 f183) ⟨[],[],[],[],[]⟩ [] [.val (.user 0)] (.ifc 163 (.agg []))
noncomputable def vl7 (n:Nat) (s4 b0_0 b0_1 b0_2 b0_3:Int) (b0_4:Bool) (b0_5 b0_6 b1_0 b1_1:Int):Option ((Unit)×((Span×Unit)⊕(Unit×Unit))):=uv6 n [true,true] ⟨[(1,.ptr 0 0),(2,.ptr 1 0),(4,w3 s4)],[.blk 166 [w3 b0_0,w3 b0_1,w3 b0_2,w3 b0_3,cb b0_4,w3 b0_5,w3 b0_6],.blk 57 [w3 b1_0,w3 b1_1]]⟩
theorem wu4 (n:Nat) (x0):qbf n x0=j7 (qdg v9 x0.a_Hi x0.b_Hi) fun y1=>q7 (y1.1==(0:Int)) (j7 (qh v9 (decide (y1.2<=x0.most))) fun y2=>match y2.2 with| .inl z2=>(vl7 n y1.2 x0.a_Lo x0.a_Hi x0.b_Lo x0.b_Hi x0.narrow x0.most x0.size (0:Int) (0:Int))| .inr e2=>(some ((),.inr ((),())))) (j7 (qh v9 false) fun y3=>match y3.2 with| .inl z3=>(vl7 n y1.2 x0.a_Lo x0.a_Hi x0.b_Lo x0.b_Hi x0.narrow x0.most x0.size (0:Int) (0:Int))| .inr e3=>(some ((),.inr ((),())))):=by kernel_rfl
theorem vy9 (n:Nat) (s4 b0_0 b0_1 b0_2 b0_3 b0_4 b0_5 b0_6 b1_0 b1_1):vl7 (n+1) s4 b0_0 b0_1 b0_2 b0_3 b0_4 b0_5 b0_6 b1_0 b1_1=some ((),.inl ((⟨IntKind.u64.wrap (b0_0*b0_2),s4⟩:Span),())):=by kernel_rfl
noncomputable def qbf_sp:PSpec TT:=⟨[.val (.user 6)],[],[.val (.user 0)],.ifc 163 (.agg []),fun x=>qbf v9 x.1⟩
theorem wz8:POk TT prog 183 qbf_sp:=zf7 (C:=qbf_C) (cuts:=jo7) (by kernel_rfl) gn7 func183 (show f183.body=some (j5 f183) by kernel_rfl) (by kernel_rfl) (by kernel_rfl) (by kernel_rfl) fun x y h=>⟨v9,h⟩
noncomputable def qbr_C:Ctx TT:=⟨za5,[],0,[(1,1)],k9,za6⟩
theorem gk4:v7 TT prog qbr_C.E:=v5
def qp8:List (Pos×Cut):= []
noncomputable def qbr (n:Nat) (x0:Work):Option (Span):=zg2 TT prog qbr_C qp8 f184 (j5 f184) ⟨[],[]⟩ [.val (.user 6)] [.val (.user 0)] n x0
theorem ub8 (n:Nat) (x0):qbr n x0=if zk5 x0.b_Hi (1:Int)=0 then none else (if zk5 x0.b_Lo (1:Int)=0 then none else (some (⟨IntKind.u64.wrap (x0.a_Lo.tdiv (zk5 x0.b_Hi (1:Int))),IntKind.u64.wrap (x0.a_Hi.tdiv (zk5 x0.b_Lo (1:Int)))⟩:Span))):=by kernel_rfl
noncomputable def qbr_sp:FnSpec TT:=⟨[.val (.user 6)],[.val (.user 0)],fun x=>qbr v9 x⟩
theorem wo9:ze8 TT prog 184 qbr_sp:=za0 (C:=qbr_C) (by kernel_rfl) gk4 func184 (show f184.body=some (j5 f184) by kernel_rfl) (by kernel_rfl) (by kernel_rfl) (cuts:=qp8) fun x y h=>⟨v9,h⟩
noncomputable def qbs_C:Ctx TT:=⟨za5,[],0,[],k9,za6⟩
theorem gs2:v7 TT prog qbs_C.E:=v5
def qq6:List (Pos×Cut):= []
noncomputable def qbs (n:Nat) (x0:Work):Option (Span):=zg2 TT prog qbs_C qq6 f185 (j5 f185) ⟨[],[]⟩ [.val (.user 6)] [.val (.user 0)] n x0
theorem wu7 (n:Nat) (x0):qbs n x0=q7 (decide (x0.a_Hi<(zk5 x0.b_Lo (1:Int)))) (some (⟨x0.a_Lo,x0.a_Hi⟩:Span)) (some (⟨(0:Int),yj2 x0.a_Hi (IntKind.u64.wrap ((zk5 x0.b_Hi (1:Int))-(1:Int)))⟩:Span)):=by kernel_rfl
noncomputable def qbs_sp:FnSpec TT:=⟨[.val (.user 6)],[.val (.user 0)],fun x=>qbs v9 x⟩
theorem wt4:ze8 TT prog 185 qbs_sp:=za0 (C:=qbs_C) (by kernel_rfl) gs2 func185 (show f185.body=some (j5 f185) by kernel_rfl) (by kernel_rfl) (by kernel_rfl) (cuts:=qq6) fun x y h=>⟨v9,h⟩
noncomputable def qm_C:Ctx TT:=⟨za5,[(99,qan_sp.toCall)],0,[],k9,za6⟩
theorem wv3:v7 TT prog qm_C.E:=w6 (q8 je0) (v5)
def vo3:List (Pos×Cut):= []
noncomputable def qm (n:Nat) (x0:Span):Option (Bool):=zg2 TT prog qm_C vo3 f205 (j5 f205) ⟨[],[]⟩ [.val (.user 0)] [.val (.bool)] n x0
theorem uo0 (n:Nat) (x0):qm n x0=j7 (qan v9 x0.Lo) fun y1=>some ((x0.Lo==y1.Lo)&&(x0.Hi==y1.Hi)):=by kernel_rfl
noncomputable def qm_sp:FnSpec TT:=⟨[.val (.user 0)],[.val (.bool)],fun x=>qm v9 x⟩
theorem vg1:ze8 TT prog 205 qm_sp:=za0 (C:=qm_C) (by kernel_rfl) wv3 func205 (show f205.body=some (j5 f205) by kernel_rfl) (by kernel_rfl) (by kernel_rfl) (cuts:=vo3) fun x y h=>⟨v9,h⟩
noncomputable def qx_C:Ctx TT:=⟨za5,[(205,qm_sp.toCall)],0,[],k9,za6⟩
theorem ua2:v7 TT prog qx_C.E:=w6 (q8 vg1) (v5)
def vo7:List (Pos×Cut):= []
noncomputable def qx (n:Nat) (x0:Work):Option (Bool):=zg2 TT prog qx_C vo7 f195 (j5 f195) ⟨[],[]⟩ [.val (.user 6)] [.val (.bool)] n x0
theorem uw3 (n:Nat) (x0):qx n x0=j7 (qm v9 (⟨x0.a_Lo,x0.a_Hi⟩:Span)) fun y1=>q7 y1 (j7 (qm v9 (⟨x0.b_Lo,x0.b_Hi⟩:Span)) fun y2=>some y2) (some false):=by kernel_rfl
noncomputable def qx_sp:FnSpec TT:=⟨[.val (.user 6)],[.val (.bool)],fun x=>qx v9 x⟩
theorem qf2:ze8 TT prog 195 qx_sp:=za0 (C:=qx_C) (by kernel_rfl) ua2 func195 (show f195.body=some (j5 f195) by kernel_rfl) (by kernel_rfl) (by kernel_rfl) (cuts:=vo7) fun x y h=>⟨v9,h⟩
noncomputable def qbl_C:Ctx TT:=⟨za5,[(195,qx_sp.toCall),(99,qan_sp.toCall)],0,[],k9,za6⟩
theorem gj8:v7 TT prog qbl_C.E:=w6 (q8 qf2) (w6 (q8 je0) (v5))
def qo1:List (Pos×Cut):= []
noncomputable def qbl (n:Nat) (x0:Work):Option (Span):=zg2 TT prog qbl_C qo1 f186 (j5 f186) ⟨[],[]⟩ [.val (.user 6)] [.val (.user 0)] n x0
theorem ww1 (n:Nat) (x0):qbl n x0=j7 (qx v9 x0) fun y1=>q7 y1 (j7 (qan v9 (zb1 .u64 x0.a_Lo x0.b_Lo)) fun y2=>some y2) (some (⟨(0:Int),yj2 x0.a_Hi x0.b_Hi⟩:Span)):=by kernel_rfl
noncomputable def qbl_sp:FnSpec TT:=⟨[.val (.user 6)],[.val (.user 0)],fun x=>qbl v9 x⟩
theorem ue2:ze8 TT prog 186 qbl_sp:=za0 (C:=qbl_C) (by kernel_rfl) gj8 func186 (show f186.body=some (j5 f186) by kernel_rfl) (by kernel_rfl) (by kernel_rfl) (cuts:=qo1) fun x y h=>⟨v9,h⟩
noncomputable def qbk_C:Ctx TT:=⟨za5,[(129,qo_sp.toCall)],0,[],k9,za6⟩
theorem gr7:v7 TT prog qbk_C.E:=w6 (q8 wk5) (v5)
def qy1:List (Pos×Cut):= []
noncomputable def qbk (n:Nat) (x0:Int):Option (Int):=zg2 TT prog qbk_C qy1 f204 (j5 f204) ⟨[],[]⟩ [.val (.int .u64)] [.val (.int .u64)] n x0
theorem wq7 (n:Nat) (x0):qbk n x0=j7 (qo v9 x0) fun y1=>if y1<0 then none else (some (IntKind.u64.wrap ((ya4 .u64 (1:Int) y1)-(1:Int)))):=by kernel_rfl
noncomputable def qbk_sp:FnSpec TT:=⟨[.val (.int .u64)],[.val (.int .u64)],fun x=>qbk v9 x⟩
theorem ga3:ze8 TT prog 204 qbk_sp:=za0 (C:=qbk_C) (by kernel_rfl) gr7 func204 (show f204.body=some (j5 f204) by kernel_rfl) (by kernel_rfl) (by kernel_rfl) (cuts:=qy1) fun x y h=>⟨v9,h⟩
noncomputable def qbm_C:Ctx TT:=⟨za5,[(195,qx_sp.toCall),(99,qan_sp.toCall),(204,qbk_sp.toCall)],0,[(3,1)],k9,za6⟩
theorem gl5:v7 TT prog qbm_C.E:=w6 (q8 qf2) (w6 (q8 je0) (w6 (q8 ga3) (v5)))
def qz9:List (Pos×Cut):= []
noncomputable def qbm (n:Nat) (x0:Work):Option (Span):=zg2 TT prog qbm_C qz9 f187 (j5 f187) ⟨[],[]⟩ [.val (.user 6)] [.val (.user 0)] n x0
theorem uc1 (n:Nat) (x0):qbm n x0=j7 (qx v9 x0) fun y1=>q7 y1 (j7 (qan v9 (bOr .u64 x0.a_Lo x0.b_Lo)) fun y2=>some y2) (j7 (qbk v9 (bOr .u64 x0.a_Hi x0.b_Hi)) fun y3=>some (⟨zk5 x0.a_Lo x0.b_Lo,y3⟩:Span)):=by kernel_rfl
noncomputable def qbm_sp:FnSpec TT:=⟨[.val (.user 6)],[.val (.user 0)],fun x=>qbm v9 x⟩
theorem wu8:ze8 TT prog 187 qbm_sp:=za0 (C:=qbm_C) (by kernel_rfl) gl5 func187 (show f187.body=some (j5 f187) by kernel_rfl) (by kernel_rfl) (by kernel_rfl) (cuts:=qz9) fun x y h=>⟨v9,h⟩
noncomputable def qbn_C:Ctx TT:=⟨za5,[(195,qx_sp.toCall),(99,qan_sp.toCall),(204,qbk_sp.toCall)],0,[],k9,za6⟩
theorem gw9:v7 TT prog qbn_C.E:=w6 (q8 qf2) (w6 (q8 je0) (w6 (q8 ga3) (v5)))
def qx6:List (Pos×Cut):= []
noncomputable def qbn (n:Nat) (x0:Work):Option (Span):=zg2 TT prog qbn_C qx6 f188 (j5 f188) ⟨[],[]⟩ [.val (.user 6)] [.val (.user 0)] n x0
theorem uj6 (n:Nat) (x0):qbn n x0=j7 (qx v9 x0) fun y1=>q7 y1 (j7 (qan v9 (jc2 .u64 x0.a_Lo x0.b_Lo)) fun y2=>some y2) (j7 (qbk v9 (bOr .u64 x0.a_Hi x0.b_Hi)) fun y3=>some (⟨(0:Int),y3⟩:Span)):=by kernel_rfl
noncomputable def qbn_sp:FnSpec TT:=⟨[.val (.user 6)],[.val (.user 0)],fun x=>qbn v9 x⟩
theorem uf8:ze8 TT prog 188 qbn_sp:=za0 (C:=qbn_C) (by kernel_rfl) gw9 func188 (show f188.body=some (j5 f188) by kernel_rfl) (by kernel_rfl) (by kernel_rfl) (cuts:=qx6) fun x y h=>⟨v9,h⟩
noncomputable def qbg_C:Ctx TT:=⟨za5,[(205,qm_sp.toCall),(194,qh_sp.toCall (k7 TT))],0,[],k9,za6⟩
theorem gz6:v7 TT prog qbg_C.E:=w6 (q8 vg1) (w6 (za1 yu1 (j9 194)) (v5))
def jn0:List (Pos×Cut):= [([true,true],⟨[1,2,3],[],false,[],0,false⟩)]
noncomputable def qbg (n:Nat) (x0:Work):Option ((Unit)×((Span×Unit)⊕(Unit×Unit))):=zz4 TT prog qbg_C jn0 f189 (j5 f189) ⟨[],[],[],[],[]⟩ [.val (.user 6)] [] [.val (.user 0)] (.ifc 163 (.agg [])) n (x0,())
noncomputable abbrev ut3:=yr2 TT prog qbg_C jn0 f189 (j5 f189) ⟨[],[],[],[],[]⟩ [] [.val (.user 0)] (.ifc 163 (.agg []))
noncomputable def vm7 (n:Nat) (s3 b0_0 b0_1 b0_2 b0_3:Int) (b0_4:Bool) (b0_5 b0_6 b1_0 b1_1:Int):Option ((Unit)×((Span×Unit)⊕(Unit×Unit))):=ut3 n [true,true] ⟨[(1,.ptr 0 0),(2,.ptr 1 0),(3,w3 s3)],[.blk 166 [w3 b0_0,w3 b0_1,w3 b0_2,w3 b0_3,cb b0_4,w3 b0_5,w3 b0_6],.blk 57 [w3 b1_0,w3 b1_1]]⟩
theorem wz0 (n:Nat) (x0):qbg n x0=if x0.size=0 then none else (j7 (qm v9 (⟨x0.b_Lo,x0.b_Hi⟩:Span)) fun y1=>q7 y1 (if x0.b_Lo.tmod x0.size<0 then none else (j7 (qh v9 (decide (x0.a_Hi<=(zc0 .u64 x0.most (x0.b_Lo.tmod x0.size))))) fun y2=>match y2.2 with| .inl z2=>(vm7 n (x0.b_Lo.tmod x0.size) x0.a_Lo x0.a_Hi x0.b_Lo x0.b_Hi x0.narrow x0.most x0.size (0:Int) (0:Int))| .inr e2=>(some ((),.inr ((),()))))) (j7 (qh v9 false) fun y3=>match y3.2 with| .inl z3=>(vm7 n (x0.b_Lo.tmod x0.size) x0.a_Lo x0.a_Hi x0.b_Lo x0.b_Hi x0.narrow x0.most x0.size (0:Int) (0:Int))| .inr e3=>(some ((),.inr ((),()))))):=by kernel_rfl
theorem vz1 (n:Nat) (s3 b0_0 b0_1 b0_2 b0_3 b0_4 b0_5 b0_6 b1_0 b1_1):vm7 (n+1) s3 b0_0 b0_1 b0_2 b0_3 b0_4 b0_5 b0_6 b1_0 b1_1=if s3<0 then none else (if s3<0 then none else (some ((),.inl ((⟨ya4 .u64 b0_0 s3,ya4 .u64 b0_1 s3⟩:Span),())))):=by kernel_rfl
noncomputable def qbg_sp:PSpec TT:=⟨[.val (.user 6)],[],[.val (.user 0)],.ifc 163 (.agg []),fun x=>qbg v9 x.1⟩
theorem ug3:POk TT prog 189 qbg_sp:=zf7 (C:=qbg_C) (cuts:=jn0) (by kernel_rfl) gz6 func189 (show f189.body=some (j5 f189) by kernel_rfl) (by kernel_rfl) (by kernel_rfl) (by kernel_rfl) fun x y h=>⟨v9,h⟩
noncomputable def qaf_C:Ctx TT:=⟨za5,[(205,qm_sp.toCall)],0,[],k9,za6⟩
theorem wc5:v7 TT prog qaf_C.E:=w6 (q8 vg1) (v5)
def jp6:List (Pos×Cut):= [([true,true],⟨[1,2,3,4],[],false,[],0,false⟩)]
noncomputable def qaf (n:Nat) (x0:Work):Option (Span):=zg2 TT prog qaf_C jp6 f190 (j5 f190) ⟨[],[]⟩ [.val (.user 6)] [.val (.user 0)] n x0
noncomputable abbrev us4:=jz4 TT prog qaf_C jp6 f190 (j5 f190) ⟨[],[]⟩ [.val (.user 6)] [.val (.user 0)]
noncomputable def je3 (n:Nat) (s3 s4 b0_0 b0_1 b0_2 b0_3:Int) (b0_4:Bool) (b0_5 b0_6 b1_0 b1_1:Int):Option (Span):=us4 n [true,true] ⟨[(1,.ptr 0 0),(2,.ptr 1 0),(3,w3 s3),(4,w3 s4)],[.blk 166 [w3 b0_0,w3 b0_1,w3 b0_2,w3 b0_3,cb b0_4,w3 b0_5,w3 b0_6],.blk 57 [w3 b1_0,w3 b1_1]]⟩
theorem wq9 (n:Nat) (x0):qaf n x0=j7 (qm v9 (⟨x0.b_Lo,x0.b_Hi⟩:Span)) fun y1=>q7 y1 (if x0.size=0 then none else (if x0.size=0 then none else (je3 n (x0.b_Hi.tmod x0.size) (x0.b_Lo.tmod x0.size) x0.a_Lo x0.a_Hi x0.b_Lo x0.b_Hi x0.narrow x0.most x0.size (0:Int) (0:Int)))) (q7 (decide (x0.b_Hi>=x0.size)) (some (⟨(0:Int),x0.a_Hi⟩:Span)) (je3 n x0.b_Hi x0.b_Lo x0.a_Lo x0.a_Hi x0.b_Lo x0.b_Hi x0.narrow x0.most x0.size (0:Int) (0:Int))):=by kernel_rfl
theorem jx4 (n:Nat) (s3 s4 b0_0 b0_1 b0_2 b0_3 b0_4 b0_5 b0_6 b1_0 b1_1):je3 (n+1) s3 s4 b0_0 b0_1 b0_2 b0_3 b0_4 b0_5 b0_6 b1_0 b1_1=if s3<0 then none else (if s4<0 then none else (some (⟨zc0 .u64 b0_0 s3,zc0 .u64 b0_1 s4⟩:Span))):=by kernel_rfl
noncomputable def qaf_sp:FnSpec TT:=⟨[.val (.user 6)],[.val (.user 0)],fun x=>qaf v9 x⟩
theorem ul2:ze8 TT prog 190 qaf_sp:=za0 (C:=qaf_C) (by kernel_rfl) wc5 func190 (show f190.body=some (j5 f190) by kernel_rfl) (by kernel_rfl) (by kernel_rfl) (cuts:=jp6) fun x y h=>⟨v9,h⟩
noncomputable def qz_C:Ctx TT:=⟨za5,[],0,[],k9,za6⟩
theorem ui2:v7 TT prog qz_C.E:=v5
def vn4:List (Pos×Cut):= []
noncomputable def qz (n:Nat) (x0:Work) (x1:Int):Option (Bool):=zg2 TT prog qz_C vn4 f197 (j5 f197) ⟨[],[]⟩ [.val (.user 6),.val (.int .u64)] [.val (.bool)] n (x0,x1)
theorem ur4 (n:Nat) (x0 x1):qz n x0 x1=if IntKind.u64.wrap (x0.size-(1:Int))<0 then none else (some ((zb1 .u64 (zc0 .u64 x1 (IntKind.u64.wrap (x0.size-(1:Int)))) (1:Int))==(1:Int))):=by kernel_rfl
noncomputable def qz_sp:FnSpec TT:=⟨[.val (.user 6),.val (.int .u64)],[.val (.bool)],fun x=>qz v9 x.1 x.2⟩
theorem wf9:ze8 TT prog 197 qz_sp:=za0 (C:=qz_C) (by kernel_rfl) ui2 func197 (show f197.body=some (j5 f197) by kernel_rfl) (by kernel_rfl) (by kernel_rfl) (cuts:=vn4) fun x y h=>⟨v9,h⟩
noncomputable def qao_C:Ctx TT:=⟨za5,[(197,qz_sp.toCall)],0,[],k9,za6⟩
theorem gq5:v7 TT prog qao_C.E:=w6 (q8 wf9) (v5)
def qv8:List (Pos×Cut):= []
noncomputable def qao (n:Nat) (x0:Work) (x1:Span):Option (Bool):=zg2 TT prog qao_C qv8 f196 (j5 f196) ⟨[],[]⟩ [.val (.user 6),.val (.user 0)] [.val (.bool)] n (x0,x1)
theorem ue6 (n:Nat) (x0 x1):qao n x0 x1=j7 (qz v9 x0 x1.Lo) fun y1=>j7 (qz v9 x0 x1.Hi) fun y2=>some (!(y1==y2)):=by kernel_rfl
noncomputable def qao_sp:FnSpec TT:=⟨[.val (.user 6),.val (.user 0)],[.val (.bool)],fun x=>qao v9 x.1 x.2⟩
theorem gc4:ze8 TT prog 196 qao_sp:=za0 (C:=qao_C) (by kernel_rfl) gq5 func196 (show f196.body=some (j5 f196) by kernel_rfl) (by kernel_rfl) (by kernel_rfl) (cuts:=qv8) fun x y h=>⟨v9,h⟩
noncomputable def qdq_C:Ctx TT:=⟨za5,[],2,[],k9,za6⟩
theorem gm0:v7 TT prog qdq_C.E:=v5
def qy4:List (Pos×Cut):= []
noncomputable def qdq (n:Nat) (x0 x1:Int):Option (((Int×Unit)×(Int×Unit)×Unit)×(Int×Unit)):=zh5 TT prog qdq_C qy4 f144 (j5 f144) ⟨[],[],[],[],[]⟩ [.ptr 0 141 [.val (.int .u32)],.ptr 0 141 [.val (.int .u32)]] [.blk 141 [.val (.int .u32)],.blk 141 [.val (.int .u32)]] [.val (.int .u32)] n ((x0,()),(x1,()),())
theorem uk3 (n:Nat) (x0 x1):qdq n x0 x1=some (((x0,()),(x1,()),()),(IntKind.u32.wrap (x0+x1),())):=by kernel_rfl
noncomputable def qdq_sp:GSpec TT:=⟨[.ptr 0 141 [.val (.int .u32)],.ptr 0 141 [.val (.int .u32)]],[.blk 141 [.val (.int .u32)],.blk 141 [.val (.int .u32)]],[.val (.int .u32)],fun x=>qdq v9 x.1.1 x.2.1.1⟩
theorem ul3:GOk TT prog 144 qdq_sp:=za9 (C:=qdq_C) (cuts:=qy4) (by kernel_rfl) gm0 func144 (show f144.body=some (j5 f144) by kernel_rfl) (by kernel_rfl) (by kernel_rfl) (by kernel_rfl) fun x y h=>⟨v9,h⟩
noncomputable def qdr_C:Ctx TT:=⟨za5,[],2,[],k9,za6⟩
theorem gj9:v7 TT prog qdr_C.E:=v5
def qr3:List (Pos×Cut):= []
noncomputable def qdr (n:Nat) (x0 x1:Int):Option (((Int×Unit)×(Int×Unit)×Unit)×(Int×Unit)):=zh5 TT prog qdr_C qr3 f145 (j5 f145) ⟨[],[],[],[],[]⟩ [.ptr 0 141 [.val (.int .u32)],.ptr 0 141 [.val (.int .u32)]] [.blk 141 [.val (.int .u32)],.blk 141 [.val (.int .u32)]] [.val (.int .u32)] n ((x0,()),(x1,()),())
theorem ud1 (n:Nat) (x0 x1):qdr n x0 x1=some (((x0,()),(x1,()),()),(IntKind.u32.wrap (x0-x1),())):=by kernel_rfl
noncomputable def qdr_sp:GSpec TT:=⟨[.ptr 0 141 [.val (.int .u32)],.ptr 0 141 [.val (.int .u32)]],[.blk 141 [.val (.int .u32)],.blk 141 [.val (.int .u32)]],[.val (.int .u32)],fun x=>qdr v9 x.1.1 x.2.1.1⟩
theorem uj3:GOk TT prog 145 qdr_sp:=za9 (C:=qdr_C) (cuts:=qr3) (by kernel_rfl) gj9 func145 (show f145.body=some (j5 f145) by kernel_rfl) (by kernel_rfl) (by kernel_rfl) (by kernel_rfl) fun x y h=>⟨v9,h⟩
noncomputable def qds_C:Ctx TT:=⟨za5,[],2,[],k9,za6⟩
theorem wb0:v7 TT prog qds_C.E:=v5
def qr6:List (Pos×Cut):= []
noncomputable def qds (n:Nat) (x0 x1:Int):Option (((Int×Unit)×(Int×Unit)×Unit)×(Int×Unit)):=zh5 TT prog qds_C qr6 f146 (j5 f146) ⟨[],[],[],[],[]⟩ [.ptr 0 141 [.val (.int .u32)],.ptr 0 141 [.val (.int .u32)]] [.blk 141 [.val (.int .u32)],.blk 141 [.val (.int .u32)]] [.val (.int .u32)] n ((x0,()),(x1,()),())
theorem wy4 (n:Nat) (x0 x1):qds n x0 x1=some (((x0,()),(x1,()),()),(IntKind.u32.wrap (x0*x1),())):=by kernel_rfl
noncomputable def qds_sp:GSpec TT:=⟨[.ptr 0 141 [.val (.int .u32)],.ptr 0 141 [.val (.int .u32)]],[.blk 141 [.val (.int .u32)],.blk 141 [.val (.int .u32)]],[.val (.int .u32)],fun x=>qds v9 x.1.1 x.2.1.1⟩
theorem ud0:GOk TT prog 146 qds_sp:=za9 (C:=qds_C) (cuts:=qr6) (by kernel_rfl) wb0 func146 (show f146.body=some (j5 f146) by kernel_rfl) (by kernel_rfl) (by kernel_rfl) (by kernel_rfl) fun x y h=>⟨v9,h⟩
noncomputable def qdt_C:Ctx TT:=⟨za5,[],2,[],k9,za6⟩
theorem gz4:v7 TT prog qdt_C.E:=v5
def qs0:List (Pos×Cut):= []
noncomputable def qdt (n:Nat) (x0 x1:Int):Option (((Int×Unit)×(Int×Unit)×Unit)×(Int×Unit)):=zh5 TT prog qdt_C qs0 f147 (j5 f147) ⟨[],[],[],[],[]⟩ [.ptr 0 141 [.val (.int .u32)],.ptr 0 141 [.val (.int .u32)]] [.blk 141 [.val (.int .u32)],.blk 141 [.val (.int .u32)]] [.val (.int .u32)] n ((x0,()),(x1,()),())
theorem wu3 (n:Nat) (x0 x1):qdt n x0 x1=if x1=0 then none else (some (((x0,()),(x1,()),()),(IntKind.u32.wrap (x0.tdiv x1),()))):=by kernel_rfl
noncomputable def qdt_sp:GSpec TT:=⟨[.ptr 0 141 [.val (.int .u32)],.ptr 0 141 [.val (.int .u32)]],[.blk 141 [.val (.int .u32)],.blk 141 [.val (.int .u32)]],[.val (.int .u32)],fun x=>qdt v9 x.1.1 x.2.1.1⟩
theorem uk7:GOk TT prog 147 qdt_sp:=za9 (C:=qdt_C) (cuts:=qs0) (by kernel_rfl) gz4 func147 (show f147.body=some (j5 f147) by kernel_rfl) (by kernel_rfl) (by kernel_rfl) (by kernel_rfl) fun x y h=>⟨v9,h⟩
noncomputable def qdu_C:Ctx TT:=⟨za5,[],2,[],k9,za6⟩
theorem gp4:v7 TT prog qdu_C.E:=v5
def qo3:List (Pos×Cut):= []
noncomputable def qdu (n:Nat) (x0 x1:Int):Option (((Int×Unit)×(Int×Unit)×Unit)×(Int×Unit)):=zh5 TT prog qdu_C qo3 f148 (j5 f148) ⟨[],[],[],[],[]⟩ [.ptr 0 141 [.val (.int .u32)],.ptr 0 141 [.val (.int .u32)]] [.blk 141 [.val (.int .u32)],.blk 141 [.val (.int .u32)]] [.val (.int .u32)] n ((x0,()),(x1,()),())
theorem wy3 (n:Nat) (x0 x1):qdu n x0 x1=if x1=0 then none else (some (((x0,()),(x1,()),()),(x0.tmod x1,()))):=by kernel_rfl
noncomputable def qdu_sp:GSpec TT:=⟨[.ptr 0 141 [.val (.int .u32)],.ptr 0 141 [.val (.int .u32)]],[.blk 141 [.val (.int .u32)],.blk 141 [.val (.int .u32)]],[.val (.int .u32)],fun x=>qdu v9 x.1.1 x.2.1.1⟩
theorem ws9:GOk TT prog 148 qdu_sp:=za9 (C:=qdu_C) (cuts:=qo3) (by kernel_rfl) gp4 func148 (show f148.body=some (j5 f148) by kernel_rfl) (by kernel_rfl) (by kernel_rfl) (by kernel_rfl) fun x y h=>⟨v9,h⟩
noncomputable def qdv_C:Ctx TT:=⟨za5,[],2,[],k9,za6⟩
theorem gt6:v7 TT prog qdv_C.E:=v5
def qo0:List (Pos×Cut):= []
noncomputable def qdv (n:Nat) (x0 x1:Int):Option (((Int×Unit)×(Int×Unit)×Unit)×(Int×Unit)):=zh5 TT prog qdv_C qo0 f149 (j5 f149) ⟨[],[],[],[],[]⟩ [.ptr 0 141 [.val (.int .u32)],.ptr 0 141 [.val (.int .u32)]] [.blk 141 [.val (.int .u32)],.blk 141 [.val (.int .u32)]] [.val (.int .u32)] n ((x0,()),(x1,()),())
theorem wp8 (n:Nat) (x0 x1):qdv n x0 x1=some (((x0,()),(x1,()),()),(zb1 .u32 x0 x1,())):=by kernel_rfl
noncomputable def qdv_sp:GSpec TT:=⟨[.ptr 0 141 [.val (.int .u32)],.ptr 0 141 [.val (.int .u32)]],[.blk 141 [.val (.int .u32)],.blk 141 [.val (.int .u32)]],[.val (.int .u32)],fun x=>qdv v9 x.1.1 x.2.1.1⟩
theorem ug7:GOk TT prog 149 qdv_sp:=za9 (C:=qdv_C) (cuts:=qo0) (by kernel_rfl) gt6 func149 (show f149.body=some (j5 f149) by kernel_rfl) (by kernel_rfl) (by kernel_rfl) (by kernel_rfl) fun x y h=>⟨v9,h⟩
noncomputable def qdw_C:Ctx TT:=⟨za5,[],2,[],k9,za6⟩
theorem wd0:v7 TT prog qdw_C.E:=v5
def qn7:List (Pos×Cut):= []
noncomputable def qdw (n:Nat) (x0 x1:Int):Option (((Int×Unit)×(Int×Unit)×Unit)×(Int×Unit)):=zh5 TT prog qdw_C qn7 f150 (j5 f150) ⟨[],[],[],[],[]⟩ [.ptr 0 141 [.val (.int .u32)],.ptr 0 141 [.val (.int .u32)]] [.blk 141 [.val (.int .u32)],.blk 141 [.val (.int .u32)]] [.val (.int .u32)] n ((x0,()),(x1,()),())
theorem ui6 (n:Nat) (x0 x1):qdw n x0 x1=some (((x0,()),(x1,()),()),(bOr .u32 x0 x1,())):=by kernel_rfl
noncomputable def qdw_sp:GSpec TT:=⟨[.ptr 0 141 [.val (.int .u32)],.ptr 0 141 [.val (.int .u32)]],[.blk 141 [.val (.int .u32)],.blk 141 [.val (.int .u32)]],[.val (.int .u32)],fun x=>qdw v9 x.1.1 x.2.1.1⟩
theorem wn5:GOk TT prog 150 qdw_sp:=za9 (C:=qdw_C) (cuts:=qn7) (by kernel_rfl) wd0 func150 (show f150.body=some (j5 f150) by kernel_rfl) (by kernel_rfl) (by kernel_rfl) (by kernel_rfl) fun x y h=>⟨v9,h⟩
noncomputable def qdx_C:Ctx TT:=⟨za5,[],2,[],k9,za6⟩
theorem gm7:v7 TT prog qdx_C.E:=v5
def qm0:List (Pos×Cut):= []
noncomputable def qdx (n:Nat) (x0 x1:Int):Option (((Int×Unit)×(Int×Unit)×Unit)×(Int×Unit)):=zh5 TT prog qdx_C qm0 f151 (j5 f151) ⟨[],[],[],[],[]⟩ [.ptr 0 141 [.val (.int .u32)],.ptr 0 141 [.val (.int .u32)]] [.blk 141 [.val (.int .u32)],.blk 141 [.val (.int .u32)]] [.val (.int .u32)] n ((x0,()),(x1,()),())
theorem uk1 (n:Nat) (x0 x1):qdx n x0 x1=some (((x0,()),(x1,()),()),(jc2 .u32 x0 x1,())):=by kernel_rfl
noncomputable def qdx_sp:GSpec TT:=⟨[.ptr 0 141 [.val (.int .u32)],.ptr 0 141 [.val (.int .u32)]],[.blk 141 [.val (.int .u32)],.blk 141 [.val (.int .u32)]],[.val (.int .u32)],fun x=>qdx v9 x.1.1 x.2.1.1⟩
theorem ui7:GOk TT prog 151 qdx_sp:=za9 (C:=qdx_C) (cuts:=qm0) (by kernel_rfl) gm7 func151 (show f151.body=some (j5 f151) by kernel_rfl) (by kernel_rfl) (by kernel_rfl) (by kernel_rfl) fun x y h=>⟨v9,h⟩
noncomputable def qdy_C:Ctx TT:=⟨za5,[],3,[],k9,za6⟩
theorem gm1:v7 TT prog qdy_C.E:=v5
def qt2:List (Pos×Cut):= []
noncomputable def qdy (n:Nat) (x0 x1 x2:Int):Option (((Int×Unit)×(Int×Unit)×(Int×Unit)×Unit)×(Int×Unit)):=zh5 TT prog qdy_C qt2 f152 (j5 f152) ⟨[],[],[],[],[]⟩ [.ptr 0 141 [.val (.int .u32)],.ptr 0 141 [.val (.int .u32)],.ptr 0 141 [.val (.int .u32)]] [.blk 141 [.val (.int .u32)],.blk 141 [.val (.int .u32)],.blk 141 [.val (.int .u32)]] [.val (.int .u32)] n ((x0,()),(x1,()),(x2,()),())
theorem uc8 (n:Nat) (x0 x1 x2):qdy n x0 x1 x2=if x2=0 then none else (if x1.tmod x2<0 then none else (some (((x0,()),(x1,()),(x2,()),()),(ya4 .u32 x0 (x1.tmod x2),())))):=by kernel_rfl
noncomputable def qdy_sp:GSpec TT:=⟨[.ptr 0 141 [.val (.int .u32)],.ptr 0 141 [.val (.int .u32)],.ptr 0 141 [.val (.int .u32)]],[.blk 141 [.val (.int .u32)],.blk 141 [.val (.int .u32)],.blk 141 [.val (.int .u32)]],[.val (.int .u32)],fun x=>qdy v9 x.1.1 x.2.1.1 x.2.2.1.1⟩
theorem wm6:GOk TT prog 152 qdy_sp:=za9 (C:=qdy_C) (cuts:=qt2) (by kernel_rfl) gm1 func152 (show f152.body=some (j5 f152) by kernel_rfl) (by kernel_rfl) (by kernel_rfl) (by kernel_rfl) fun x y h=>⟨v9,h⟩
noncomputable def qdz_C:Ctx TT:=⟨za5,[],3,[],k9,za6⟩
theorem gp0:v7 TT prog qdz_C.E:=v5
def qp6:List (Pos×Cut):= []
noncomputable def qdz (n:Nat) (x0 x1 x2:Int):Option (((Int×Unit)×(Int×Unit)×(Int×Unit)×Unit)×(Int×Unit)):=zh5 TT prog qdz_C qp6 f153 (j5 f153) ⟨[],[],[],[],[]⟩ [.ptr 0 141 [.val (.int .u32)],.ptr 0 141 [.val (.int .u32)],.ptr 0 141 [.val (.int .u32)]] [.blk 141 [.val (.int .u32)],.blk 141 [.val (.int .u32)],.blk 141 [.val (.int .u32)]] [.val (.int .u32)] n ((x0,()),(x1,()),(x2,()),())
theorem wy1 (n:Nat) (x0 x1 x2):qdz n x0 x1 x2=if x2=0 then none else (if x1.tmod x2<0 then none else (some (((x0,()),(x1,()),(x2,()),()),(zc0 .u32 x0 (x1.tmod x2),())))):=by kernel_rfl
noncomputable def qdz_sp:GSpec TT:=⟨[.ptr 0 141 [.val (.int .u32)],.ptr 0 141 [.val (.int .u32)],.ptr 0 141 [.val (.int .u32)]],[.blk 141 [.val (.int .u32)],.blk 141 [.val (.int .u32)],.blk 141 [.val (.int .u32)]],[.val (.int .u32)],fun x=>qdz v9 x.1.1 x.2.1.1 x.2.2.1.1⟩
theorem ww9:GOk TT prog 153 qdz_sp:=za9 (C:=qdz_C) (cuts:=qp6) (by kernel_rfl) gp0 func153 (show f153.body=some (j5 f153) by kernel_rfl) (by kernel_rfl) (by kernel_rfl) (by kernel_rfl) fun x y h=>⟨v9,h⟩
noncomputable def qea_C:Ctx TT:=⟨za5,[],3,[],k9,za6⟩
theorem gk9:v7 TT prog qea_C.E:=v5
def qo6:List (Pos×Cut):= []
noncomputable def qea (n:Nat) (x0 x1 x2:Int):Option (((Int×Unit)×(Int×Unit)×(Int×Unit)×Unit)×(Int×Unit)):=zh5 TT prog qea_C qo6 f154 (j5 f154) ⟨[],[],[],[],[]⟩ [.ptr 0 141 [.val (.int .u32)],.ptr 0 141 [.val (.int .u32)],.ptr 0 141 [.val (.int .u32)]] [.blk 141 [.val (.int .u32)],.blk 141 [.val (.int .u32)],.blk 141 [.val (.int .u32)]] [.val (.int .u32)] n ((x0,()),(x1,()),(x2,()),())
theorem ui9 (n:Nat) (x0 x1 x2):qea n x0 x1 x2=if x2=0 then none else (if x1.tmod x2<0 then none else (some (((x0,()),(x1,()),(x2,()),()),(IntKind.u32.wrap (zc0 .i32 (IntKind.i32.wrap x0) (x1.tmod x2)),())))):=by kernel_rfl
noncomputable def qea_sp:GSpec TT:=⟨[.ptr 0 141 [.val (.int .u32)],.ptr 0 141 [.val (.int .u32)],.ptr 0 141 [.val (.int .u32)]],[.blk 141 [.val (.int .u32)],.blk 141 [.val (.int .u32)],.blk 141 [.val (.int .u32)]],[.val (.int .u32)],fun x=>qea v9 x.1.1 x.2.1.1 x.2.2.1.1⟩
theorem ws2:GOk TT prog 154 qea_sp:=za9 (C:=qea_C) (cuts:=qo6) (by kernel_rfl) gk9 func154 (show f154.body=some (j5 f154) by kernel_rfl) (by kernel_rfl) (by kernel_rfl) (by kernel_rfl) fun x y h=>⟨v9,h⟩
noncomputable def qeb_C:Ctx TT:=⟨za5,[],1,[],k9,za6⟩
theorem gx9:v7 TT prog qeb_C.E:=v5
def qo2:List (Pos×Cut):= []
noncomputable def qeb (n:Nat) (x0:Int):Option (((Int×Unit)×Unit)×(Int×Unit)):=zh5 TT prog qeb_C qo2 f155 (j5 f155) ⟨[],[],[],[],[]⟩ [.ptr 0 141 [.val (.int .u32)]] [.blk 141 [.val (.int .u32)]] [.val (.int .u32)] n ((x0,()),())
theorem ue5 (n:Nat) (x0):qeb n x0=some (((x0,()),()),(x0,())):=by kernel_rfl
noncomputable def qeb_sp:GSpec TT:=⟨[.ptr 0 141 [.val (.int .u32)]],[.blk 141 [.val (.int .u32)]],[.val (.int .u32)],fun x=>qeb v9 x.1.1⟩
theorem wn0:GOk TT prog 155 qeb_sp:=za9 (C:=qeb_C) (cuts:=qo2) (by kernel_rfl) gx9 func155 (show f155.body=some (j5 f155) by kernel_rfl) (by kernel_rfl) (by kernel_rfl) (by kernel_rfl) fun x y h=>⟨v9,h⟩
noncomputable def qec_C:Ctx TT:=⟨za5,[],1,[],k9,za6⟩
theorem gu3:v7 TT prog qec_C.E:=v5
def qt0:List (Pos×Cut):= []
noncomputable def qec (n:Nat) (x0:Int):Option (((Int×Unit)×Unit)×(Int×Unit)):=zh5 TT prog qec_C qt0 f156 (j5 f156) ⟨[],[],[],[],[]⟩ [.ptr 0 141 [.val (.int .u32)]] [.blk 141 [.val (.int .u32)]] [.val (.int .u32)] n ((x0,()),())
theorem wm8 (n:Nat) (x0):qec n x0=some (((x0,()),()),(IntKind.u32.wrap (0-x0),())):=by kernel_rfl
noncomputable def qec_sp:GSpec TT:=⟨[.ptr 0 141 [.val (.int .u32)]],[.blk 141 [.val (.int .u32)]],[.val (.int .u32)],fun x=>qec v9 x.1.1⟩
theorem uf2:GOk TT prog 156 qec_sp:=za9 (C:=qec_C) (cuts:=qt0) (by kernel_rfl) gu3 func156 (show f156.body=some (j5 f156) by kernel_rfl) (by kernel_rfl) (by kernel_rfl) (by kernel_rfl) fun x y h=>⟨v9,h⟩
noncomputable def qc_C:Ctx TT:=⟨za5,[(144,qdq_sp.toCall (k7 TT)),(145,qdr_sp.toCall (k7 TT)),(146,qds_sp.toCall (k7 TT)),(147,qdt_sp.toCall (k7 TT)),(148,qdu_sp.toCall (k7 TT)),(149,qdv_sp.toCall (k7 TT)),(150,qdw_sp.toCall (k7 TT)),(151,qdx_sp.toCall (k7 TT)),(152,qdy_sp.toCall (k7 TT)),(153,qdz_sp.toCall (k7 TT)),(154,qea_sp.toCall (k7 TT)),(155,qeb_sp.toCall (k7 TT)),(156,qec_sp.toCall (k7 TT))],0,[],k9,za6⟩
theorem wl9:v7 TT prog qc_C.E:=w6 (k8 ul3 (j9 144)) (w6 (k8 uj3 (j9 145)) (w6 (k8 ud0 (j9 146)) (w6 (k8 uk7 (j9 147)) (w6 (k8 ws9 (j9 148)) (w6 (k8 ug7 (j9 149)) (w6 (k8 wn5 (j9 150)) (w6 (k8 ui7 (j9 151)) (w6 (k8 wm6 (j9 152)) (w6 (k8 ww9 (j9 153)) (w6 (k8 ws2 (j9 154)) (w6 (k8 wn0 (j9 155)) (w6 (k8 uf2 (j9 156)) (v5)))))))))))))
def qd1:List (Pos×Cut):= [([false,true],⟨[0,5,6,7,21],[],false,[],0,false⟩)]
noncomputable def qc (n:Nat) (x0 x1 x2 x3:Int):Option (Int×Int):=zg2 TT prog qc_C qd1 f110 (j5 f110) ⟨[],[]⟩ [.val (.int .u8),.val (.int .u32),.val (.int .u32),.val (.int .u32)] [.val (.int .u32),.val (.int .i64)] n (x0,x1,x2,x3)
noncomputable abbrev qc_z:=jz4 TT prog qc_C qd1 f110 (j5 f110) ⟨[],[]⟩ [.val (.int .u8),.val (.int .u32),.val (.int .u32),.val (.int .u32)] [.val (.int .u32),.val (.int .i64)]
noncomputable def vg9 (n:Nat) (s0:Int) (s21:Bool) (b0_0 b1_0 b2_0:Int):Option (Int×Int):=qc_z n [false,true] ⟨[(0,cu8 s0),(5,.ptr 0 0),(6,.ptr 1 0),(7,.ptr 2 0),(21,cb s21)],[.blk 141 [un4 b0_0],.blk 141 [un4 b1_0],.blk 141 [un4 b2_0]]⟩
theorem uv5 (n:Nat) (x0 x1 x2 x3):qc n x0 x1 x2 x3=q7 (x0==(4:Int)) (vg9 n x0 (x3==(0:Int)) x1 x2 x3) (q7 (x0==(5:Int)) (vg9 n x0 (x3==(0:Int)) x1 x2 x3) (vg9 n x0 false x1 x2 x3)):=by kernel_rfl
theorem kl2 (n:Nat) (s0 s21 b0_0 b1_0 b2_0):vg9 (n+1) s0 s21 b0_0 b1_0 b2_0=q7 s21 (some ((0:Int),(113:Int))) (if s0=(1:Int) then (j7 (qdq v9 b1_0 b2_0) fun y1=>some (y1.2.1,(0:Int))) else (if s0=(2:Int) then (j7 (qdr v9 b1_0 b2_0) fun y2=>some (y2.2.1,(0:Int))) else (if s0=(3:Int) then (j7 (qds v9 b1_0 b2_0) fun y3=>some (y3.2.1,(0:Int))) else (if s0=(4:Int) then (j7 (qdt v9 b1_0 b2_0) fun y4=>some (y4.2.1,(0:Int))) else (if s0=(5:Int) then (j7 (qdu v9 b1_0 b2_0) fun y5=>some (y5.2.1,(0:Int))) else (if s0=(6:Int) then (j7 (qdv v9 b1_0 b2_0) fun y6=>some (y6.2.1,(0:Int))) else (if s0=(7:Int) then (j7 (qdw v9 b1_0 b2_0) fun y7=>some (y7.2.1,(0:Int))) else (if s0=(8:Int) then (j7 (qdx v9 b1_0 b2_0) fun y8=>some (y8.2.1,(0:Int))) else (if s0=(9:Int) then (j7 (qdy v9 b1_0 b2_0 b0_0) fun y9=>some (y9.2.1,(0:Int))) else (if s0=(10:Int) then (j7 (qdz v9 b1_0 b2_0 b0_0) fun y10=>some (y10.2.1,(0:Int))) else (if s0=(11:Int) then (j7 (qea v9 b1_0 b2_0 b0_0) fun y11=>some (y11.2.1,(0:Int))) else (if s0=(12:Int) then (j7 (qeb v9 b2_0) fun y12=>some (y12.2.1,(0:Int))) else (if s0=(13:Int) then (j7 (qec v9 b1_0) fun y13=>some (y13.2.1,(0:Int))) else (some ((0:Int),(2:Int)))))))))))))))):=by kernel_rfl
noncomputable def qc_sp:FnSpec TT:=⟨[.val (.int .u8),.val (.int .u32),.val (.int .u32),.val (.int .u32)],[.val (.int .u32),.val (.int .i64)],fun x=>qc v9 x.1 x.2.1 x.2.2.1 x.2.2.2⟩
theorem ur0:ze8 TT prog 110 qc_sp:=za0 (C:=qc_C) (by kernel_rfl) wl9 func110 (show f110.body=some (j5 f110) by kernel_rfl) (by kernel_rfl) (by kernel_rfl) (cuts:=qd1) fun x y h=>⟨v9,h⟩
noncomputable def qed_C:Ctx TT:=⟨za5,[],2,[],k9,za6⟩
theorem gs8:v7 TT prog qed_C.E:=v5
def qw4:List (Pos×Cut):= []
noncomputable def qed (n:Nat) (x0 x1:Int):Option (((Int×Unit)×(Int×Unit)×Unit)×(Int×Unit)):=zh5 TT prog qed_C qw4 f157 (j5 f157) ⟨[],[],[],[],[]⟩ [.ptr 0 49 [.val (.int .u64)],.ptr 0 49 [.val (.int .u64)]] [.blk 49 [.val (.int .u64)],.blk 49 [.val (.int .u64)]] [.val (.int .u64)] n ((x0,()),(x1,()),())
theorem wt6 (n:Nat) (x0 x1):qed n x0 x1=some (((x0,()),(x1,()),()),(IntKind.u64.wrap (x0+x1),())):=by kernel_rfl
noncomputable def qed_sp:GSpec TT:=⟨[.ptr 0 49 [.val (.int .u64)],.ptr 0 49 [.val (.int .u64)]],[.blk 49 [.val (.int .u64)],.blk 49 [.val (.int .u64)]],[.val (.int .u64)],fun x=>qed v9 x.1.1 x.2.1.1⟩
theorem uc5:GOk TT prog 157 qed_sp:=za9 (C:=qed_C) (cuts:=qw4) (by kernel_rfl) gs8 func157 (show f157.body=some (j5 f157) by kernel_rfl) (by kernel_rfl) (by kernel_rfl) (by kernel_rfl) fun x y h=>⟨v9,h⟩
noncomputable def qee_C:Ctx TT:=⟨za5,[],2,[],k9,za6⟩
theorem gn1:v7 TT prog qee_C.E:=v5
def qy6:List (Pos×Cut):= []
noncomputable def qee (n:Nat) (x0 x1:Int):Option (((Int×Unit)×(Int×Unit)×Unit)×(Int×Unit)):=zh5 TT prog qee_C qy6 f158 (j5 f158) ⟨[],[],[],[],[]⟩ [.ptr 0 49 [.val (.int .u64)],.ptr 0 49 [.val (.int .u64)]] [.blk 49 [.val (.int .u64)],.blk 49 [.val (.int .u64)]] [.val (.int .u64)] n ((x0,()),(x1,()),())
theorem wz9 (n:Nat) (x0 x1):qee n x0 x1=some (((x0,()),(x1,()),()),(IntKind.u64.wrap (x0-x1),())):=by kernel_rfl
noncomputable def qee_sp:GSpec TT:=⟨[.ptr 0 49 [.val (.int .u64)],.ptr 0 49 [.val (.int .u64)]],[.blk 49 [.val (.int .u64)],.blk 49 [.val (.int .u64)]],[.val (.int .u64)],fun x=>qee v9 x.1.1 x.2.1.1⟩
theorem ub5:GOk TT prog 158 qee_sp:=za9 (C:=qee_C) (cuts:=qy6) (by kernel_rfl) gn1 func158 (show f158.body=some (j5 f158) by kernel_rfl) (by kernel_rfl) (by kernel_rfl) (by kernel_rfl) fun x y h=>⟨v9,h⟩
noncomputable def qef_C:Ctx TT:=⟨za5,[],2,[],k9,za6⟩
theorem gy3:v7 TT prog qef_C.E:=v5
def qy9:List (Pos×Cut):= []
noncomputable def qef (n:Nat) (x0 x1:Int):Option (((Int×Unit)×(Int×Unit)×Unit)×(Int×Unit)):=zh5 TT prog qef_C qy9 f159 (j5 f159) ⟨[],[],[],[],[]⟩ [.ptr 0 49 [.val (.int .u64)],.ptr 0 49 [.val (.int .u64)]] [.blk 49 [.val (.int .u64)],.blk 49 [.val (.int .u64)]] [.val (.int .u64)] n ((x0,()),(x1,()),())
theorem ug0 (n:Nat) (x0 x1):qef n x0 x1=some (((x0,()),(x1,()),()),(IntKind.u64.wrap (x0*x1),())):=by kernel_rfl
noncomputable def qef_sp:GSpec TT:=⟨[.ptr 0 49 [.val (.int .u64)],.ptr 0 49 [.val (.int .u64)]],[.blk 49 [.val (.int .u64)],.blk 49 [.val (.int .u64)]],[.val (.int .u64)],fun x=>qef v9 x.1.1 x.2.1.1⟩
theorem ue8:GOk TT prog 159 qef_sp:=za9 (C:=qef_C) (cuts:=qy9) (by kernel_rfl) gy3 func159 (show f159.body=some (j5 f159) by kernel_rfl) (by kernel_rfl) (by kernel_rfl) (by kernel_rfl) fun x y h=>⟨v9,h⟩
noncomputable def qeg_C:Ctx TT:=⟨za5,[],2,[],k9,za6⟩
theorem wb6:v7 TT prog qeg_C.E:=v5
def qu7:List (Pos×Cut):= []
noncomputable def qeg (n:Nat) (x0 x1:Int):Option (((Int×Unit)×(Int×Unit)×Unit)×(Int×Unit)):=zh5 TT prog qeg_C qu7 f160 (j5 f160) ⟨[],[],[],[],[]⟩ [.ptr 0 49 [.val (.int .u64)],.ptr 0 49 [.val (.int .u64)]] [.blk 49 [.val (.int .u64)],.blk 49 [.val (.int .u64)]] [.val (.int .u64)] n ((x0,()),(x1,()),())
theorem uj5 (n:Nat) (x0 x1):qeg n x0 x1=if x1=0 then none else (some (((x0,()),(x1,()),()),(IntKind.u64.wrap (x0.tdiv x1),()))):=by kernel_rfl
noncomputable def qeg_sp:GSpec TT:=⟨[.ptr 0 49 [.val (.int .u64)],.ptr 0 49 [.val (.int .u64)]],[.blk 49 [.val (.int .u64)],.blk 49 [.val (.int .u64)]],[.val (.int .u64)],fun x=>qeg v9 x.1.1 x.2.1.1⟩
theorem ug9:GOk TT prog 160 qeg_sp:=za9 (C:=qeg_C) (cuts:=qu7) (by kernel_rfl) wb6 func160 (show f160.body=some (j5 f160) by kernel_rfl) (by kernel_rfl) (by kernel_rfl) (by kernel_rfl) fun x y h=>⟨v9,h⟩
noncomputable def qeh_C:Ctx TT:=⟨za5,[],2,[],k9,za6⟩
theorem gj3:v7 TT prog qeh_C.E:=v5
def qv0:List (Pos×Cut):= []
noncomputable def qeh (n:Nat) (x0 x1:Int):Option (((Int×Unit)×(Int×Unit)×Unit)×(Int×Unit)):=zh5 TT prog qeh_C qv0 f161 (j5 f161) ⟨[],[],[],[],[]⟩ [.ptr 0 49 [.val (.int .u64)],.ptr 0 49 [.val (.int .u64)]] [.blk 49 [.val (.int .u64)],.blk 49 [.val (.int .u64)]] [.val (.int .u64)] n ((x0,()),(x1,()),())
theorem ue4 (n:Nat) (x0 x1):qeh n x0 x1=if x1=0 then none else (some (((x0,()),(x1,()),()),(x0.tmod x1,()))):=by kernel_rfl
noncomputable def qeh_sp:GSpec TT:=⟨[.ptr 0 49 [.val (.int .u64)],.ptr 0 49 [.val (.int .u64)]],[.blk 49 [.val (.int .u64)],.blk 49 [.val (.int .u64)]],[.val (.int .u64)],fun x=>qeh v9 x.1.1 x.2.1.1⟩
theorem ww5:GOk TT prog 161 qeh_sp:=za9 (C:=qeh_C) (cuts:=qv0) (by kernel_rfl) gj3 func161 (show f161.body=some (j5 f161) by kernel_rfl) (by kernel_rfl) (by kernel_rfl) (by kernel_rfl) fun x y h=>⟨v9,h⟩
noncomputable def qei_C:Ctx TT:=⟨za5,[],2,[],k9,za6⟩
theorem gz3:v7 TT prog qei_C.E:=v5
def qq0:List (Pos×Cut):= []
noncomputable def qei (n:Nat) (x0 x1:Int):Option (((Int×Unit)×(Int×Unit)×Unit)×(Int×Unit)):=zh5 TT prog qei_C qq0 f162 (j5 f162) ⟨[],[],[],[],[]⟩ [.ptr 0 49 [.val (.int .u64)],.ptr 0 49 [.val (.int .u64)]] [.blk 49 [.val (.int .u64)],.blk 49 [.val (.int .u64)]] [.val (.int .u64)] n ((x0,()),(x1,()),())
theorem wu9 (n:Nat) (x0 x1):qei n x0 x1=some (((x0,()),(x1,()),()),(zb1 .u64 x0 x1,())):=by kernel_rfl
noncomputable def qei_sp:GSpec TT:=⟨[.ptr 0 49 [.val (.int .u64)],.ptr 0 49 [.val (.int .u64)]],[.blk 49 [.val (.int .u64)],.blk 49 [.val (.int .u64)]],[.val (.int .u64)],fun x=>qei v9 x.1.1 x.2.1.1⟩
theorem uj2:GOk TT prog 162 qei_sp:=za9 (C:=qei_C) (cuts:=qq0) (by kernel_rfl) gz3 func162 (show f162.body=some (j5 f162) by kernel_rfl) (by kernel_rfl) (by kernel_rfl) (by kernel_rfl) fun x y h=>⟨v9,h⟩
noncomputable def qej_C:Ctx TT:=⟨za5,[],2,[],k9,za6⟩
theorem gt3:v7 TT prog qej_C.E:=v5
def qz0:List (Pos×Cut):= []
noncomputable def qej (n:Nat) (x0 x1:Int):Option (((Int×Unit)×(Int×Unit)×Unit)×(Int×Unit)):=zh5 TT prog qej_C qz0 f163 (j5 f163) ⟨[],[],[],[],[]⟩ [.ptr 0 49 [.val (.int .u64)],.ptr 0 49 [.val (.int .u64)]] [.blk 49 [.val (.int .u64)],.blk 49 [.val (.int .u64)]] [.val (.int .u64)] n ((x0,()),(x1,()),())
theorem uh2 (n:Nat) (x0 x1):qej n x0 x1=some (((x0,()),(x1,()),()),(bOr .u64 x0 x1,())):=by kernel_rfl
noncomputable def qej_sp:GSpec TT:=⟨[.ptr 0 49 [.val (.int .u64)],.ptr 0 49 [.val (.int .u64)]],[.blk 49 [.val (.int .u64)],.blk 49 [.val (.int .u64)]],[.val (.int .u64)],fun x=>qej v9 x.1.1 x.2.1.1⟩
theorem wx0:GOk TT prog 163 qej_sp:=za9 (C:=qej_C) (cuts:=qz0) (by kernel_rfl) gt3 func163 (show f163.body=some (j5 f163) by kernel_rfl) (by kernel_rfl) (by kernel_rfl) (by kernel_rfl) fun x y h=>⟨v9,h⟩
noncomputable def qek_C:Ctx TT:=⟨za5,[],2,[],k9,za6⟩
theorem wc9:v7 TT prog qek_C.E:=v5
def qr0:List (Pos×Cut):= []
noncomputable def qek (n:Nat) (x0 x1:Int):Option (((Int×Unit)×(Int×Unit)×Unit)×(Int×Unit)):=zh5 TT prog qek_C qr0 f164 (j5 f164) ⟨[],[],[],[],[]⟩ [.ptr 0 49 [.val (.int .u64)],.ptr 0 49 [.val (.int .u64)]] [.blk 49 [.val (.int .u64)],.blk 49 [.val (.int .u64)]] [.val (.int .u64)] n ((x0,()),(x1,()),())
theorem wz2 (n:Nat) (x0 x1):qek n x0 x1=some (((x0,()),(x1,()),()),(jc2 .u64 x0 x1,())):=by kernel_rfl
noncomputable def qek_sp:GSpec TT:=⟨[.ptr 0 49 [.val (.int .u64)],.ptr 0 49 [.val (.int .u64)]],[.blk 49 [.val (.int .u64)],.blk 49 [.val (.int .u64)]],[.val (.int .u64)],fun x=>qek v9 x.1.1 x.2.1.1⟩
theorem wn7:GOk TT prog 164 qek_sp:=za9 (C:=qek_C) (cuts:=qr0) (by kernel_rfl) wc9 func164 (show f164.body=some (j5 f164) by kernel_rfl) (by kernel_rfl) (by kernel_rfl) (by kernel_rfl) fun x y h=>⟨v9,h⟩
noncomputable def qel_C:Ctx TT:=⟨za5,[],3,[],k9,za6⟩
theorem wc8:v7 TT prog qel_C.E:=v5
def va8:List (Pos×Cut):= []
noncomputable def qel (n:Nat) (x0 x1 x2:Int):Option (((Int×Unit)×(Int×Unit)×(Int×Unit)×Unit)×(Int×Unit)):=zh5 TT prog qel_C va8 f165 (j5 f165) ⟨[],[],[],[],[]⟩ [.ptr 0 49 [.val (.int .u64)],.ptr 0 49 [.val (.int .u64)],.ptr 0 49 [.val (.int .u64)]] [.blk 49 [.val (.int .u64)],.blk 49 [.val (.int .u64)],.blk 49 [.val (.int .u64)]] [.val (.int .u64)] n ((x0,()),(x1,()),(x2,()),())
theorem uj9 (n:Nat) (x0 x1 x2):qel n x0 x1 x2=if x2=0 then none else (if x1.tmod x2<0 then none else (some (((x0,()),(x1,()),(x2,()),()),(ya4 .u64 x0 (x1.tmod x2),())))):=by kernel_rfl
noncomputable def qel_sp:GSpec TT:=⟨[.ptr 0 49 [.val (.int .u64)],.ptr 0 49 [.val (.int .u64)],.ptr 0 49 [.val (.int .u64)]],[.blk 49 [.val (.int .u64)],.blk 49 [.val (.int .u64)],.blk 49 [.val (.int .u64)]],[.val (.int .u64)],fun x=>qel v9 x.1.1 x.2.1.1 x.2.2.1.1⟩
theorem ul1:GOk TT prog 165 qel_sp:=za9 (C:=qel_C) (cuts:=va8) (by kernel_rfl) wc8 func165 (show f165.body=some (j5 f165) by kernel_rfl) (by kernel_rfl) (by kernel_rfl) (by kernel_rfl) fun x y h=>⟨v9,h⟩
noncomputable def qem_C:Ctx TT:=⟨za5,[],3,[],k9,za6⟩
theorem gl2:v7 TT prog qem_C.E:=v5
def vb9:List (Pos×Cut):= []
noncomputable def qem (n:Nat) (x0 x1 x2:Int):Option (((Int×Unit)×(Int×Unit)×(Int×Unit)×Unit)×(Int×Unit)):=zh5 TT prog qem_C vb9 f166 (j5 f166) ⟨[],[],[],[],[]⟩ [.ptr 0 49 [.val (.int .u64)],.ptr 0 49 [.val (.int .u64)],.ptr 0 49 [.val (.int .u64)]] [.blk 49 [.val (.int .u64)],.blk 49 [.val (.int .u64)],.blk 49 [.val (.int .u64)]] [.val (.int .u64)] n ((x0,()),(x1,()),(x2,()),())
theorem ud8 (n:Nat) (x0 x1 x2):qem n x0 x1 x2=if x2=0 then none else (if x1.tmod x2<0 then none else (some (((x0,()),(x1,()),(x2,()),()),(zc0 .u64 x0 (x1.tmod x2),())))):=by kernel_rfl
noncomputable def qem_sp:GSpec TT:=⟨[.ptr 0 49 [.val (.int .u64)],.ptr 0 49 [.val (.int .u64)],.ptr 0 49 [.val (.int .u64)]],[.blk 49 [.val (.int .u64)],.blk 49 [.val (.int .u64)],.blk 49 [.val (.int .u64)]],[.val (.int .u64)],fun x=>qem v9 x.1.1 x.2.1.1 x.2.2.1.1⟩
theorem wq1:GOk TT prog 166 qem_sp:=za9 (C:=qem_C) (cuts:=vb9) (by kernel_rfl) gl2 func166 (show f166.body=some (j5 f166) by kernel_rfl) (by kernel_rfl) (by kernel_rfl) (by kernel_rfl) fun x y h=>⟨v9,h⟩
noncomputable def qen_C:Ctx TT:=⟨za5,[],3,[],k9,za6⟩
theorem gl0:v7 TT prog qen_C.E:=v5
def qq5:List (Pos×Cut):= []
noncomputable def qen (n:Nat) (x0 x1 x2:Int):Option (((Int×Unit)×(Int×Unit)×(Int×Unit)×Unit)×(Int×Unit)):=zh5 TT prog qen_C qq5 f167 (j5 f167) ⟨[],[],[],[],[]⟩ [.ptr 0 49 [.val (.int .u64)],.ptr 0 49 [.val (.int .u64)],.ptr 0 49 [.val (.int .u64)]] [.blk 49 [.val (.int .u64)],.blk 49 [.val (.int .u64)],.blk 49 [.val (.int .u64)]] [.val (.int .u64)] n ((x0,()),(x1,()),(x2,()),())
theorem wo6 (n:Nat) (x0 x1 x2):qen n x0 x1 x2=if x2=0 then none else (if x1.tmod x2<0 then none else (some (((x0,()),(x1,()),(x2,()),()),(IntKind.u64.wrap (zc0 .i64 (IntKind.i64.wrap x0) (x1.tmod x2)),())))):=by kernel_rfl
noncomputable def qen_sp:GSpec TT:=⟨[.ptr 0 49 [.val (.int .u64)],.ptr 0 49 [.val (.int .u64)],.ptr 0 49 [.val (.int .u64)]],[.blk 49 [.val (.int .u64)],.blk 49 [.val (.int .u64)],.blk 49 [.val (.int .u64)]],[.val (.int .u64)],fun x=>qen v9 x.1.1 x.2.1.1 x.2.2.1.1⟩
theorem wl6:GOk TT prog 167 qen_sp:=za9 (C:=qen_C) (cuts:=qq5) (by kernel_rfl) gl0 func167 (show f167.body=some (j5 f167) by kernel_rfl) (by kernel_rfl) (by kernel_rfl) (by kernel_rfl) fun x y h=>⟨v9,h⟩
noncomputable def qeo_C:Ctx TT:=⟨za5,[],1,[],k9,za6⟩
theorem gs7:v7 TT prog qeo_C.E:=v5
def vb2:List (Pos×Cut):= []
noncomputable def qeo (n:Nat) (x0:Int):Option (((Int×Unit)×Unit)×(Int×Unit)):=zh5 TT prog qeo_C vb2 f168 (j5 f168) ⟨[],[],[],[],[]⟩ [.ptr 0 49 [.val (.int .u64)]] [.blk 49 [.val (.int .u64)]] [.val (.int .u64)] n ((x0,()),())
theorem uh3 (n:Nat) (x0):qeo n x0=some (((x0,()),()),(x0,())):=by kernel_rfl
noncomputable def qeo_sp:GSpec TT:=⟨[.ptr 0 49 [.val (.int .u64)]],[.blk 49 [.val (.int .u64)]],[.val (.int .u64)],fun x=>qeo v9 x.1.1⟩
theorem wn8:GOk TT prog 168 qeo_sp:=za9 (C:=qeo_C) (cuts:=vb2) (by kernel_rfl) gs7 func168 (show f168.body=some (j5 f168) by kernel_rfl) (by kernel_rfl) (by kernel_rfl) (by kernel_rfl) fun x y h=>⟨v9,h⟩
noncomputable def qep_C:Ctx TT:=⟨za5,[],1,[],k9,za6⟩
theorem gv9:v7 TT prog qep_C.E:=v5
def qw3:List (Pos×Cut):= []
noncomputable def qep (n:Nat) (x0:Int):Option (((Int×Unit)×Unit)×(Int×Unit)):=zh5 TT prog qep_C qw3 f169 (j5 f169) ⟨[],[],[],[],[]⟩ [.ptr 0 49 [.val (.int .u64)]] [.blk 49 [.val (.int .u64)]] [.val (.int .u64)] n ((x0,()),())
theorem wo4 (n:Nat) (x0):qep n x0=some (((x0,()),()),(IntKind.u64.wrap (0-x0),())):=by kernel_rfl
noncomputable def qep_sp:GSpec TT:=⟨[.ptr 0 49 [.val (.int .u64)]],[.blk 49 [.val (.int .u64)]],[.val (.int .u64)],fun x=>qep v9 x.1.1⟩
theorem ua9:GOk TT prog 169 qep_sp:=za9 (C:=qep_C) (cuts:=qw3) (by kernel_rfl) gv9 func169 (show f169.body=some (j5 f169) by kernel_rfl) (by kernel_rfl) (by kernel_rfl) (by kernel_rfl) fun x y h=>⟨v9,h⟩
noncomputable def qav_C:Ctx TT:=⟨za5,[(157,qed_sp.toCall (k7 TT)),(158,qee_sp.toCall (k7 TT)),(159,qef_sp.toCall (k7 TT)),(160,qeg_sp.toCall (k7 TT)),(161,qeh_sp.toCall (k7 TT)),(162,qei_sp.toCall (k7 TT)),(163,qej_sp.toCall (k7 TT)),(164,qek_sp.toCall (k7 TT)),(165,qel_sp.toCall (k7 TT)),(166,qem_sp.toCall (k7 TT)),(167,qen_sp.toCall (k7 TT)),(168,qeo_sp.toCall (k7 TT)),(169,qep_sp.toCall (k7 TT))],0,[],k9,za6⟩
theorem we0:v7 TT prog qav_C.E:=w6 (k8 uc5 (j9 157)) (w6 (k8 ub5 (j9 158)) (w6 (k8 ue8 (j9 159)) (w6 (k8 ug9 (j9 160)) (w6 (k8 ww5 (j9 161)) (w6 (k8 uj2 (j9 162)) (w6 (k8 wx0 (j9 163)) (w6 (k8 wn7 (j9 164)) (w6 (k8 ul1 (j9 165)) (w6 (k8 wq1 (j9 166)) (w6 (k8 wl6 (j9 167)) (w6 (k8 wn8 (j9 168)) (w6 (k8 ua9 (j9 169)) (v5)))))))))))))
def jm9:List (Pos×Cut):= [([false,true],⟨[0,5,6,7,21],[],false,[],0,false⟩)]
noncomputable def qav (n:Nat) (x0 x1 x2 x3:Int):Option (Int×Int):=zg2 TT prog qav_C jm9 f111 (j5 f111) ⟨[],[]⟩ [.val (.int .u8),.val (.int .u64),.val (.int .u64),.val (.int .u64)] [.val (.int .u64),.val (.int .i64)] n (x0,x1,x2,x3)
noncomputable abbrev ur5:=jz4 TT prog qav_C jm9 f111 (j5 f111) ⟨[],[]⟩ [.val (.int .u8),.val (.int .u64),.val (.int .u64),.val (.int .u64)] [.val (.int .u64),.val (.int .i64)]
noncomputable def js6 (n:Nat) (s0:Int) (s21:Bool) (b0_0 b1_0 b2_0:Int):Option (Int×Int):=ur5 n [false,true] ⟨[(0,cu8 s0),(5,.ptr 0 0),(6,.ptr 1 0),(7,.ptr 2 0),(21,cb s21)],[.blk 49 [w3 b0_0],.blk 49 [w3 b1_0],.blk 49 [w3 b2_0]]⟩
theorem wz1 (n:Nat) (x0 x1 x2 x3):qav n x0 x1 x2 x3=q7 (x0==(4:Int)) (js6 n x0 (x3==(0:Int)) x1 x2 x3) (q7 (x0==(5:Int)) (js6 n x0 (x3==(0:Int)) x1 x2 x3) (js6 n x0 false x1 x2 x3)):=by kernel_rfl
theorem ka6 (n:Nat) (s0 s21 b0_0 b1_0 b2_0):js6 (n+1) s0 s21 b0_0 b1_0 b2_0=q7 s21 (some ((0:Int),(113:Int))) (if s0=(1:Int) then (j7 (qed v9 b1_0 b2_0) fun y1=>some (y1.2.1,(0:Int))) else (if s0=(2:Int) then (j7 (qee v9 b1_0 b2_0) fun y2=>some (y2.2.1,(0:Int))) else (if s0=(3:Int) then (j7 (qef v9 b1_0 b2_0) fun y3=>some (y3.2.1,(0:Int))) else (if s0=(4:Int) then (j7 (qeg v9 b1_0 b2_0) fun y4=>some (y4.2.1,(0:Int))) else (if s0=(5:Int) then (j7 (qeh v9 b1_0 b2_0) fun y5=>some (y5.2.1,(0:Int))) else (if s0=(6:Int) then (j7 (qei v9 b1_0 b2_0) fun y6=>some (y6.2.1,(0:Int))) else (if s0=(7:Int) then (j7 (qej v9 b1_0 b2_0) fun y7=>some (y7.2.1,(0:Int))) else (if s0=(8:Int) then (j7 (qek v9 b1_0 b2_0) fun y8=>some (y8.2.1,(0:Int))) else (if s0=(9:Int) then (j7 (qel v9 b1_0 b2_0 b0_0) fun y9=>some (y9.2.1,(0:Int))) else (if s0=(10:Int) then (j7 (qem v9 b1_0 b2_0 b0_0) fun y10=>some (y10.2.1,(0:Int))) else (if s0=(11:Int) then (j7 (qen v9 b1_0 b2_0 b0_0) fun y11=>some (y11.2.1,(0:Int))) else (if s0=(12:Int) then (j7 (qeo v9 b2_0) fun y12=>some (y12.2.1,(0:Int))) else (if s0=(13:Int) then (j7 (qep v9 b1_0) fun y13=>some (y13.2.1,(0:Int))) else (some ((0:Int),(2:Int)))))))))))))))):=by kernel_rfl
noncomputable def qav_sp:FnSpec TT:=⟨[.val (.int .u8),.val (.int .u64),.val (.int .u64),.val (.int .u64)],[.val (.int .u64),.val (.int .i64)],fun x=>qav v9 x.1 x.2.1 x.2.2.1 x.2.2.2⟩
theorem ug4:ze8 TT prog 111 qav_sp:=za0 (C:=qav_C) (by kernel_rfl) we0 func111 (show f111.body=some (j5 f111) by kernel_rfl) (by kernel_rfl) (by kernel_rfl) (cuts:=jm9) fun x y h=>⟨v9,h⟩
noncomputable def qco_C:Ctx TT:=⟨za5,[(110,qc_sp.toCall),(111,qav_sp.toCall)],0,[],k9,za6⟩
theorem gt7:v7 TT prog qco_C.E:=w6 (q8 ur0) (w6 (q8 ug4) (v5))
def qt6:List (Pos×Cut):= []
noncomputable def qco (n:Nat) (x0:Int) (x1:Bool) (x2 x3:Int):Option (Int×Int):=zg2 TT prog qco_C qt6 f85 (j5 f85) ⟨[],[]⟩ [.val (.int .u8),.val (.bool),.val (.int .u64),.val (.int .u64)] [.val (.int .u64),.val (.int .i64)] n (x0,x1,x2,x3)
theorem wt8 (n:Nat) (x0 x1 x2 x3):qco n x0 x1 x2 x3=q7 x1 (j7 (qc v9 x0 (32:Int) (IntKind.u32.wrap x2) (IntKind.u32.wrap x3)) fun y1=>some (IntKind.u64.wrap y1.1,y1.2)) (j7 (qav v9 x0 (64:Int) x2 x3) fun y2=>some (y2.1,y2.2)):=by kernel_rfl
noncomputable def qco_sp:FnSpec TT:=⟨[.val (.int .u8),.val (.bool),.val (.int .u64),.val (.int .u64)],[.val (.int .u64),.val (.int .i64)],fun x=>qco v9 x.1 x.2.1 x.2.2.1 x.2.2.2⟩
theorem wo3:ze8 TT prog 85 qco_sp:=za0 (C:=qco_C) (by kernel_rfl) gt7 func85 (show f85.body=some (j5 f85) by kernel_rfl) (by kernel_rfl) (by kernel_rfl) (cuts:=qt6) fun x y h=>⟨v9,h⟩
noncomputable def qbh_C:Ctx TT:=⟨za5,[(205,qm_sp.toCall),(196,qao_sp.toCall),(194,qh_sp.toCall (k7 TT)),(85,qco_sp.toCall)],0,[],k9,za6⟩
theorem gm6:v7 TT prog qbh_C.E:=w6 (q8 vg1) (w6 (q8 gc4) (w6 (za1 yu1 (j9 194)) (w6 (q8 wo3) (v5))))
def jp5:List (Pos×Cut):= [([true],⟨[1,2],[],false,[],0,false⟩)]
noncomputable def qbh (n:Nat) (x0:Work):Option ((Unit)×((Span×Unit)⊕(Unit×Unit))):=zz4 TT prog qbh_C jp5 f191 (j5 f191) ⟨[],[],[],[],[]⟩ [.val (.user 6)] [] [.val (.user 0)] (.ifc 163 (.agg [])) n (x0,())
noncomputable abbrev uq6:=yr2 TT prog qbh_C jp5 f191 (j5 f191) ⟨[],[],[],[],[]⟩ [] [.val (.user 0)] (.ifc 163 (.agg []))
noncomputable def vj8 (n:Nat) (b0_0 b0_1 b0_2 b0_3:Int) (b0_4:Bool) (b0_5 b0_6 b1_0 b1_1:Int):Option ((Unit)×((Span×Unit)⊕(Unit×Unit))):=uq6 n [true] ⟨[(1,.ptr 0 0),(2,.ptr 1 0)],[.blk 166 [w3 b0_0,w3 b0_1,w3 b0_2,w3 b0_3,cb b0_4,w3 b0_5,w3 b0_6],.blk 57 [w3 b1_0,w3 b1_1]]⟩
theorem wl7 (n:Nat) (x0):qbh n x0=j7 (qm v9 (⟨x0.b_Lo,x0.b_Hi⟩:Span)) fun y1=>q7 y1 (j7 (qao v9 x0 (⟨x0.a_Lo,x0.a_Hi⟩:Span)) fun y2=>j7 (qh v9 (!y2)) fun y3=>match y3.2 with| .inl z3=>(vj8 n x0.a_Lo x0.a_Hi x0.b_Lo x0.b_Hi x0.narrow x0.most x0.size (0:Int) (0:Int))| .inr e3=>(some ((),.inr ((),())))) (j7 (qh v9 false) fun y4=>match y4.2 with| .inl z4=>(vj8 n x0.a_Lo x0.a_Hi x0.b_Lo x0.b_Hi x0.narrow x0.most x0.size (0:Int) (0:Int))| .inr e4=>(some ((),.inr ((),())))):=by kernel_rfl
theorem vx6 (n:Nat) (b0_0 b0_1 b0_2 b0_3 b0_4 b0_5 b0_6 b1_0 b1_1):vj8 (n+1) b0_0 b0_1 b0_2 b0_3 b0_4 b0_5 b0_6 b1_0 b1_1=j7 (qco v9 (11:Int) b0_4 b0_0 b0_2) fun y1=>j7 (qco v9 (11:Int) b0_4 b0_1 b0_2) fun y2=>some ((),.inl ((⟨y1.1,y2.1⟩:Span),())):=by kernel_rfl
noncomputable def qbh_sp:PSpec TT:=⟨[.val (.user 6)],[],[.val (.user 0)],.ifc 163 (.agg []),fun x=>qbh v9 x.1⟩
theorem wl8:POk TT prog 191 qbh_sp:=zf7 (C:=qbh_C) (cuts:=jp5) (by kernel_rfl) gm6 func191 (show f191.body=some (j5 f191) by kernel_rfl) (by kernel_rfl) (by kernel_rfl) (by kernel_rfl) fun x y h=>⟨v9,h⟩
noncomputable def qbt_C:Ctx TT:=⟨za5,[],0,[],k9,za6⟩
theorem gk0:v7 TT prog qbt_C.E:=v5
def qt4:List (Pos×Cut):= []
noncomputable def qbt (n:Nat) (x0:Work):Option (Span):=zg2 TT prog qbt_C qt4 f192 (j5 f192) ⟨[],[]⟩ [.val (.user 6)] [.val (.user 0)] n x0
theorem uj8 (n:Nat) (x0):qbt n x0=some (⟨x0.b_Lo,x0.b_Hi⟩:Span):=by kernel_rfl
noncomputable def qbt_sp:FnSpec TT:=⟨[.val (.user 6)],[.val (.user 0)],fun x=>qbt v9 x⟩
theorem wp4:ze8 TT prog 192 qbt_sp:=za0 (C:=qbt_C) (by kernel_rfl) gk0 func192 (show f192.body=some (j5 f192) by kernel_rfl) (by kernel_rfl) (by kernel_rfl) (cuts:=qt4) fun x y h=>⟨v9,h⟩
noncomputable def qdh_C:Ctx TT:=⟨za5,[(194,qh_sp.toCall (k7 TT)),(202,qat_sp.toCall)],0,[],k9,za6⟩
theorem gm3:v7 TT prog qdh_C.E:=w6 (za1 yu1 (j9 194)) (w6 (q8 vm4) (v5))
def qm9:List (Pos×Cut):= []
noncomputable def qdh (n:Nat) (x0:Work):Option ((Unit)×((Span×Unit)⊕(Unit×Unit))):=zz4 TT prog qdh_C qm9 f193 (j5 f193) ⟨[],[],[],[],[]⟩ [.val (.user 6)] [] [.val (.user 0)] (.ifc 163 (.agg [])) n (x0,())
theorem wt3 (n:Nat) (x0):qdh n x0=q7 (x0.a_Hi==(0:Int)) (some ((),.inl ((⟨x0.a_Lo,x0.a_Hi⟩:Span),()))) (j7 (qh v9 (decide (x0.a_Lo>(0:Int)))) fun y1=>match y1.2 with| .inl z1=>(j7 (qat v9 x0 (IntKind.u64.wrap (0-x0.a_Hi)) (IntKind.u64.wrap (0-x0.a_Lo))) fun y2=>some ((),.inl (y2,())))| .inr e1=>(some ((),.inr ((),())))):=by kernel_rfl
noncomputable def qdh_sp:PSpec TT:=⟨[.val (.user 6)],[],[.val (.user 0)],.ifc 163 (.agg []),fun x=>qdh v9 x.1⟩
theorem wx3:POk TT prog 193 qdh_sp:=zf7 (C:=qdh_C) (cuts:=qm9) (by kernel_rfl) gm3 func193 (show f193.body=some (j5 f193) by kernel_rfl) (by kernel_rfl) (by kernel_rfl) (by kernel_rfl) fun x y h=>⟨v9,h⟩
noncomputable def qn_C:Ctx TT:=⟨za5,[(137,qas_sp.toCall (k7 TT)),(106,qk_sp.toCall),(136,ql_sp.toCall),(108,qag_sp.toCall),(181,qbd_sp.toCall (k7 TT)),(182,qbe_sp.toCall (k7 TT)),(183,qbf_sp.toCall (k7 TT)),(184,qbr_sp.toCall),(185,qbs_sp.toCall),(186,qbl_sp.toCall),(187,qbm_sp.toCall),(188,qbn_sp.toCall),(189,qbg_sp.toCall (k7 TT)),(190,qaf_sp.toCall),(191,qbh_sp.toCall (k7 TT)),(192,qbt_sp.toCall),(193,qdh_sp.toCall (k7 TT))],0,[],k9,za6⟩
theorem wm9:v7 TT prog qn_C.E:=w6 (k8 wr7 (j9 137)) (w6 (q8 ki0) (w6 (q8 kf4) (w6 (q8 kw8) (w6 (za1 wx1 (j9 181)) (w6 (za1 wn3 (j9 182)) (w6 (za1 wz8 (j9 183)) (w6 (q8 wo9) (w6 (q8 wt4) (w6 (q8 ue2) (w6 (q8 wu8) (w6 (q8 uf8) (w6 (za1 ug3 (j9 189)) (w6 (q8 ul2) (w6 (za1 wl8 (j9 191)) (w6 (q8 wp4) (w6 (za1 wx3 (j9 193)) (v5)))))))))))))))))
def vt6:List (Pos×Cut):= []
noncomputable def uy8:DefP TT:=⟨3,31,[31,5,6,7,8,9],2,138,[(0,0),(1,0)],vp1,vt2⟩
noncomputable def qn (n:Nat) (x0:Int) (x1:Bool) (x2 x3:Span):Option ((Unit)×(Span×Unit)):=kj2 prog qn_C vt6 f105 (j5 f105) ⟨[],[],[],[],[]⟩ [.val (.int .u8),.val (.bool),.val (.user 0),.val (.user 0)] [] [.val (.user 0)] uy8 n (x0,x1,x2,x3,())
theorem yf6 (n:Nat) (x0 x1 x2 x3):qn n x0 x1 x2 x3=j7 (qas v9) fun y1=>if x0=(1:Int) then (j7 (qk v9 x2) fun y2=>q7 (!y2) (j7 (ql v9 x1) fun y3=>some ((),(y3,()))) (j7 (qk v9 x3) fun y4=>q7 (!y4) (j7 (ql v9 x1) fun y5=>some ((),(y5,()))) (j7 (qag v9 x1 x2 x3) fun y6=>j7 (qbd v9 y6) fun y7=>match y7.2 with| .inl z7=>(j7 (qau x1 z7.1.Lo z7.1.Hi) fun y8=>some ((),((⟨y8.2.1.1,y8.2.1.2.1⟩:Span),())))| .inr e7=>(j7 (qca x1 (0:Int) (0:Int)) fun y9=>some ((),((⟨y9.2.1.1,y9.2.1.2.1⟩:Span),())))))) else (if x0=(2:Int) then (j7 (qk v9 x2) fun y10=>q7 (!y10) (j7 (ql v9 x1) fun y11=>some ((),(y11,()))) (j7 (qk v9 x3) fun y12=>q7 (!y12) (j7 (ql v9 x1) fun y13=>some ((),(y13,()))) (j7 (qag v9 x1 x2 x3) fun y14=>j7 (qbe v9 y14) fun y15=>match y15.2 with| .inl z15=>(j7 (qau x1 z15.1.Lo z15.1.Hi) fun y16=>some ((),((⟨y16.2.1.1,y16.2.1.2.1⟩:Span),())))| .inr e15=>(j7 (qca x1 (0:Int) (0:Int)) fun y17=>some ((),((⟨y17.2.1.1,y17.2.1.2.1⟩:Span),())))))) else (if x0=(3:Int) then (j7 (qk v9 x2) fun y18=>q7 (!y18) (j7 (ql v9 x1) fun y19=>some ((),(y19,()))) (j7 (qk v9 x3) fun y20=>q7 (!y20) (j7 (ql v9 x1) fun y21=>some ((),(y21,()))) (j7 (qag v9 x1 x2 x3) fun y22=>j7 (qbf v9 y22) fun y23=>match y23.2 with| .inl z23=>(j7 (qau x1 z23.1.Lo z23.1.Hi) fun y24=>some ((),((⟨y24.2.1.1,y24.2.1.2.1⟩:Span),())))| .inr e23=>(j7 (qca x1 (0:Int) (0:Int)) fun y25=>some ((),((⟨y25.2.1.1,y25.2.1.2.1⟩:Span),())))))) else (if x0=(4:Int) then (j7 (qk v9 x2) fun y26=>q7 (!y26) (j7 (ql v9 x1) fun y27=>some ((),(y27,()))) (j7 (qk v9 x3) fun y28=>q7 (!y28) (j7 (ql v9 x1) fun y29=>some ((),(y29,()))) (j7 (qag v9 x1 x2 x3) fun y30=>j7 (qbr v9 y30) fun y31=>j7 (qau x1 y31.Lo y31.Hi) fun y32=>some ((),((⟨y32.2.1.1,y32.2.1.2.1⟩:Span),()))))) else (if x0=(5:Int) then (j7 (qk v9 x2) fun y33=>q7 (!y33) (j7 (ql v9 x1) fun y34=>some ((),(y34,()))) (j7 (qk v9 x3) fun y35=>q7 (!y35) (j7 (ql v9 x1) fun y36=>some ((),(y36,()))) (j7 (qag v9 x1 x2 x3) fun y37=>j7 (qbs v9 y37) fun y38=>j7 (qau x1 y38.Lo y38.Hi) fun y39=>some ((),((⟨y39.2.1.1,y39.2.1.2.1⟩:Span),()))))) else (if x0=(6:Int) then (j7 (qk v9 x2) fun y40=>q7 (!y40) (j7 (ql v9 x1) fun y41=>some ((),(y41,()))) (j7 (qk v9 x3) fun y42=>q7 (!y42) (j7 (ql v9 x1) fun y43=>some ((),(y43,()))) (j7 (qag v9 x1 x2 x3) fun y44=>j7 (qbl v9 y44) fun y45=>j7 (qau x1 y45.Lo y45.Hi) fun y46=>some ((),((⟨y46.2.1.1,y46.2.1.2.1⟩:Span),()))))) else (if x0=(7:Int) then (j7 (qk v9 x2) fun y47=>q7 (!y47) (j7 (ql v9 x1) fun y48=>some ((),(y48,()))) (j7 (qk v9 x3) fun y49=>q7 (!y49) (j7 (ql v9 x1) fun y50=>some ((),(y50,()))) (j7 (qag v9 x1 x2 x3) fun y51=>j7 (qbm v9 y51) fun y52=>j7 (qau x1 y52.Lo y52.Hi) fun y53=>some ((),((⟨y53.2.1.1,y53.2.1.2.1⟩:Span),()))))) else (if x0=(8:Int) then (j7 (qk v9 x2) fun y54=>q7 (!y54) (j7 (ql v9 x1) fun y55=>some ((),(y55,()))) (j7 (qk v9 x3) fun y56=>q7 (!y56) (j7 (ql v9 x1) fun y57=>some ((),(y57,()))) (j7 (qag v9 x1 x2 x3) fun y58=>j7 (qbn v9 y58) fun y59=>j7 (qau x1 y59.Lo y59.Hi) fun y60=>some ((),((⟨y60.2.1.1,y60.2.1.2.1⟩:Span),()))))) else (if x0=(9:Int) then (j7 (qk v9 x2) fun y61=>q7 (!y61) (j7 (ql v9 x1) fun y62=>some ((),(y62,()))) (j7 (qk v9 x3) fun y63=>q7 (!y63) (j7 (ql v9 x1) fun y64=>some ((),(y64,()))) (j7 (qag v9 x1 x2 x3) fun y65=>j7 (qbg v9 y65) fun y66=>match y66.2 with| .inl z66=>(j7 (qau x1 z66.1.Lo z66.1.Hi) fun y67=>some ((),((⟨y67.2.1.1,y67.2.1.2.1⟩:Span),())))| .inr e66=>(j7 (qca x1 (0:Int) (0:Int)) fun y68=>some ((),((⟨y68.2.1.1,y68.2.1.2.1⟩:Span),())))))) else (if x0=(10:Int) then (j7 (qk v9 x2) fun y69=>q7 (!y69) (j7 (ql v9 x1) fun y70=>some ((),(y70,()))) (j7 (qk v9 x3) fun y71=>q7 (!y71) (j7 (ql v9 x1) fun y72=>some ((),(y72,()))) (j7 (qag v9 x1 x2 x3) fun y73=>j7 (qaf v9 y73) fun y74=>j7 (qau x1 y74.Lo y74.Hi) fun y75=>some ((),((⟨y75.2.1.1,y75.2.1.2.1⟩:Span),()))))) else (if x0=(11:Int) then (j7 (qk v9 x2) fun y76=>q7 (!y76) (j7 (ql v9 x1) fun y77=>some ((),(y77,()))) (j7 (qk v9 x3) fun y78=>q7 (!y78) (j7 (ql v9 x1) fun y79=>some ((),(y79,()))) (j7 (qag v9 x1 x2 x3) fun y80=>j7 (qbh v9 y80) fun y81=>match y81.2 with| .inl z81=>(j7 (qau x1 z81.1.Lo z81.1.Hi) fun y82=>some ((),((⟨y82.2.1.1,y82.2.1.2.1⟩:Span),())))| .inr e81=>(j7 (qca x1 (0:Int) (0:Int)) fun y83=>some ((),((⟨y83.2.1.1,y83.2.1.2.1⟩:Span),())))))) else (if x0=(12:Int) then (j7 (qk v9 x2) fun y84=>q7 (!y84) (j7 (ql v9 x1) fun y85=>some ((),(y85,()))) (j7 (qk v9 x3) fun y86=>q7 (!y86) (j7 (ql v9 x1) fun y87=>some ((),(y87,()))) (j7 (qag v9 x1 x2 x3) fun y88=>j7 (qbt v9 y88) fun y89=>j7 (qau x1 y89.Lo y89.Hi) fun y90=>some ((),((⟨y90.2.1.1,y90.2.1.2.1⟩:Span),()))))) else (if x0=(13:Int) then (j7 (qk v9 x2) fun y91=>q7 (!y91) (j7 (ql v9 x1) fun y92=>some ((),(y92,()))) (j7 (qk v9 x3) fun y93=>q7 (!y93) (j7 (ql v9 x1) fun y94=>some ((),(y94,()))) (j7 (qag v9 x1 x2 x3) fun y95=>j7 (qdh v9 y95) fun y96=>match y96.2 with| .inl z96=>(j7 (qau x1 z96.1.Lo z96.1.Hi) fun y97=>some ((),((⟨y97.2.1.1,y97.2.1.2.1⟩:Span),())))| .inr e96=>(j7 (qca x1 (0:Int) (0:Int)) fun y98=>some ((),((⟨y98.2.1.1,y98.2.1.2.1⟩:Span),())))))) else (j7 (ql v9 x1) fun y99=>some ((),(y99,()))))))))))))))):=by kernel_rfl
noncomputable def qn_sp:GSpec TT:=⟨[.val (.int .u8),.val (.bool),.val (.user 0),.val (.user 0)],[],[.val (.user 0)],fun x=>qn v9 x.1 x.2.1 x.2.2.1 x.2.2.2.1⟩
theorem uq9:GOk TT prog 105 qn_sp:=yp3 (C:=qn_C) (cuts:=vt6) (D:=uy8) (by kernel_rfl) wm9 func105 (show f105.body=some (j5 f105) by kernel_rfl) (by kernel_rfl) (by kernel_rfl) (by kernel_rfl) gv1 gu5 fun x y h=>⟨v9,h⟩
noncomputable def qb_C:Ctx TT:=⟨za5,[(102,qw_sp.toCall),(103,qac_sp.toCall),(104,qbp_sp.toCall),(105,qn_sp.toCall (k7 TT))],0,[(20,1)],k9,za6⟩
theorem ub9:v7 TT prog qb_C.E:=w6 (q8 wh7) (w6 (q8 gc1) (w6 (q8 wq3) (w6 (k8 uq9 (j9 105)) (v5))))
def qd7:List (Pos×Cut):= [([true],⟨[0,1,6,7,8],[],false,[],0,false⟩),([false,false,true],⟨[0,1,6,7,8,15],[],false,[],0,false⟩),([true,true,false,false,true],⟨[0,1,6,7,8,33],[],false,[],0,false⟩),([true,true,true,true,false,false,true],⟨[0,1,6,7,8,51],[],false,[],0,false⟩),([true,true,true,true],⟨[0,1,6,8,10,11,12,13,14],[],false,[],0,false⟩),([false,false,true,true,true,true,true],⟨[0,1,6,8,10,11,12,13,14,90],[],false,[],0,false⟩),([true,true,false,false,true,true,true,true,true],⟨[0,1,6,8,10,12,14,109],[],false,[],0,false⟩),([true,true,true,true,false,false,true,true,true,true,true],⟨[0,6,8,12,120],[],false,[],0,false⟩),([false,true,true,true,true,false,false,true,true,true,true,true],⟨[0,6,8,12,14,120],[],false,[],0,false⟩)]
noncomputable def qb (n:Nat) (x0:Int) (x1:Bool) (x2 x3:Known):Option (Known×Int):=zg2 TT prog qb_C qd7 f78 (j5 f78) ⟨[],[]⟩ [.val (.int .u8),.val (.bool),.val (.user 1),.val (.user 1)] [.val (.user 1),.val (.int .i64)] n (x0,x1,x2,x3)
noncomputable abbrev vj2:=jz4 TT prog qb_C qd7 f78 (j5 f78) ⟨[],[]⟩ [.val (.int .u8),.val (.bool),.val (.user 1),.val (.user 1)] [.val (.user 1),.val (.int .i64)]
noncomputable def vi4 (n:Nat) (s0:Int) (s1 s15:Bool) (b0_0 b0_1 b0_2 b1_0 b1_1 b1_2 b2_0 b2_1 b2_2:Int):Option (Known×Int):=vj2 n [false,false,true] ⟨[(0,cu8 s0),(1,cb s1),(6,.ptr 0 0),(7,.ptr 1 0),(8,.ptr 2 0),(15,cb s15)],[.blk 59 [cu8 b0_0,w3 b0_1,w3 b0_2],.blk 59 [cu8 b1_0,w3 b1_1,w3 b1_2],.blk 59 [cu8 b2_0,w3 b2_1,w3 b2_2]]⟩
noncomputable def qe6 (n:Nat) (s0:Int) (s1 s33:Bool) (b0_0 b0_1 b0_2 b1_0 b1_1 b1_2 b2_0 b2_1 b2_2:Int):Option (Known×Int):=vj2 n [true,true,false,false,true] ⟨[(0,cu8 s0),(1,cb s1),(6,.ptr 0 0),(7,.ptr 1 0),(8,.ptr 2 0),(33,cb s33)],[.blk 59 [cu8 b0_0,w3 b0_1,w3 b0_2],.blk 59 [cu8 b1_0,w3 b1_1,w3 b1_2],.blk 59 [cu8 b2_0,w3 b2_1,w3 b2_2]]⟩
noncomputable def gf6 (n:Nat) (s0:Int) (s1 s51:Bool) (b0_0 b0_1 b0_2 b1_0 b1_1 b1_2 b2_0 b2_1 b2_2:Int):Option (Known×Int):=vj2 n [true,true,true,true,false,false,true] ⟨[(0,cu8 s0),(1,cb s1),(6,.ptr 0 0),(7,.ptr 1 0),(8,.ptr 2 0),(51,cb s51)],[.blk 59 [cu8 b0_0,w3 b0_1,w3 b0_2],.blk 59 [cu8 b1_0,w3 b1_1,w3 b1_2],.blk 59 [cu8 b2_0,w3 b2_1,w3 b2_2]]⟩
noncomputable def vf8 (n:Nat) (s0:Int) (s1:Bool) (b0_0 b0_1 b0_2 b1_0 b1_1 b1_2 b2_0 b2_1 b2_2:Int):Option (Known×Int):=vj2 n [true] ⟨[(0,cu8 s0),(1,cb s1),(6,.ptr 0 0),(7,.ptr 1 0),(8,.ptr 2 0)],[.blk 59 [cu8 b0_0,w3 b0_1,w3 b0_2],.blk 59 [cu8 b1_0,w3 b1_1,w3 b1_2],.blk 59 [cu8 b2_0,w3 b2_1,w3 b2_2]]⟩
noncomputable def qe9 (n:Nat) (s0:Int) (s1 s11 s13 s14:Bool) (b0_0 b0_1 b0_2 b1_0 b1_1 b1_2 b2_0 b2_1 b3_0 b3_1:Int):Option (Known×Int):=vj2 n [true,true,true,true] ⟨[(0,cu8 s0),(1,cb s1),(6,.ptr 0 0),(8,.ptr 1 0),(10,.ptr 2 0),(11,cb s11),(12,.ptr 3 0),(13,cb s13),(14,cb s14)],[.blk 59 [cu8 b0_0,w3 b0_1,w3 b0_2],.blk 59 [cu8 b1_0,w3 b1_1,w3 b1_2],.blk 57 [w3 b2_0,w3 b2_1],.blk 57 [w3 b3_0,w3 b3_1]]⟩
noncomputable def qi7 (n:Nat) (s0:Int) (s1 s11 s13 s14 s90:Bool) (b0_0 b0_1 b0_2 b1_0 b1_1 b1_2 b2_0 b2_1 b3_0 b3_1:Int):Option (Known×Int):=vj2 n [false,false,true,true,true,true,true] ⟨[(0,cu8 s0),(1,cb s1),(6,.ptr 0 0),(8,.ptr 1 0),(10,.ptr 2 0),(11,cb s11),(12,.ptr 3 0),(13,cb s13),(14,cb s14),(90,cb s90)],[.blk 59 [cu8 b0_0,w3 b0_1,w3 b0_2],.blk 59 [cu8 b1_0,w3 b1_1,w3 b1_2],.blk 57 [w3 b2_0,w3 b2_1],.blk 57 [w3 b3_0,w3 b3_1]]⟩
noncomputable def gg4 (n:Nat) (s0:Int) (s1 s14 s109:Bool) (b0_0 b0_1 b0_2 b1_0 b1_1 b1_2 b2_0 b2_1 b3_0 b3_1:Int):Option (Known×Int):=vj2 n [true,true,false,false,true,true,true,true,true] ⟨[(0,cu8 s0),(1,cb s1),(6,.ptr 0 0),(8,.ptr 1 0),(10,.ptr 2 0),(12,.ptr 3 0),(14,cb s14),(109,cb s109)],[.blk 59 [cu8 b0_0,w3 b0_1,w3 b0_2],.blk 59 [cu8 b1_0,w3 b1_1,w3 b1_2],.blk 57 [w3 b2_0,w3 b2_1],.blk 57 [w3 b3_0,w3 b3_1]]⟩
noncomputable def gi6 (n:Nat) (s0:Int) (s14 s120:Bool) (b0_0 b0_1 b0_2 b1_0 b1_1 b1_2 b2_0 b2_1:Int):Option (Known×Int):=vj2 n [false,true,true,true,true,false,false,true,true,true,true,true] ⟨[(0,cu8 s0),(6,.ptr 0 0),(8,.ptr 1 0),(12,.ptr 2 0),(14,cb s14),(120,cb s120)],[.blk 59 [cu8 b0_0,w3 b0_1,w3 b0_2],.blk 59 [cu8 b1_0,w3 b1_1,w3 b1_2],.blk 57 [w3 b2_0,w3 b2_1]]⟩
noncomputable def ve0 (n:Nat) (s0:Int) (s120:Bool) (b0_0 b0_1 b0_2 b1_0 b1_1 b1_2 b2_0 b2_1:Int):Option (Known×Int):=vj2 n [true,true,true,true,false,false,true,true,true,true,true] ⟨[(0,cu8 s0),(6,.ptr 0 0),(8,.ptr 1 0),(12,.ptr 2 0),(120,cb s120)],[.blk 59 [cu8 b0_0,w3 b0_1,w3 b0_2],.blk 59 [cu8 b1_0,w3 b1_1,w3 b1_2],.blk 57 [w3 b2_0,w3 b2_1]]⟩
theorem uw7 (n:Nat) (x0 x1 x2 x3):qb n x0 x1 x2 x3=q7 (decide (x0<(1:Int))) (vi4 n x0 x1 true x2.Kind x2.In_Lo x2.In_Hi x3.Kind x3.In_Lo x3.In_Hi (0:Int) (0:Int) (0:Int)) (q7 (decide (x0>(13:Int))) (vi4 n x0 x1 true x2.Kind x2.In_Lo x2.In_Hi x3.Kind x3.In_Lo x3.In_Hi (0:Int) (0:Int) (0:Int)) (j7 (qw v9 x2) fun y1=>q7 (!y1) (vi4 n x0 x1 true x2.Kind x2.In_Lo x2.In_Hi x3.Kind x3.In_Lo x3.In_Hi (0:Int) (0:Int) (0:Int)) (j7 (qw v9 x3) fun y2=>vi4 n x0 x1 (!y2) x2.Kind x2.In_Lo x2.In_Hi x3.Kind x3.In_Lo x3.In_Hi (0:Int) (0:Int) (0:Int)))):=by kernel_rfl
theorem kv1 (n:Nat) (s0 s1 s15 b0_0 b0_1 b0_2 b1_0 b1_1 b1_2 b2_0 b2_1 b2_2):vi4 (n+1) s0 s1 s15 b0_0 b0_1 b0_2 b1_0 b1_1 b1_2 b2_0 b2_1 b2_2=q7 s15 (some ((⟨(0:Int),(0:Int),(0:Int)⟩:Known),(2:Int))) (q7 (s0 != (12:Int)) (q7 (b0_0==(0:Int)) (qe6 n s0 s1 true b0_0 b0_1 b0_2 b1_0 b1_1 b1_2 b2_0 b2_1 b2_2) (q7 (s0 != (13:Int)) (qe6 n s0 s1 (b1_0==(0:Int)) b0_0 b0_1 b0_2 b1_0 b1_1 b1_2 b2_0 b2_1 b2_2) (qe6 n s0 s1 false b0_0 b0_1 b0_2 b1_0 b1_1 b1_2 b2_0 b2_1 b2_2))) (q7 (s0 != (13:Int)) (qe6 n s0 s1 (b1_0==(0:Int)) b0_0 b0_1 b0_2 b1_0 b1_1 b1_2 b2_0 b2_1 b2_2) (qe6 n s0 s1 false b0_0 b0_1 b0_2 b1_0 b1_1 b1_2 b2_0 b2_1 b2_2))):=by kernel_rfl
theorem kl4 (n:Nat) (s0 s1 s33 b0_0 b0_1 b0_2 b1_0 b1_1 b1_2 b2_0 b2_1 b2_2):qe6 (n+1) s0 s1 s33 b0_0 b0_1 b0_2 b1_0 b1_1 b1_2 b2_0 b2_1 b2_2=q7 s33 (some ((⟨(0:Int),(0:Int),(0:Int)⟩:Known),(110:Int))) (q7 (s0==(12:Int)) (gf6 n s0 s1 (!s1) b0_0 b0_1 b0_2 b1_0 b1_1 b1_2 b2_0 b2_1 b2_2) (gf6 n s0 s1 false b0_0 b0_1 b0_2 b1_0 b1_1 b1_2 b2_0 b2_1 b2_2)):=by kernel_rfl
theorem kw0 (n:Nat) (s0 s1 s51 b0_0 b0_1 b0_2 b1_0 b1_1 b1_2 b2_0 b2_1 b2_2):gf6 (n+1) s0 s1 s51 b0_0 b0_1 b0_2 b1_0 b1_1 b1_2 b2_0 b2_1 b2_2=q7 s51 (some ((⟨b1_0,b1_1,b1_2⟩:Known),(0:Int))) (q7 (s0==(12:Int)) (vf8 n s0 s1 b1_0 b1_1 b1_2 b1_0 b1_1 b1_2 b2_0 b2_1 b2_2) (q7 (s0==(13:Int)) (vf8 n s0 s1 b0_0 b0_1 b0_2 b0_0 b0_1 b0_2 b2_0 b2_1 b2_2) (vf8 n s0 s1 b0_0 b0_1 b0_2 b1_0 b1_1 b1_2 b2_0 b2_1 b2_2))):=by kernel_rfl
theorem kr4 (n:Nat) (s0 s1 b0_0 b0_1 b0_2 b1_0 b1_1 b1_2 b2_0 b2_1 b2_2):vf8 (n+1) s0 s1 b0_0 b0_1 b0_2 b1_0 b1_1 b1_2 b2_0 b2_1 b2_2=j7 (qac v9 (⟨b0_0,b0_1,b0_2⟩:Known)) fun y1=>j7 (qac v9 (⟨b1_0,b1_1,b1_2⟩:Known)) fun y2=>q7 (s0==(1:Int)) (q7 (!s1) (qe9 n s0 s1 y1.2 y2.2 y2.2 b0_0 b0_1 b0_2 b2_0 b2_1 b2_2 y1.1.Lo y1.1.Hi y2.1.Lo y2.1.Hi) (qe9 n s0 s1 y1.2 y2.2 false b0_0 b0_1 b0_2 b2_0 b2_1 b2_2 y1.1.Lo y1.1.Hi y2.1.Lo y2.1.Hi)) (q7 (s0==(2:Int)) (q7 (!s1) (qe9 n s0 s1 y1.2 y2.2 y2.2 b0_0 b0_1 b0_2 b2_0 b2_1 b2_2 y1.1.Lo y1.1.Hi y2.1.Lo y2.1.Hi) (qe9 n s0 s1 y1.2 y2.2 false b0_0 b0_1 b0_2 b2_0 b2_1 b2_2 y1.1.Lo y1.1.Hi y2.1.Lo y2.1.Hi)) (qe9 n s0 s1 y1.2 y2.2 false b0_0 b0_1 b0_2 b2_0 b2_1 b2_2 y1.1.Lo y1.1.Hi y2.1.Lo y2.1.Hi)):=by kernel_rfl
theorem kr9 (n:Nat) (s0 s1 s11 s13 s14 b0_0 b0_1 b0_2 b1_0 b1_1 b1_2 b2_0 b2_1 b3_0 b3_1):qe9 (n+1) s0 s1 s11 s13 s14 b0_0 b0_1 b0_2 b1_0 b1_1 b1_2 b2_0 b2_1 b3_0 b3_1=q7 s11 (q7 s13 (q7 (s0==(4:Int)) (j7 (qbp v9 (⟨b3_0,b3_1⟩:Span) s1) fun y1=>qi7 n s0 s1 s11 s13 s14 y1 b0_0 b0_1 b0_2 b1_0 b1_1 b1_2 b2_0 b2_1 b3_0 b3_1) (q7 (s0==(5:Int)) (j7 (qbp v9 (⟨b3_0,b3_1⟩:Span) s1) fun y2=>qi7 n s0 s1 s11 s13 s14 y2 b0_0 b0_1 b0_2 b1_0 b1_1 b1_2 b2_0 b2_1 b3_0 b3_1) (qi7 n s0 s1 s11 s13 s14 false b0_0 b0_1 b0_2 b1_0 b1_1 b1_2 b2_0 b2_1 b3_0 b3_1))) (qi7 n s0 s1 s11 s13 s14 false b0_0 b0_1 b0_2 b1_0 b1_1 b1_2 b2_0 b2_1 b3_0 b3_1)) (qi7 n s0 s1 s11 s13 s14 false b0_0 b0_1 b0_2 b1_0 b1_1 b1_2 b2_0 b2_1 b3_0 b3_1):=by kernel_rfl
theorem kp1 (n:Nat) (s0 s1 s11 s13 s14 s90 b0_0 b0_1 b0_2 b1_0 b1_1 b1_2 b2_0 b2_1 b3_0 b3_1):qi7 (n+1) s0 s1 s11 s13 s14 s90 b0_0 b0_1 b0_2 b1_0 b1_1 b1_2 b2_0 b2_1 b3_0 b3_1=q7 s90 (some ((⟨(0:Int),(0:Int),(0:Int)⟩:Known),(113:Int))) (q7 s11 (gg4 n s0 s1 s14 s13 b0_0 b0_1 b0_2 b1_0 b1_1 b1_2 b2_0 b2_1 b3_0 b3_1) (gg4 n s0 s1 s14 false b0_0 b0_1 b0_2 b1_0 b1_1 b1_2 b2_0 b2_1 b3_0 b3_1)):=by kernel_rfl
theorem km6 (n:Nat) (s0 s1 s14 s109 b0_0 b0_1 b0_2 b1_0 b1_1 b1_2 b2_0 b2_1 b3_0 b3_1):gg4 (n+1) s0 s1 s14 s109 b0_0 b0_1 b0_2 b1_0 b1_1 b1_2 b2_0 b2_1 b3_0 b3_1=q7 s109 (j7 (qn v9 s0 s1 (⟨b2_0,b2_1⟩:Span) (⟨b3_0,b3_1⟩:Span)) fun y1=>some ((⟨(1:Int),y1.2.1.Lo,y1.2.1.Hi⟩:Known),(0:Int))) (q7 s14 (gi6 n s0 s14 (b0_0==(2:Int)) b0_0 b0_1 b0_2 b1_0 b1_1 b1_2 b3_0 b3_1) (gi6 n s0 s14 false b0_0 b0_1 b0_2 b1_0 b1_1 b1_2 b3_0 b3_1)):=by kernel_rfl
theorem kl1 (n:Nat) (s0 s14 s120 b0_0 b0_1 b0_2 b1_0 b1_1 b1_2 b2_0 b2_1):gi6 (n+1) s0 s14 s120 b0_0 b0_1 b0_2 b1_0 b1_1 b1_2 b2_0 b2_1=q7 s120 (ve0 n s0 s120 b0_0 b0_1 b0_2 b1_0 b1_1 b1_2 b2_0 b2_1) (q7 s14 (q7 (b0_0==(3:Int)) (ve0 n s0 (b2_0==b2_1) b0_0 b0_1 b0_2 b1_0 b1_1 b1_2 b2_0 b2_1) (ve0 n s0 false b0_0 b0_1 b0_2 b1_0 b1_1 b1_2 b2_0 b2_1)) (ve0 n s0 false b0_0 b0_1 b0_2 b1_0 b1_1 b1_2 b2_0 b2_1)):=by kernel_rfl
theorem ko3 (n:Nat) (s0 s120 b0_0 b0_1 b0_2 b1_0 b1_1 b1_2 b2_0 b2_1):ve0 (n+1) s0 s120 b0_0 b0_1 b0_2 b1_0 b1_1 b1_2 b2_0 b2_1=q7 s120 (j7 (qn v9 s0 false (⟨b0_1,b0_2⟩:Span) (⟨b2_0,b2_1⟩:Span)) fun y1=>some ((⟨b0_0,y1.2.1.Lo,y1.2.1.Hi⟩:Known),(0:Int))) (some ((⟨(0:Int),(0:Int),(0:Int)⟩:Known),(114:Int))):=by kernel_rfl
noncomputable def qb_sp:FnSpec TT:=⟨[.val (.int .u8),.val (.bool),.val (.user 1),.val (.user 1)],[.val (.user 1),.val (.int .i64)],fun x=>qb v9 x.1 x.2.1 x.2.2.1 x.2.2.2⟩
theorem ur9:ze8 TT prog 78 qb_sp:=za0 (C:=qb_C) (by kernel_rfl) ub9 func78 (show f78.body=some (j5 f78) by kernel_rfl) (by kernel_rfl) (by kernel_rfl) (cuts:=qd7) fun x y h=>⟨v9,h⟩
end Go.X
