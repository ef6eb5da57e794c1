import Derived.Test.YtnhnejjdokeikaaGreatIp
set_option linter.defProp false
namespace Go.X
open Go.RowKit Go.V Go.Proofs Tryz
noncomputable section
def gq2:KG:=⟨eN,2,[],[],f131,n0,[.c2,.c2],[.c5,.c5],[.a9]⟩
def qek (n:Nat) (x0 x1:Int):Option u10:=tG gq2 n ((x0,()),(x1,()),())
def wt3 (n:Nat) (x0 x1):qek n x0 x1=some (((x0,()),(x1,()),()),(IntKind.u32.wrap (x0+x1),())):=by kernel_rfl
def wt4:=okG gq2 func131
def gr1:KG:=⟨eN,2,[],[],f132,n0,[.c2,.c2],[.c5,.c5],[.a9]⟩
def qet (n:Nat) (x0 x1:Int):Option u10:=tG gr1 n ((x0,()),(x1,()),())
def wv2 (n:Nat) (x0 x1):qet n x0 x1=some (((x0,()),(x1,()),()),(IntKind.u32.wrap (x0-x1),())):=by kernel_rfl
def wv3:=okG gr1 func132
def gr2:KG:=⟨eN,2,[],[],f133,n0,[.c2,.c2],[.c5,.c5],[.a9]⟩
def qeu (n:Nat) (x0 x1:Int):Option u10:=tG gr2 n ((x0,()),(x1,()),())
def wv4 (n:Nat) (x0 x1):qeu n x0 x1=some (((x0,()),(x1,()),()),(IntKind.u32.wrap (x0*x1),())):=by kernel_rfl
def wv5:=okG gr2 func133
def gr3:KG:=⟨eN,2,[],[],f134,n0,[.c2,.c2],[.c5,.c5],[.a9]⟩
def qev (n:Nat) (x0 x1:Int):Option u10:=tG gr3 n ((x0,()),(x1,()),())
def wv6 (n:Nat) (x0 x1):qev n x0 x1=if x1=0 then none else (some (((x0,()),(x1,()),()),(IntKind.u32.wrap (x0.tdiv x1),()))):=by kernel_rfl
def wv7:=okG gr3 func134
def gr4:KG:=⟨eN,2,[],[],f135,n0,[.c2,.c2],[.c5,.c5],[.a9]⟩
def qew (n:Nat) (x0 x1:Int):Option u10:=tG gr4 n ((x0,()),(x1,()),())
def wv8 (n:Nat) (x0 x1):qew n x0 x1=if x1=0 then none else (some (((x0,()),(x1,()),()),(x0.tmod x1,()))):=by kernel_rfl
def wv9:=okG gr4 func135
def gr5:KG:=⟨eN,2,[],[],f136,n0,[.c2,.c2],[.c5,.c5],[.a9]⟩
def qex (n:Nat) (x0 x1:Int):Option u10:=tG gr5 n ((x0,()),(x1,()),())
def ww0 (n:Nat) (x0 x1):qex n x0 x1=some (((x0,()),(x1,()),()),(w8 .u32 x0 x1,())):=by kernel_rfl
def ww1:=okG gr5 func136
def gr6:KG:=⟨eN,2,[],[],f137,n0,[.c2,.c2],[.c5,.c5],[.a9]⟩
def qey (n:Nat) (x0 x1:Int):Option u10:=tG gr6 n ((x0,()),(x1,()),())
def ww2 (n:Nat) (x0 x1):qey n x0 x1=some (((x0,()),(x1,()),()),(bOr .u32 x0 x1,())):=by kernel_rfl
def ww3:=okG gr6 func137
def gr7:KG:=⟨eN,2,[],[],f138,n0,[.c2,.c2],[.c5,.c5],[.a9]⟩
def qez (n:Nat) (x0 x1:Int):Option u10:=tG gr7 n ((x0,()),(x1,()),())
def ww4 (n:Nat) (x0 x1):qez n x0 x1=some (((x0,()),(x1,()),()),(vv2 .u32 x0 x1,())):=by kernel_rfl
def ww5:=okG gr7 func138
def gs0:KG:=⟨eN,3,[],[],f139,n0,[.c2,.c2,.c2],[.c5,.c5,.c5],[.a9]⟩
def qfa (n:Nat) (x0 x1 x2:Int):Option u17:=tG gs0 n ((x0,()),(x1,()),(x2,()),())
def ww6 (n:Nat) (x0 x1 x2):qfa n x0 x1 x2=if x2=0 then none else (if x1.tmod x2<0 then none else (some (((x0,()),(x1,()),(x2,()),()),(zm2 .u32 x0 (x1.tmod x2),())))):=by kernel_rfl
def ww7:=okG gs0 func139
def gp3:KG:=⟨eN,3,[],[],f140,n0,[.c2,.c2,.c2],[.c5,.c5,.c5],[.a9]⟩
def qeb (n:Nat) (x0 x1 x2:Int):Option u17:=tG gp3 n ((x0,()),(x1,()),(x2,()),())
def wr5 (n:Nat) (x0 x1 x2):qeb n x0 x1 x2=if x2=0 then none else (if x1.tmod x2<0 then none else (some (((x0,()),(x1,()),(x2,()),()),(zr0 .u32 x0 (x1.tmod x2),())))):=by kernel_rfl
def wr6:=okG gp3 func140
def gp4:KG:=⟨eN,3,[],[],f141,n0,[.c2,.c2,.c2],[.c5,.c5,.c5],[.a9]⟩
def qec (n:Nat) (x0 x1 x2:Int):Option u17:=tG gp4 n ((x0,()),(x1,()),(x2,()),())
def wr7 (n:Nat) (x0 x1 x2):qec n x0 x1 x2=if x2=0 then none else (if x1.tmod x2<0 then none else (some (((x0,()),(x1,()),(x2,()),()),(IntKind.u32.wrap (zr0 .i32 (IntKind.i32.wrap x0) (x1.tmod x2)),())))):=by kernel_rfl
def wr8:=okG gp4 func141
def gp5:KG:=⟨eN,1,[],[],f142,n0,[.c2],[.c5],[.a9]⟩
def qed (n:Nat) (x0:Int):Option ((u4×Unit)×u4):=tG gp5 n ((x0,()),())
def wr9 (n:Nat) (x0):qed n x0=some (((x0,()),()),(x0,())):=by kernel_rfl
def ws0:=okG gp5 func142
def gp6:KG:=⟨eN,1,[],[],f143,n0,[.c2],[.c5],[.a9]⟩
def qee (n:Nat) (x0:Int):Option ((u4×Unit)×u4):=tG gp6 n ((x0,()),())
def ws1 (n:Nat) (x0):qee n x0=some (((x0,()),()),(IntKind.u32.wrap (0-x0),())):=by kernel_rfl
def ws2:=okG gp6 func143
def kt2:KF:=⟨cG wt4 (cG wv3 (cG wv5 (cG wv7 (cG wv9 (cG ww1 (cG ww3 (cG ww5 (cG ww7 (cG wr6 (cG wr8 (cG ws0 (cG ws2 eN)))))))))))),0,[],[([O,I],qt [0,5,6,7,21])],f121,z0,[.b2,.a9,.a9,.a9],[.a9,.a1]⟩
def qbh (n:Nat) (x0 x1 x2 x3:Int):Option (Int×Int):=tF kt2 n (x0,x1,x2,x3)
def jl8 (n:Nat) (s0:Int) (s21:Bool) (b0_0 b1_0 b2_0:Int):Option (Int×Int):=uF kt2 n [O,I] ⟨[(0,cu8 s0),(5,.ptr 0 0),(6,.ptr 1 0),(7,.ptr 2 0),(21,cb s21)],[.blk 147 [ub0 b0_0],.blk 147 [ub0 b1_0],.blk 147 [ub0 b2_0]]⟩
def wh5 (n:Nat) (x0 x1 x2 x3):qbh n x0 x1 x2 x3=j9 (x0==(4:Int)) (jl8 n x0 (x3==(0:Int)) x1 x2 x3) (j9 (x0==(5:Int)) (jl8 n x0 (x3==(0:Int)) x1 x2 x3) (jl8 n x0 false x1 x2 x3)):=by kernel_rfl
def vo5 (n:Nat) (s0 s21 b0_0 b1_0 b2_0):jl8 (n+1) s0 s21 b0_0 b1_0 b2_0=j9 s21 (some ((0:Int),(113:Int))) (if s0=(1:Int) then (j7 (qek v8 b1_0 b2_0) fun y1=>some (y1.2.1,(0:Int))) else (if s0=(2:Int) then (j7 (qet v8 b1_0 b2_0) fun y2=>some (y2.2.1,(0:Int))) else (if s0=(3:Int) then (j7 (qeu v8 b1_0 b2_0) fun y3=>some (y3.2.1,(0:Int))) else (if s0=(4:Int) then (j7 (qev v8 b1_0 b2_0) fun y4=>some (y4.2.1,(0:Int))) else (if s0=(5:Int) then (j7 (qew v8 b1_0 b2_0) fun y5=>some (y5.2.1,(0:Int))) else (if s0=(6:Int) then (j7 (qex v8 b1_0 b2_0) fun y6=>some (y6.2.1,(0:Int))) else (if s0=(7:Int) then (j7 (qey v8 b1_0 b2_0) fun y7=>some (y7.2.1,(0:Int))) else (if s0=(8:Int) then (j7 (qez v8 b1_0 b2_0) fun y8=>some (y8.2.1,(0:Int))) else (if s0=(9:Int) then (j7 (qfa v8 b1_0 b2_0 b0_0) fun y9=>some (y9.2.1,(0:Int))) else (if s0=(10:Int) then (j7 (qeb v8 b1_0 b2_0 b0_0) fun y10=>some (y10.2.1,(0:Int))) else (if s0=(11:Int) then (j7 (qec v8 b1_0 b2_0 b0_0) fun y11=>some (y11.2.1,(0:Int))) else (if s0=(12:Int) then (j7 (qed v8 b2_0) fun y12=>some (y12.2.1,(0:Int))) else (if s0=(13:Int) then (j7 (qee v8 b1_0) fun y13=>some (y13.2.1,(0:Int))) else (some ((0:Int),(2:Int)))))))))))))))):=by kernel_rfl
def wh6:=okF kt2 func121
def gp7:KG:=⟨eN,2,[],[],f144,n0,[.b7,.b7],[.c1,.c1],[.a6]⟩
def qef (n:Nat) (x0 x1:Int):Option u10:=tG gp7 n ((x0,()),(x1,()),())
def ws3 (n:Nat) (x0 x1):qef n x0 x1=some (((x0,()),(x1,()),()),(IntKind.u64.wrap (x0+x1),())):=by kernel_rfl
def ws4:=okG gp7 func144
def gp8:KG:=⟨eN,2,[],[],f145,n0,[.b7,.b7],[.c1,.c1],[.a6]⟩
def qeg (n:Nat) (x0 x1:Int):Option u10:=tG gp8 n ((x0,()),(x1,()),())
def ws5 (n:Nat) (x0 x1):qeg n x0 x1=some (((x0,()),(x1,()),()),(IntKind.u64.wrap (x0-x1),())):=by kernel_rfl
def ws6:=okG gp8 func145
def gp9:KG:=⟨eN,2,[],[],f146,n0,[.b7,.b7],[.c1,.c1],[.a6]⟩
def qeh (n:Nat) (x0 x1:Int):Option u10:=tG gp9 n ((x0,()),(x1,()),())
def ws7 (n:Nat) (x0 x1):qeh n x0 x1=some (((x0,()),(x1,()),()),(IntKind.u64.wrap (x0*x1),())):=by kernel_rfl
def ws8:=okG gp9 func146
def gq0:KG:=⟨eN,2,[],[],f147,n0,[.b7,.b7],[.c1,.c1],[.a6]⟩
def qei (n:Nat) (x0 x1:Int):Option u10:=tG gq0 n ((x0,()),(x1,()),())
def ws9 (n:Nat) (x0 x1):qei n x0 x1=if x1=0 then none else (some (((x0,()),(x1,()),()),(IntKind.u64.wrap (x0.tdiv x1),()))):=by kernel_rfl
def wt0:=okG gq0 func147
def gq1:KG:=⟨eN,2,[],[],f148,n0,[.b7,.b7],[.c1,.c1],[.a6]⟩
def qej (n:Nat) (x0 x1:Int):Option u10:=tG gq1 n ((x0,()),(x1,()),())
def wt1 (n:Nat) (x0 x1):qej n x0 x1=if x1=0 then none else (some (((x0,()),(x1,()),()),(x0.tmod x1,()))):=by kernel_rfl
def wt2:=okG gq1 func148
def gq3:KG:=⟨eN,2,[],[],f149,n0,[.b7,.b7],[.c1,.c1],[.a6]⟩
def qel (n:Nat) (x0 x1:Int):Option u10:=tG gq3 n ((x0,()),(x1,()),())
def wt5 (n:Nat) (x0 x1):qel n x0 x1=some (((x0,()),(x1,()),()),(w8 .u64 x0 x1,())):=by kernel_rfl
def wt6:=okG gq3 func149
def gq4:KG:=⟨eN,2,[],[],f150,n0,[.b7,.b7],[.c1,.c1],[.a6]⟩
def qem (n:Nat) (x0 x1:Int):Option u10:=tG gq4 n ((x0,()),(x1,()),())
def wt7 (n:Nat) (x0 x1):qem n x0 x1=some (((x0,()),(x1,()),()),(bOr .u64 x0 x1,())):=by kernel_rfl
def wt8:=okG gq4 func150
def gq5:KG:=⟨eN,2,[],[],f151,n0,[.b7,.b7],[.c1,.c1],[.a6]⟩
def qen (n:Nat) (x0 x1:Int):Option u10:=tG gq5 n ((x0,()),(x1,()),())
def wt9 (n:Nat) (x0 x1):qen n x0 x1=some (((x0,()),(x1,()),()),(vv2 .u64 x0 x1,())):=by kernel_rfl
def wu0:=okG gq5 func151
def gq6:KG:=⟨eN,3,[],[],f152,n0,[.b7,.b7,.b7],[.c1,.c1,.c1],[.a6]⟩
def qeo (n:Nat) (x0 x1 x2:Int):Option u17:=tG gq6 n ((x0,()),(x1,()),(x2,()),())
def wu1 (n:Nat) (x0 x1 x2):qeo n x0 x1 x2=if x2=0 then none else (if x1.tmod x2<0 then none else (some (((x0,()),(x1,()),(x2,()),()),(zm2 .u64 x0 (x1.tmod x2),())))):=by kernel_rfl
def wu2:=okG gq6 func152
def gq7:KG:=⟨eN,3,[],[],f153,n0,[.b7,.b7,.b7],[.c1,.c1,.c1],[.a6]⟩
def qep (n:Nat) (x0 x1 x2:Int):Option u17:=tG gq7 n ((x0,()),(x1,()),(x2,()),())
def wu3 (n:Nat) (x0 x1 x2):qep n x0 x1 x2=if x2=0 then none else (if x1.tmod x2<0 then none else (some (((x0,()),(x1,()),(x2,()),()),(zr0 .u64 x0 (x1.tmod x2),())))):=by kernel_rfl
def wu4:=okG gq7 func153
def gq8:KG:=⟨eN,3,[],[],f154,n0,[.b7,.b7,.b7],[.c1,.c1,.c1],[.a6]⟩
def qeq (n:Nat) (x0 x1 x2:Int):Option u17:=tG gq8 n ((x0,()),(x1,()),(x2,()),())
def wu5 (n:Nat) (x0 x1 x2):qeq n x0 x1 x2=if x2=0 then none else (if x1.tmod x2<0 then none else (some (((x0,()),(x1,()),(x2,()),()),(IntKind.u64.wrap (zr0 .i64 (IntKind.i64.wrap x0) (x1.tmod x2)),())))):=by kernel_rfl
def wu6:=okG gq8 func154
def gq9:KG:=⟨eN,1,[],[],f155,n0,[.b7],[.c1],[.a6]⟩
def qer (n:Nat) (x0:Int):Option ((u4×Unit)×u4):=tG gq9 n ((x0,()),())
def wu7 (n:Nat) (x0):qer n x0=some (((x0,()),()),(x0,())):=by kernel_rfl
def wu9:=okG gq9 func155
def gr0:KG:=⟨eN,1,[],[],f156,n0,[.b7],[.c1],[.a6]⟩
def qes (n:Nat) (x0:Int):Option ((u4×Unit)×u4):=tG gr0 n ((x0,()),())
def wv0 (n:Nat) (x0):qes n x0=some (((x0,()),()),(IntKind.u64.wrap (0-x0),())):=by kernel_rfl
def wv1:=okG gr0 func156
def kt3:KF:=⟨cG ws4 (cG ws6 (cG ws8 (cG wt0 (cG wt2 (cG wt6 (cG wt8 (cG wu0 (cG wu2 (cG wu4 (cG wu6 (cG wu9 (cG wv1 eN)))))))))))),0,[],[([O,I],qt [0,5,6,7,21])],f122,z0,[.b2,.a6,.a6,.a6],[.a6,.a1]⟩
def qbi (n:Nat) (x0 x1 x2 x3:Int):Option (Int×Int):=tF kt3 n (x0,x1,x2,x3)
def jl9 (n:Nat) (s0:Int) (s21:Bool) (b0_0 b1_0 b2_0:Int):Option (Int×Int):=uF kt3 n [O,I] ⟨[(0,cu8 s0),(5,.ptr 0 0),(6,.ptr 1 0),(7,.ptr 2 0),(21,cb s21)],[.blk 37 [qq6 b0_0],.blk 37 [qq6 b1_0],.blk 37 [qq6 b2_0]]⟩
def wh7 (n:Nat) (x0 x1 x2 x3):qbi n x0 x1 x2 x3=j9 (x0==(4:Int)) (jl9 n x0 (x3==(0:Int)) x1 x2 x3) (j9 (x0==(5:Int)) (jl9 n x0 (x3==(0:Int)) x1 x2 x3) (jl9 n x0 false x1 x2 x3)):=by kernel_rfl
def vo6 (n:Nat) (s0 s21 b0_0 b1_0 b2_0):jl9 (n+1) s0 s21 b0_0 b1_0 b2_0=j9 s21 (some ((0:Int),(113:Int))) (if s0=(1:Int) then (j7 (qef v8 b1_0 b2_0) fun y1=>some (y1.2.1,(0:Int))) else (if s0=(2:Int) then (j7 (qeg v8 b1_0 b2_0) fun y2=>some (y2.2.1,(0:Int))) else (if s0=(3:Int) then (j7 (qeh v8 b1_0 b2_0) fun y3=>some (y3.2.1,(0:Int))) else (if s0=(4:Int) then (j7 (qei v8 b1_0 b2_0) fun y4=>some (y4.2.1,(0:Int))) else (if s0=(5:Int) then (j7 (qej v8 b1_0 b2_0) fun y5=>some (y5.2.1,(0:Int))) else (if s0=(6:Int) then (j7 (qel v8 b1_0 b2_0) fun y6=>some (y6.2.1,(0:Int))) else (if s0=(7:Int) then (j7 (qem v8 b1_0 b2_0) fun y7=>some (y7.2.1,(0:Int))) else (if s0=(8:Int) then (j7 (qen v8 b1_0 b2_0) fun y8=>some (y8.2.1,(0:Int))) else (if s0=(9:Int) then (j7 (qeo v8 b1_0 b2_0 b0_0) fun y9=>some (y9.2.1,(0:Int))) else (if s0=(10:Int) then (j7 (qep v8 b1_0 b2_0 b0_0) fun y10=>some (y10.2.1,(0:Int))) else (if s0=(11:Int) then (j7 (qeq v8 b1_0 b2_0 b0_0) fun y11=>some (y11.2.1,(0:Int))) else (if s0=(12:Int) then (j7 (qer v8 b2_0) fun y12=>some (y12.2.1,(0:Int))) else (if s0=(13:Int) then (j7 (qes v8 b1_0) fun y13=>some (y13.2.1,(0:Int))) else (some ((0:Int),(2:Int)))))))))))))))):=by kernel_rfl
def wh8:=okF kt3 func122
def gm0:KF:=⟨cF wh6 (cF wh8 eN),0,[],[],f109,z0,[.b2,.a4,.a6,.a6],[.a6,.a1]⟩
def qci (n:Nat) (x0:Int) (x1:Bool) (x2 x3:Int):Option (Int×Int):=tF gm0 n (x0,x1,x2,x3)
def wj8 (n:Nat) (x0 x1 x2 x3):qci n x0 x1 x2 x3=j9 x1 (j7 (qbh v8 x0 (32:Int) (IntKind.u32.wrap x2) (IntKind.u32.wrap x3)) fun y1=>some (IntKind.u64.wrap y1.1,y1.2)) (j7 (qbi v8 x0 (64:Int) x2 x3) fun y2=>some (y2.1,y2.2)):=by kernel_rfl
def km7:=okF gm0 func109
def gs1:KF:=⟨eN,0,[],[],f128,z0,[.b2,.a9,.a9],[.a4,.a1]⟩
def qfb (n:Nat) (x0 x1 x2:Int):Option (Bool×Int):=tF gs1 n (x0,x1,x2)
def ww8 (n:Nat) (x0 x1 x2):qfb n x0 x1 x2=j9 (x0==(17:Int)) (some (x1==x2,(0:Int))) (j9 (x0==(18:Int)) (some (x1 != x2,(0:Int))) (j9 (x0==(19:Int)) (some (decide (x1>x2),(0:Int))) (j9 (x0==(20:Int)) (some (decide (x1>=x2),(0:Int))) (j9 (x0==(21:Int)) (some (decide (x1<x2),(0:Int))) (j9 (x0==(22:Int)) (some (decide (x1<=x2),(0:Int))) (j9 (x0==(23:Int)) (some (decide ((IntKind.i32.wrap x1)>(IntKind.i32.wrap x2)),(0:Int))) (j9 (x0==(24:Int)) (some (decide ((IntKind.i32.wrap x1)>=(IntKind.i32.wrap x2)),(0:Int))) (j9 (x0==(25:Int)) (some (decide ((IntKind.i32.wrap x1)<(IntKind.i32.wrap x2)),(0:Int))) (j9 (x0==(26:Int)) (some (decide ((IntKind.i32.wrap x1)<=(IntKind.i32.wrap x2)),(0:Int))) (j9 (x0==(27:Int)) (some ((w8 .u32 x1 x2) != (0:Int),(0:Int))) (some (false,(2:Int))))))))))))):=by kernel_rfl
def ww9:=okF gs1 func128
def gs2:KF:=⟨eN,0,[],[],f129,z0,[.b2,.a6,.a6],[.a4,.a1]⟩
def qfc (n:Nat) (x0 x1 x2:Int):Option (Bool×Int):=tF gs2 n (x0,x1,x2)
def wx0 (n:Nat) (x0 x1 x2):qfc n x0 x1 x2=j9 (x0==(17:Int)) (some (x1==x2,(0:Int))) (j9 (x0==(18:Int)) (some (x1 != x2,(0:Int))) (j9 (x0==(19:Int)) (some (decide (x1>x2),(0:Int))) (j9 (x0==(20:Int)) (some (decide (x1>=x2),(0:Int))) (j9 (x0==(21:Int)) (some (decide (x1<x2),(0:Int))) (j9 (x0==(22:Int)) (some (decide (x1<=x2),(0:Int))) (j9 (x0==(23:Int)) (some (decide ((IntKind.i64.wrap x1)>(IntKind.i64.wrap x2)),(0:Int))) (j9 (x0==(24:Int)) (some (decide ((IntKind.i64.wrap x1)>=(IntKind.i64.wrap x2)),(0:Int))) (j9 (x0==(25:Int)) (some (decide ((IntKind.i64.wrap x1)<(IntKind.i64.wrap x2)),(0:Int))) (j9 (x0==(26:Int)) (some (decide ((IntKind.i64.wrap x1)<=(IntKind.i64.wrap x2)),(0:Int))) (j9 (x0==(27:Int)) (some ((w8 .u64 x1 x2) != (0:Int),(0:Int))) (some (false,(2:Int))))))))))))):=by kernel_rfl
def wx1:=okF gs2 func129
def gn5:KF:=⟨cF ww9 (cF wx1 eN),0,[],[],f114,z0,[.b2,.a4,.a6,.a6],[.a4,.a1]⟩
def qdj (n:Nat) (x0:Int) (x1:Bool) (x2 x3:Int):Option (Bool×Int):=tF gn5 n (x0,x1,x2,x3)
def wo1 (n:Nat) (x0 x1 x2 x3):qdj n x0 x1 x2 x3=j9 x1 (j7 (qfb v8 x0 (IntKind.u32.wrap x2) (IntKind.u32.wrap x3)) fun y1=>some (y1.1,y1.2)) (j7 (qfc v8 x0 x2 x3) fun y2=>some (y2.1,y2.2)):=by kernel_rfl
def wo2:=okF gn5 func114
def ks4:KF:=⟨eN,0,[],[([O,O,I],qt [0,3])],f71,z0,[.b2],[.a1]⟩
def qap (n:Nat) (x0:Int):Option (Int):=tF ks4 n x0
def va1 (n:Nat) (s0:Int) (s3:Bool):Option (Int):=uF ks4 n [O,O,I] ⟨[(0,cu8 s0),(3,cb s3)],[]⟩
def kk3 (n:Nat) (x0):qap n x0=j9 (decide (x0>=(1:Int))) (va1 n x0 (decide (x0<=(12:Int)))) (va1 n x0 false):=by kernel_rfl
def jt4 (n:Nat) (s0 s3):va1 (n+1) s0 s3=j9 s3 (some (201:Int)) (j9 (s0==(13:Int)) (some (193:Int)) (j9 (s0==(14:Int)) (some (181:Int)) (j9 (s0==(15:Int)) (some (186:Int)) (j9 (s0==(16:Int)) (some (144:Int)) (j9 (decide (s0>=(17:Int))) (j9 (decide (s0<=(27:Int))) (some (218:Int)) (j9 (s0==(28:Int)) (some (128:Int)) (some (0:Int)))) (j9 (s0==(28:Int)) (some (128:Int)) (some (0:Int)))))))):=by kernel_rfl
def kk4:=okF ks4 func71
def gs9:KF:=⟨cF kk4 eN,0,[(1,1),(2,1),(3,1)],[],f55,z0,[.b1],[.d1]⟩
def qfj (n:Nat) (x0:List Int):Option (Ins):=tF gs9 n x0
def wy3:=okF gs9 func55
def go9:KF:=⟨eN,0,[],[([O,I,O,I],qt [0,1,7,8])],f105,z0,[.val (.list (.int .i64)),.a1],[.a1]⟩
def qdx (n:Nat) (x0:List Int) (x1:Int):Option (Int):=tF go9 n (x0,x1)
def kn9:=okF go9 func105
def gm6:KF:=⟨cF kn9 eN,0,[],[],f72,z0,[.val (.list (.int .i64)),.a1],[.a4]⟩
def qco (n:Nat) (x0:List Int) (x1:Int):Option (Bool):=tF gm6 n (x0,x1)
def kn3 (n:Nat) (x0 x1):qco n x0 x1=j7 (qdx v8 x0 x1) fun y1=>some (decide (y1>=(0:Int))):=by kernel_rfl
def wk4:=okF gm6 func72
def gl1:KF:=⟨eN,0,[],[],f73,z0,[.a1,.a1,.a1],[.a4]⟩
def qbv (n:Nat) (x0 x1 x2:Int):Option (Bool):=tF gl1 n (x0,x1,x2)
def km0 (n:Nat) (x0 x1 x2):qbv n x0 x1 x2=j9 (decide (x0>=x1)) (some (decide (x0<=x2))) (some false):=by kernel_rfl
def wi9:=okF gl1 func73
def js3:KF:=⟨cF kk4 (cF wk4 (cF wi9 eN)),0,[(8,1)],[([I,I,I],qt [1,3,4]),([I,I,I,I],qt [1,3,4]),([O,I,I,I,I],qt [1,3,4,31]),([I,I,I,I,I],qt [1,3,4]),([O,I,I,I,I,I],qt [1,3,4,41]),([I,I,I,I,I,I],qt [1,3,4]),([I,I,I,I,I,I,I],qt [1,3,4]),([I,I,I,I,I,I,I,I],qt [1,3,4]),([I,I,I,I,I,I,I,I,I,I],qt [1,3,4,5]),([I,I,I,I,I,I,I,I,I,I,I],qt [1,3,4,5,6])],f56,z0,[.d1],[.a4]⟩
def qa (n:Nat) (x0:Ins):Option (Bool):=tF js3 n x0
def kr1 (n:Nat) (s3 b0_0:Int) (b0_1:Bool) (b0_2 b0_3:Int) (b0_4:Bool) (b0_5 b0_6 b0_7 b1_0:Int) (b1_1:Bool) (b1_2 b1_3:Int) (b1_4:Bool) (b1_5 b1_6 b1_7:Int):Option (Bool):=uF js3 n [I,I,I] ⟨[(1,.ptr 0 0),(3,ci s3),(4,.ptr 1 0)],[.k1 b0_0 b0_1 b0_2 b0_3 b0_4 b0_5 b0_6 b0_7,.k1 b1_0 b1_1 b1_2 b1_3 b1_4 b1_5 b1_6 b1_7]⟩
def vs7 (n:Nat) (s3:Int) (s31:Bool) (b0_0:Int) (b0_1:Bool) (b0_2 b0_3:Int) (b0_4:Bool) (b0_5 b0_6 b0_7 b1_0:Int) (b1_1:Bool) (b1_2 b1_3:Int) (b1_4:Bool) (b1_5 b1_6 b1_7:Int):Option (Bool):=uF js3 n [O,I,I,I,I] ⟨[(1,.ptr 0 0),(3,ci s3),(4,.ptr 1 0),(31,cb s31)],[.k1 b0_0 b0_1 b0_2 b0_3 b0_4 b0_5 b0_6 b0_7,.k1 b1_0 b1_1 b1_2 b1_3 b1_4 b1_5 b1_6 b1_7]⟩
def kr2 (n:Nat) (s3 b0_0:Int) (b0_1:Bool) (b0_2 b0_3:Int) (b0_4:Bool) (b0_5 b0_6 b0_7 b1_0:Int) (b1_1:Bool) (b1_2 b1_3:Int) (b1_4:Bool) (b1_5 b1_6 b1_7:Int):Option (Bool):=uF js3 n [I,I,I,I] ⟨[(1,.ptr 0 0),(3,ci s3),(4,.ptr 1 0)],[.k1 b0_0 b0_1 b0_2 b0_3 b0_4 b0_5 b0_6 b0_7,.k1 b1_0 b1_1 b1_2 b1_3 b1_4 b1_5 b1_6 b1_7]⟩
def kr4 (n:Nat) (s3:Int) (s41:Bool) (b0_0:Int) (b0_1:Bool) (b0_2 b0_3:Int) (b0_4:Bool) (b0_5 b0_6 b0_7 b1_0:Int) (b1_1:Bool) (b1_2 b1_3:Int) (b1_4:Bool) (b1_5 b1_6 b1_7:Int):Option (Bool):=uF js3 n [O,I,I,I,I,I] ⟨[(1,.ptr 0 0),(3,ci s3),(4,.ptr 1 0),(41,cb s41)],[.k1 b0_0 b0_1 b0_2 b0_3 b0_4 b0_5 b0_6 b0_7,.k1 b1_0 b1_1 b1_2 b1_3 b1_4 b1_5 b1_6 b1_7]⟩
def kr3 (n:Nat) (s3 b0_0:Int) (b0_1:Bool) (b0_2 b0_3:Int) (b0_4:Bool) (b0_5 b0_6 b0_7 b1_0:Int) (b1_1:Bool) (b1_2 b1_3:Int) (b1_4:Bool) (b1_5 b1_6 b1_7:Int):Option (Bool):=uF js3 n [I,I,I,I,I] ⟨[(1,.ptr 0 0),(3,ci s3),(4,.ptr 1 0)],[.k1 b0_0 b0_1 b0_2 b0_3 b0_4 b0_5 b0_6 b0_7,.k1 b1_0 b1_1 b1_2 b1_3 b1_4 b1_5 b1_6 b1_7]⟩
def kr5 (n:Nat) (s3 b0_0:Int) (b0_1:Bool) (b0_2 b0_3:Int) (b0_4:Bool) (b0_5 b0_6 b0_7 b1_0:Int) (b1_1:Bool) (b1_2 b1_3:Int) (b1_4:Bool) (b1_5 b1_6 b1_7:Int):Option (Bool):=uF js3 n [I,I,I,I,I,I] ⟨[(1,.ptr 0 0),(3,ci s3),(4,.ptr 1 0)],[.k1 b0_0 b0_1 b0_2 b0_3 b0_4 b0_5 b0_6 b0_7,.k1 b1_0 b1_1 b1_2 b1_3 b1_4 b1_5 b1_6 b1_7]⟩
def kr6 (n:Nat) (s3 b0_0:Int) (b0_1:Bool) (b0_2 b0_3:Int) (b0_4:Bool) (b0_5 b0_6 b0_7 b1_0:Int) (b1_1:Bool) (b1_2 b1_3:Int) (b1_4:Bool) (b1_5 b1_6 b1_7:Int):Option (Bool):=uF js3 n [I,I,I,I,I,I,I] ⟨[(1,.ptr 0 0),(3,ci s3),(4,.ptr 1 0)],[.k1 b0_0 b0_1 b0_2 b0_3 b0_4 b0_5 b0_6 b0_7,.k1 b1_0 b1_1 b1_2 b1_3 b1_4 b1_5 b1_6 b1_7]⟩
def kr7 (n:Nat) (s3 b0_0:Int) (b0_1:Bool) (b0_2 b0_3:Int) (b0_4:Bool) (b0_5 b0_6 b0_7 b1_0:Int) (b1_1:Bool) (b1_2 b1_3:Int) (b1_4:Bool) (b1_5 b1_6 b1_7:Int):Option (Bool):=uF js3 n [I,I,I,I,I,I,I,I] ⟨[(1,.ptr 0 0),(3,ci s3),(4,.ptr 1 0)],[.k1 b0_0 b0_1 b0_2 b0_3 b0_4 b0_5 b0_6 b0_7,.k1 b1_0 b1_1 b1_2 b1_3 b1_4 b1_5 b1_6 b1_7]⟩
def kr8 (n:Nat) (s3 s5 b0_0:Int) (b0_1:Bool) (b0_2 b0_3:Int) (b0_4:Bool) (b0_5 b0_6 b0_7 b1_0:Int) (b1_1:Bool) (b1_2 b1_3:Int) (b1_4:Bool) (b1_5 b1_6 b1_7:Int):Option (Bool):=uF js3 n [I,I,I,I,I,I,I,I,I,I] ⟨[(1,.ptr 0 0),(3,ci s3),(4,.ptr 1 0),(5,ci s5)],[.k1 b0_0 b0_1 b0_2 b0_3 b0_4 b0_5 b0_6 b0_7,.k1 b1_0 b1_1 b1_2 b1_3 b1_4 b1_5 b1_6 b1_7]⟩
def jo4 (n:Nat) (s3 s5:Int) (s6:Bool) (b0_0:Int) (b0_1:Bool) (b0_2 b0_3:Int) (b0_4:Bool) (b0_5 b0_6 b0_7 b1_0:Int) (b1_1:Bool) (b1_2 b1_3:Int) (b1_4:Bool) (b1_5 b1_6 b1_7:Int):Option (Bool):=uF js3 n [I,I,I,I,I,I,I,I,I,I,I] ⟨[(1,.ptr 0 0),(3,ci s3),(4,.ptr 1 0),(5,ci s5),(6,cb s6)],[.k1 b0_0 b0_1 b0_2 b0_3 b0_4 b0_5 b0_6 b0_7,.k1 b1_0 b1_1 b1_2 b1_3 b1_4 b1_5 b1_6 b1_7]⟩
def gj7 (n:Nat) (x0):qa n x0=j7 (qap v8 x0.Op) fun y1=>j9 ((w8 .i64 y1 (3:Int)) != (0:Int)) (kr1 n y1 x0.Op x0.Narrow x0.Dst x0.Src x0.UseImm x0.Off x0.Imm x0.Size x0.Op false x0.Dst (0:Int) false (0:Int) (0:Int) (0:Int)) (kr1 n y1 x0.Op x0.Narrow x0.Dst x0.Src x0.UseImm x0.Off x0.Imm x0.Size x0.Op false (0:Int) (0:Int) false (0:Int) (0:Int) (0:Int)):=by kernel_rfl
def zg2 (n:Nat) (s3 b0_0 b0_1 b0_2 b0_3 b0_4 b0_5 b0_6 b0_7 b1_0 b1_1 b1_2 b1_3 b1_4 b1_5 b1_6 b1_7):kr1 (n+1) s3 b0_0 b0_1 b0_2 b0_3 b0_4 b0_5 b0_6 b0_7 b1_0 b1_1 b1_2 b1_3 b1_4 b1_5 b1_6 b1_7=j9 ((w8 .i64 s3 (4:Int)) != (0:Int)) (vs7 n s3 true b0_0 b0_1 b0_2 b0_3 b0_4 b0_5 b0_6 b0_7 b1_0 b1_1 b1_2 b1_3 b1_4 b1_5 b1_6 b1_7) (j9 ((w8 .i64 s3 (8:Int)) != (0:Int)) (vs7 n s3 (!b0_4) b0_0 b0_1 b0_2 b0_3 b0_4 b0_5 b0_6 b0_7 b1_0 b1_1 b1_2 b1_3 b1_4 b1_5 b1_6 b1_7) (vs7 n s3 false b0_0 b0_1 b0_2 b0_3 b0_4 b0_5 b0_6 b0_7 b1_0 b1_1 b1_2 b1_3 b1_4 b1_5 b1_6 b1_7)):=by kernel_rfl
def zg4 (n:Nat) (s3 s31 b0_0 b0_1 b0_2 b0_3 b0_4 b0_5 b0_6 b0_7 b1_0 b1_1 b1_2 b1_3 b1_4 b1_5 b1_6 b1_7):vs7 (n+1) s3 s31 b0_0 b0_1 b0_2 b0_3 b0_4 b0_5 b0_6 b0_7 b1_0 b1_1 b1_2 b1_3 b1_4 b1_5 b1_6 b1_7=j9 s31 (kr2 n s3 b0_0 b0_1 b0_2 b0_3 b0_4 b0_5 b0_6 b0_7 b1_0 b1_1 b1_2 b0_3 b1_4 b1_5 b1_6 b1_7) (kr2 n s3 b0_0 b0_1 b0_2 b0_3 b0_4 b0_5 b0_6 b0_7 b1_0 b1_1 b1_2 b1_3 b1_4 b1_5 b1_6 b1_7):=by kernel_rfl
def zg3 (n:Nat) (s3 b0_0 b0_1 b0_2 b0_3 b0_4 b0_5 b0_6 b0_7 b1_0 b1_1 b1_2 b1_3 b1_4 b1_5 b1_6 b1_7):kr2 (n+1) s3 b0_0 b0_1 b0_2 b0_3 b0_4 b0_5 b0_6 b0_7 b1_0 b1_1 b1_2 b1_3 b1_4 b1_5 b1_6 b1_7=j9 ((w8 .i64 s3 (8:Int)) != (0:Int)) (kr4 n s3 b0_4 b0_0 b0_1 b0_2 b0_3 b0_4 b0_5 b0_6 b0_7 b1_0 b1_1 b1_2 b1_3 b1_4 b1_5 b1_6 b1_7) (kr4 n s3 false b0_0 b0_1 b0_2 b0_3 b0_4 b0_5 b0_6 b0_7 b1_0 b1_1 b1_2 b1_3 b1_4 b1_5 b1_6 b1_7):=by kernel_rfl
def zg6 (n:Nat) (s3 s41 b0_0 b0_1 b0_2 b0_3 b0_4 b0_5 b0_6 b0_7 b1_0 b1_1 b1_2 b1_3 b1_4 b1_5 b1_6 b1_7):kr4 (n+1) s3 s41 b0_0 b0_1 b0_2 b0_3 b0_4 b0_5 b0_6 b0_7 b1_0 b1_1 b1_2 b1_3 b1_4 b1_5 b1_6 b1_7=j9 s41 (kr3 n s3 b0_0 b0_1 b0_2 b0_3 b0_4 b0_5 b0_6 b0_7 b1_0 b1_1 b1_2 b1_3 true b1_5 b0_6 b1_7) (kr3 n s3 b0_0 b0_1 b0_2 b0_3 b0_4 b0_5 b0_6 b0_7 b1_0 b1_1 b1_2 b1_3 b1_4 b1_5 b1_6 b1_7):=by kernel_rfl
def zg5 (n:Nat) (s3 b0_0 b0_1 b0_2 b0_3 b0_4 b0_5 b0_6 b0_7 b1_0 b1_1 b1_2 b1_3 b1_4 b1_5 b1_6 b1_7):kr3 (n+1) s3 b0_0 b0_1 b0_2 b0_3 b0_4 b0_5 b0_6 b0_7 b1_0 b1_1 b1_2 b1_3 b1_4 b1_5 b1_6 b1_7=j9 ((w8 .i64 s3 (16:Int)) != (0:Int)) (kr5 n s3 b0_0 b0_1 b0_2 b0_3 b0_4 b0_5 b0_6 b0_7 b1_0 b1_1 b1_2 b1_3 b1_4 b0_5 b1_6 b1_7) (kr5 n s3 b0_0 b0_1 b0_2 b0_3 b0_4 b0_5 b0_6 b0_7 b1_0 b1_1 b1_2 b1_3 b1_4 b1_5 b1_6 b1_7):=by kernel_rfl
def zg7 (n:Nat) (s3 b0_0 b0_1 b0_2 b0_3 b0_4 b0_5 b0_6 b0_7 b1_0 b1_1 b1_2 b1_3 b1_4 b1_5 b1_6 b1_7):kr5 (n+1) s3 b0_0 b0_1 b0_2 b0_3 b0_4 b0_5 b0_6 b0_7 b1_0 b1_1 b1_2 b1_3 b1_4 b1_5 b1_6 b1_7=j9 ((w8 .i64 s3 (32:Int)) != (0:Int)) (kr6 n s3 b0_0 b0_1 b0_2 b0_3 b0_4 b0_5 b0_6 b0_7 b1_0 b1_1 b1_2 b1_3 b1_4 b1_5 b1_6 b0_7) (kr6 n s3 b0_0 b0_1 b0_2 b0_3 b0_4 b0_5 b0_6 b0_7 b1_0 b1_1 b1_2 b1_3 b1_4 b1_5 b1_6 b1_7):=by kernel_rfl
def zg8 (n:Nat) (s3 b0_0 b0_1 b0_2 b0_3 b0_4 b0_5 b0_6 b0_7 b1_0 b1_1 b1_2 b1_3 b1_4 b1_5 b1_6 b1_7):kr6 (n+1) s3 b0_0 b0_1 b0_2 b0_3 b0_4 b0_5 b0_6 b0_7 b1_0 b1_1 b1_2 b1_3 b1_4 b1_5 b1_6 b1_7=j9 ((w8 .i64 s3 (64:Int)) != (0:Int)) (kr7 n s3 b0_0 b0_1 b0_2 b0_3 b0_4 b0_5 b0_6 b0_7 b1_0 b0_1 b1_2 b1_3 b1_4 b1_5 b1_6 b1_7) (kr7 n s3 b0_0 b0_1 b0_2 b0_3 b0_4 b0_5 b0_6 b0_7 b1_0 b1_1 b1_2 b1_3 b1_4 b1_5 b1_6 b1_7):=by kernel_rfl
def zg9 (n:Nat) (s3 b0_0 b0_1 b0_2 b0_3 b0_4 b0_5 b0_6 b0_7 b1_0 b1_1 b1_2 b1_3 b1_4 b1_5 b1_6 b1_7):kr7 (n+1) s3 b0_0 b0_1 b0_2 b0_3 b0_4 b0_5 b0_6 b0_7 b1_0 b1_1 b1_2 b1_3 b1_4 b1_5 b1_6 b1_7=j9 ((w8 .i64 s3 (1:Int)) != (0:Int)) (kr8 n s3 (9:Int) b0_0 b0_1 b0_2 b0_3 b0_4 b0_5 b0_6 b0_7 b1_0 b1_1 b1_2 b1_3 b1_4 b1_5 b1_6 b1_7) (kr8 n s3 (10:Int) b0_0 b0_1 b0_2 b0_3 b0_4 b0_5 b0_6 b0_7 b1_0 b1_1 b1_2 b1_3 b1_4 b1_5 b1_6 b1_7):=by kernel_rfl
def zh0 (n:Nat) (s3 s5 b0_0 b0_1 b0_2 b0_3 b0_4 b0_5 b0_6 b0_7 b1_0 b1_1 b1_2 b1_3 b1_4 b1_5 b1_6 b1_7):kr8 (n+1) s3 s5 b0_0 b0_1 b0_2 b0_3 b0_4 b0_5 b0_6 b0_7 b1_0 b1_1 b1_2 b1_3 b1_4 b1_5 b1_6 b1_7=j9 ((w8 .i64 s3 (32:Int))==(0:Int)) (jo4 n s3 s5 true b0_0 b0_1 b0_2 b0_3 b0_4 b0_5 b0_6 b0_7 b1_0 b1_1 b1_2 b1_3 b1_4 b1_5 b1_6 b1_7) (j7 (qco v8 ([(1:Int),(2:Int),(4:Int),(8:Int)]:List Int) b0_7) fun y1=>jo4 n s3 s5 y1 b0_0 b0_1 b0_2 b0_3 b0_4 b0_5 b0_6 b0_7 b1_0 b1_1 b1_2 b1_3 b1_4 b1_5 b1_6 b1_7):=by kernel_rfl
def qk4 (n:Nat) (s3 s5 s6 b0_0 b0_1 b0_2 b0_3 b0_4 b0_5 b0_6 b0_7 b1_0 b1_1 b1_2 b1_3 b1_4 b1_5 b1_6 b1_7):jo4 (n+1) s3 s5 s6 b0_0 b0_1 b0_2 b0_3 b0_4 b0_5 b0_6 b0_7 b1_0 b1_1 b1_2 b1_3 b1_4 b1_5 b1_6 b1_7=j9 (s3 != (0:Int)) (j9 ((b0_0==b1_0)&&((b0_1==b1_1)&&((b0_2==b1_2)&&((b0_3==b1_3)&&((b0_4==b1_4)&&((b0_5==b1_5)&&((b0_6==b1_6)&&(b0_7==b1_7)))))))) (j7 (qbv v8 b0_2 (0:Int) s5) fun y1=>j9 y1 (j7 (qbv v8 b0_3 (0:Int) (10:Int)) fun y2=>j9 y2 (j7 (qbv v8 b0_5 (-32768:Int) (32767:Int)) fun y3=>j9 y3 (j7 (qbv v8 b0_6 (-2147483648:Int) (2147483647:Int)) fun y4=>j9 y4 (some s6) (some false)) (some false)) (some false)) (some false)) (some false)) (some false):=by kernel_rfl
def kr9:=okF js3 func56
def gn9:KF:=⟨cF kn9 eN,0,[],[],f74,z0,[.d1],[.a1]⟩
def qdn (n:Nat) (x0:Ins):Option (Int):=tF gn9 n x0
def wo9 (n:Nat) (x0):qdn n x0=j9 x0.Narrow (some (1:Int)) (j7 (qdx v8 ([(1:Int),(2:Int),(4:Int),(8:Int)]:List Int) x0.Size) fun y1=>some (ub1 y1 (0:Int))):=by kernel_rfl
def wp0:=okF gn9 func74
def kt4:KF:=⟨cF wp0 eN,0,[],[([I,I],qt [1,3])],f57,z0,[.d1],[.own 5 (.int .u8)]⟩
def qbj (n:Nat) (x0:Ins):Option (List Int):=tF kt4 n x0
def va4 (n:Nat) (s3 b0_0:Int) (b0_1:Bool) (b0_2 b0_3:Int) (b0_4:Bool) (b0_5 b0_6 b0_7:Int):Option (List Int):=uF kt4 n [I,I] ⟨[(1,.ptr 0 0),(3,cu8 s3)],[.k1 b0_0 b0_1 b0_2 b0_3 b0_4 b0_5 b0_6 b0_7]⟩
def wh9 (n:Nat) (x0):qbj n x0=j7 (qdn v8 x0) fun y1=>j9 x0.UseImm (va4 n (bOr .u8 (bOr .u8 x0.Op (zm2 .u8 (IntKind.u8.wrap y1) (6:Int))) (32:Int)) x0.Op x0.Narrow x0.Dst x0.Src x0.UseImm x0.Off x0.Imm x0.Size) (va4 n (bOr .u8 x0.Op (zm2 .u8 (IntKind.u8.wrap y1) (6:Int))) x0.Op x0.Narrow x0.Dst x0.Src x0.UseImm x0.Off x0.Imm x0.Size):=by kernel_rfl
def jt5 (n:Nat) (s3 b0_0 b0_1 b0_2 b0_3 b0_4 b0_5 b0_6 b0_7):va4 (n+1) s3 b0_0 b0_1 b0_2 b0_3 b0_4 b0_5 b0_6 b0_7=some ([s3,IntKind.u8.wrap (bOr .i64 (zm2 .i64 b0_2 (4:Int)) b0_3),IntKind.u8.wrap (zr0 .u16 (IntKind.u16.wrap b0_5) (8:Int)),IntKind.u8.wrap (IntKind.u16.wrap b0_5),IntKind.u8.wrap (zr0 .u32 (IntKind.u32.wrap b0_6) (24:Int)),IntKind.u8.wrap (zr0 .u32 (IntKind.u32.wrap b0_6) (16:Int)),IntKind.u8.wrap (zr0 .u32 (IntKind.u32.wrap b0_6) (8:Int)),IntKind.u8.wrap (IntKind.u32.wrap b0_6)]:List Int):=by kernel_rfl
def wi0:=okF kt4 func57
def ks0:KF:=⟨eN,0,[],[([O,I,O,I,I],qt [0,1,12,13])],f26,z0,[.b1,.b1],[.a4]⟩
def qaj (n:Nat) (x0 x1:List Int):Option (Bool):=tF ks0 n (x0,x1)
def yk4 (n:Nat) (s0 s1:List Int) (s12 s13:Int):Option (Bool):=uF ks0 n [O,I,O,I,I] ⟨[(0,.cell ⟨.list (.int .u8),s0⟩),(1,.cell ⟨.list (.int .u8),s1⟩),(12,ci s12),(13,ci s13)],[]⟩
def wd7 (n:Nat) (x0 x1):qaj n x0 x1=j9 (((x0.length:Nat):Int) != ((x1.length:Nat):Int)) (some false) (yk4 n x0 x1 ((x0.length:Nat):Int) (0:Int)):=by kernel_rfl
def js8 (n:Nat) (s0 s1 s12 s13):yk4 (n+1) s0 s1 s12 s13=j9 (decide (s13<s12)) (if 0<=s13/\s13<((s0.length:Nat):Int) then (if 0<=s13/\s13<((s1.length:Nat):Int) then (j9 ((s0.getD s13.toNat (0:Int)) != (s1.getD s13.toNat (0:Int))) (some false) (yk4 n s0 s1 s12 (IntKind.i64.wrap (s13+(1:Int))))) else none) else none) (some true):=by kernel_rfl
def qz5:=okF ks0 func26
def vt4:KF:=⟨cF wy3 (cF kr9 (cF wi0 (cF qz5 eN))),0,[(9,1)],[([O,O,I,I,I],⟨[0,4],[(4,111,.user 5)],false,[],0,false⟩),([O,I,O,O,I,O,O,O,I,I,I],qt [0,4,5,33])],f39,z0,[.b1],[.own 111 (.user 5),.a1]⟩
def qak (n:Nat) (x0:List Int):Option (List Ins×Int):=tF vt4 n x0
def qb9 (n:Nat) (s0:List Int) (r0:List Ins):Option (List Ins×Int):=uF vt4 n [O,O,I,I,I] ⟨[(0,.cell ⟨.list (.int .u8),s0⟩),(4,.own 0)],[.row 111 (.user 5) r0]⟩
def qz6 (n:Nat) (s0:List Int) (s33:Bool) (r0:List Ins) (b1_0:Int) (b1_1:Bool) (b1_2 b1_3:Int) (b1_4:Bool) (b1_5 b1_6 b1_7:Int):Option (List Ins×Int):=uF vt4 n [O,I,O,O,I,O,O,O,I,I,I] ⟨[(0,.cell ⟨.list (.int .u8),s0⟩),(4,.own 0),(5,.ptr 1 0),(33,cb s33)],[.row 111 (.user 5) r0,.k1 b1_0 b1_1 b1_2 b1_3 b1_4 b1_5 b1_6 b1_7]⟩
def wd8 (n:Nat) (x0):qak n x0=j9 (decide (((x0.length:Nat):Int)>(32768:Int))) (some (([]:List Ins),(3:Int))) (j9 ((((x0.length:Nat):Int).tmod (8:Int)) != (0:Int)) (some (([]:List Ins),(4:Int))) (qb9 n x0 ([]:List Ins))):=by kernel_rfl
def jt0 (n:Nat) (s0 r0):qb9 (n+1) s0 r0=j9 (decide (((s0.length:Nat):Int)>(0:Int))) (if 0<=(0:Int)/\(0:Int)<=(8:Int)/\(8:Int)<=((s0.length:Nat):Int) then (j7 (qfj v8 (List.take 8 (List.drop 0 s0))) fun y1=>j7 (qa v8 y1) fun y2=>j9 (!y2) (qz6 n s0 true r0 y1.Op y1.Narrow y1.Dst y1.Src y1.UseImm y1.Off y1.Imm y1.Size) (j7 (qbj v8 y1) fun y3=>if 0<=(0:Int)/\(0:Int)<=(8:Int)/\(8:Int)<=((s0.length:Nat):Int) then (j7 (qaj v8 y3 (List.take 8 (List.drop 0 s0))) fun y4=>qz6 n s0 (!y4) r0 y1.Op y1.Narrow y1.Dst y1.Src y1.UseImm y1.Off y1.Imm y1.Size) else none)) else none) (some (r0,(0:Int))):=by kernel_rfl
def js9 (n:Nat) (s0 s33 r0 b1_0 b1_1 b1_2 b1_3 b1_4 b1_5 b1_6 b1_7):qz6 (n+1) s0 s33 r0 b1_0 b1_1 b1_2 b1_3 b1_4 b1_5 b1_6 b1_7=j9 s33 (some (([]:List Ins),(4:Int))) (if (r0.length+1)*56<=140737488355328 then (if 0<=(8:Int)/\(8:Int)<=((s0.length:Nat):Int)/\((s0.length:Nat):Int)<=((s0.length:Nat):Int) then (qb9 n (List.take ((((s0.length:Nat):Int).toNat)-8) (List.drop 8 s0)) (r0++([(⟨b1_0,b1_1,b1_2,b1_3,b1_4,b1_5,b1_6,b1_7⟩:Ins)]:List Ins))) else none) else none):=by kernel_rfl
def wd9:=okF vt4 func39
end
end Go.X
