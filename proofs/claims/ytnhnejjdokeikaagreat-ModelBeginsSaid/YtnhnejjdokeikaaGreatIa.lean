import Derived.Test.YtnhnejjdokeikaaGreatIp
set_option linter.defProp false
namespace Go.X
open Go.RowKit Go.V Go.Proofs Tryz
noncomputable section
def gs3:KG:=⟨eN,2,[],[],f131,n0,[.c2,.c2],[.c5,.c5],[.a9]⟩
def qep (n:Nat) (x0 x1:Int):Option u10:=tG gs3 n ((x0,()),(x1,()),())
def ww9 (n:Nat) (x0 x1):qep n x0 x1=some (((x0,()),(x1,()),()),(IntKind.u32.wrap (x0+x1),())):=by kernel_rfl
def wx0:=okG gs3 func131
def gt2:KG:=⟨eN,2,[],[],f132,n0,[.c2,.c2],[.c5,.c5],[.a9]⟩
def qey (n:Nat) (x0 x1:Int):Option u10:=tG gt2 n ((x0,()),(x1,()),())
def wy7 (n:Nat) (x0 x1):qey n x0 x1=some (((x0,()),(x1,()),()),(IntKind.u32.wrap (x0-x1),())):=by kernel_rfl
def wy8:=okG gt2 func132
def gt3:KG:=⟨eN,2,[],[],f133,n0,[.c2,.c2],[.c5,.c5],[.a9]⟩
def qez (n:Nat) (x0 x1:Int):Option u10:=tG gt3 n ((x0,()),(x1,()),())
def wy9 (n:Nat) (x0 x1):qez n x0 x1=some (((x0,()),(x1,()),()),(IntKind.u32.wrap (x0*x1),())):=by kernel_rfl
def wz0:=okG gt3 func133
def gt5:KG:=⟨eN,2,[],[],f134,n0,[.c2,.c2],[.c5,.c5],[.a9]⟩
def qfa (n:Nat) (x0 x1:Int):Option u10:=tG gt5 n ((x0,()),(x1,()),())
def wz1 (n:Nat) (x0 x1):qfa n x0 x1=if x1=0 then none else (some (((x0,()),(x1,()),()),(IntKind.u32.wrap (x0.tdiv x1),()))):=by kernel_rfl
def wz2:=okG gt5 func134
def gt6:KG:=⟨eN,2,[],[],f135,n0,[.c2,.c2],[.c5,.c5],[.a9]⟩
def qfb (n:Nat) (x0 x1:Int):Option u10:=tG gt6 n ((x0,()),(x1,()),())
def wz3 (n:Nat) (x0 x1):qfb n x0 x1=if x1=0 then none else (some (((x0,()),(x1,()),()),(x0.tmod x1,()))):=by kernel_rfl
def wz4:=okG gt6 func135
def gt7:KG:=⟨eN,2,[],[],f136,n0,[.c2,.c2],[.c5,.c5],[.a9]⟩
def qfc (n:Nat) (x0 x1:Int):Option u10:=tG gt7 n ((x0,()),(x1,()),())
def wz5 (n:Nat) (x0 x1):qfc n x0 x1=some (((x0,()),(x1,()),()),(w8 .u32 x0 x1,())):=by kernel_rfl
def wz6:=okG gt7 func136
def gt8:KG:=⟨eN,2,[],[],f137,n0,[.c2,.c2],[.c5,.c5],[.a9]⟩
def qfd (n:Nat) (x0 x1:Int):Option u10:=tG gt8 n ((x0,()),(x1,()),())
def wz7 (n:Nat) (x0 x1):qfd n x0 x1=some (((x0,()),(x1,()),()),(bOr .u32 x0 x1,())):=by kernel_rfl
def wz8:=okG gt8 func137
def gt9:KG:=⟨eN,2,[],[],f138,n0,[.c2,.c2],[.c5,.c5],[.a9]⟩
def qfe (n:Nat) (x0 x1:Int):Option u10:=tG gt9 n ((x0,()),(x1,()),())
def wz9 (n:Nat) (x0 x1):qfe n x0 x1=some (((x0,()),(x1,()),()),(vw8 .u32 x0 x1,())):=by kernel_rfl
def ua0:=okG gt9 func138
def gu0:KG:=⟨eN,3,[],[],f139,n0,[.c2,.c2,.c2],[.c5,.c5,.c5],[.a9]⟩
def qff (n:Nat) (x0 x1 x2:Int):Option u17:=tG gu0 n ((x0,()),(x1,()),(x2,()),())
def ua1 (n:Nat) (x0 x1 x2):qff n x0 x1 x2=if x2=0 then none else (if x1.tmod x2<0 then none else (some (((x0,()),(x1,()),(x2,()),()),(zm3 .u32 x0 (x1.tmod x2),())))):=by kernel_rfl
def ua2:=okG gu0 func139
def gr4:KG:=⟨eN,3,[],[],f140,n0,[.c2,.c2,.c2],[.c5,.c5,.c5],[.a9]⟩
def qeg (n:Nat) (x0 x1 x2:Int):Option u17:=tG gr4 n ((x0,()),(x1,()),(x2,()),())
def wv1 (n:Nat) (x0 x1 x2):qeg n x0 x1 x2=if x2=0 then none else (if x1.tmod x2<0 then none else (some (((x0,()),(x1,()),(x2,()),()),(zr2 .u32 x0 (x1.tmod x2),())))):=by kernel_rfl
def wv2:=okG gr4 func140
def gr5:KG:=⟨eN,3,[],[],f141,n0,[.c2,.c2,.c2],[.c5,.c5,.c5],[.a9]⟩
def qeh (n:Nat) (x0 x1 x2:Int):Option u17:=tG gr5 n ((x0,()),(x1,()),(x2,()),())
def wv3 (n:Nat) (x0 x1 x2):qeh n x0 x1 x2=if x2=0 then none else (if x1.tmod x2<0 then none else (some (((x0,()),(x1,()),(x2,()),()),(IntKind.u32.wrap (zr2 .i32 (IntKind.i32.wrap x0) (x1.tmod x2)),())))):=by kernel_rfl
def wv4:=okG gr5 func141
def gr6:KG:=⟨eN,1,[],[],f142,n0,[.c2],[.c5],[.a9]⟩
def qei (n:Nat) (x0:Int):Option ((u4×Unit)×u4):=tG gr6 n ((x0,()),())
def wv5 (n:Nat) (x0):qei n x0=some (((x0,()),()),(x0,())):=by kernel_rfl
def wv6:=okG gr6 func142
def gr7:KG:=⟨eN,1,[],[],f143,n0,[.c2],[.c5],[.a9]⟩
def qej (n:Nat) (x0:Int):Option ((u4×Unit)×u4):=tG gr7 n ((x0,()),())
def wv7 (n:Nat) (x0):qej n x0=some (((x0,()),()),(IntKind.u32.wrap (0-x0),())):=by kernel_rfl
def wv8:=okG gr7 func143
def ku6:KF:=⟨cG wx0 (cG wy8 (cG wz0 (cG wz2 (cG wz4 (cG wz6 (cG wz8 (cG ua0 (cG ua2 (cG wv2 (cG wv4 (cG wv6 (cG wv8 eN)))))))))))),0,[],[([O,I],qt [0,5,6,7,21])],f121,z0,[.b2,.a9,.a9,.a9],[.a9,.a1]⟩
def qbk (n:Nat) (x0 x1 x2 x3:Int):Option (Int×Int):=tF ku6 n (x0,x1,x2,x3)
def jn0 (n:Nat) (s0:Int) (s21:Bool) (b0_0 b1_0 b2_0:Int):Option (Int×Int):=uF ku6 n [O,I] ⟨[(0,cu8 s0),(5,.ptr 0 0),(6,.ptr 1 0),(7,.ptr 2 0),(21,cb s21)],[.blk 147 [ud9 b0_0],.blk 147 [ud9 b1_0],.blk 147 [ud9 b2_0]]⟩
def wk6 (n:Nat) (x0 x1 x2 x3):qbk n x0 x1 x2 x3=j8 (x0==(4:Int)) (jn0 n x0 (x3==(0:Int)) x1 x2 x3) (j8 (x0==(5:Int)) (jn0 n x0 (x3==(0:Int)) x1 x2 x3) (jn0 n x0 false x1 x2 x3)):=by kernel_rfl
def vq3 (n:Nat) (s0 s21 b0_0 b1_0 b2_0):jn0 (n+1) s0 s21 b0_0 b1_0 b2_0=j8 s21 (some ((0:Int),(113:Int))) (if s0=(1:Int) then (j7 (qep v7 b1_0 b2_0) fun y1=>some (y1.2.1,(0:Int))) else (if s0=(2:Int) then (j7 (qey v7 b1_0 b2_0) fun y2=>some (y2.2.1,(0:Int))) else (if s0=(3:Int) then (j7 (qez v7 b1_0 b2_0) fun y3=>some (y3.2.1,(0:Int))) else (if s0=(4:Int) then (j7 (qfa v7 b1_0 b2_0) fun y4=>some (y4.2.1,(0:Int))) else (if s0=(5:Int) then (j7 (qfb v7 b1_0 b2_0) fun y5=>some (y5.2.1,(0:Int))) else (if s0=(6:Int) then (j7 (qfc v7 b1_0 b2_0) fun y6=>some (y6.2.1,(0:Int))) else (if s0=(7:Int) then (j7 (qfd v7 b1_0 b2_0) fun y7=>some (y7.2.1,(0:Int))) else (if s0=(8:Int) then (j7 (qfe v7 b1_0 b2_0) fun y8=>some (y8.2.1,(0:Int))) else (if s0=(9:Int) then (j7 (qff v7 b1_0 b2_0 b0_0) fun y9=>some (y9.2.1,(0:Int))) else (if s0=(10:Int) then (j7 (qeg v7 b1_0 b2_0 b0_0) fun y10=>some (y10.2.1,(0:Int))) else (if s0=(11:Int) then (j7 (qeh v7 b1_0 b2_0 b0_0) fun y11=>some (y11.2.1,(0:Int))) else (if s0=(12:Int) then (j7 (qei v7 b2_0) fun y12=>some (y12.2.1,(0:Int))) else (if s0=(13:Int) then (j7 (qej v7 b1_0) fun y13=>some (y13.2.1,(0:Int))) else (some ((0:Int),(2:Int)))))))))))))))):=by kernel_rfl
def wk7:=okF ku6 func121
def gr8:KG:=⟨eN,2,[],[],f144,n0,[.b7,.b7],[.c1,.c1],[.a6]⟩
def qek (n:Nat) (x0 x1:Int):Option u10:=tG gr8 n ((x0,()),(x1,()),())
def wv9 (n:Nat) (x0 x1):qek n x0 x1=some (((x0,()),(x1,()),()),(IntKind.u64.wrap (x0+x1),())):=by kernel_rfl
def ww0:=okG gr8 func144
def gr9:KG:=⟨eN,2,[],[],f145,n0,[.b7,.b7],[.c1,.c1],[.a6]⟩
def qel (n:Nat) (x0 x1:Int):Option u10:=tG gr9 n ((x0,()),(x1,()),())
def ww1 (n:Nat) (x0 x1):qel n x0 x1=some (((x0,()),(x1,()),()),(IntKind.u64.wrap (x0-x1),())):=by kernel_rfl
def ww2:=okG gr9 func145
def gs0:KG:=⟨eN,2,[],[],f146,n0,[.b7,.b7],[.c1,.c1],[.a6]⟩
def qem (n:Nat) (x0 x1:Int):Option u10:=tG gs0 n ((x0,()),(x1,()),())
def ww3 (n:Nat) (x0 x1):qem n x0 x1=some (((x0,()),(x1,()),()),(IntKind.u64.wrap (x0*x1),())):=by kernel_rfl
def ww4:=okG gs0 func146
def gs1:KG:=⟨eN,2,[],[],f147,n0,[.b7,.b7],[.c1,.c1],[.a6]⟩
def qen (n:Nat) (x0 x1:Int):Option u10:=tG gs1 n ((x0,()),(x1,()),())
def ww5 (n:Nat) (x0 x1):qen n x0 x1=if x1=0 then none else (some (((x0,()),(x1,()),()),(IntKind.u64.wrap (x0.tdiv x1),()))):=by kernel_rfl
def ww6:=okG gs1 func147
def gs2:KG:=⟨eN,2,[],[],f148,n0,[.b7,.b7],[.c1,.c1],[.a6]⟩
def qeo (n:Nat) (x0 x1:Int):Option u10:=tG gs2 n ((x0,()),(x1,()),())
def ww7 (n:Nat) (x0 x1):qeo n x0 x1=if x1=0 then none else (some (((x0,()),(x1,()),()),(x0.tmod x1,()))):=by kernel_rfl
def ww8:=okG gs2 func148
def gs4:KG:=⟨eN,2,[],[],f149,n0,[.b7,.b7],[.c1,.c1],[.a6]⟩
def qeq (n:Nat) (x0 x1:Int):Option u10:=tG gs4 n ((x0,()),(x1,()),())
def wx1 (n:Nat) (x0 x1):qeq n x0 x1=some (((x0,()),(x1,()),()),(w8 .u64 x0 x1,())):=by kernel_rfl
def wx2:=okG gs4 func149
def gs5:KG:=⟨eN,2,[],[],f150,n0,[.b7,.b7],[.c1,.c1],[.a6]⟩
def qer (n:Nat) (x0 x1:Int):Option u10:=tG gs5 n ((x0,()),(x1,()),())
def wx3 (n:Nat) (x0 x1):qer n x0 x1=some (((x0,()),(x1,()),()),(bOr .u64 x0 x1,())):=by kernel_rfl
def wx4:=okG gs5 func150
def gs6:KG:=⟨eN,2,[],[],f151,n0,[.b7,.b7],[.c1,.c1],[.a6]⟩
def qes (n:Nat) (x0 x1:Int):Option u10:=tG gs6 n ((x0,()),(x1,()),())
def wx5 (n:Nat) (x0 x1):qes n x0 x1=some (((x0,()),(x1,()),()),(vw8 .u64 x0 x1,())):=by kernel_rfl
def wx6:=okG gs6 func151
def gs7:KG:=⟨eN,3,[],[],f152,n0,[.b7,.b7,.b7],[.c1,.c1,.c1],[.a6]⟩
def qet (n:Nat) (x0 x1 x2:Int):Option u17:=tG gs7 n ((x0,()),(x1,()),(x2,()),())
def wx7 (n:Nat) (x0 x1 x2):qet n x0 x1 x2=if x2=0 then none else (if x1.tmod x2<0 then none else (some (((x0,()),(x1,()),(x2,()),()),(zm3 .u64 x0 (x1.tmod x2),())))):=by kernel_rfl
def wx8:=okG gs7 func152
def gs8:KG:=⟨eN,3,[],[],f153,n0,[.b7,.b7,.b7],[.c1,.c1,.c1],[.a6]⟩
def qeu (n:Nat) (x0 x1 x2:Int):Option u17:=tG gs8 n ((x0,()),(x1,()),(x2,()),())
def wx9 (n:Nat) (x0 x1 x2):qeu n x0 x1 x2=if x2=0 then none else (if x1.tmod x2<0 then none else (some (((x0,()),(x1,()),(x2,()),()),(zr2 .u64 x0 (x1.tmod x2),())))):=by kernel_rfl
def wy0:=okG gs8 func153
def gs9:KG:=⟨eN,3,[],[],f154,n0,[.b7,.b7,.b7],[.c1,.c1,.c1],[.a6]⟩
def qev (n:Nat) (x0 x1 x2:Int):Option u17:=tG gs9 n ((x0,()),(x1,()),(x2,()),())
def wy1 (n:Nat) (x0 x1 x2):qev n x0 x1 x2=if x2=0 then none else (if x1.tmod x2<0 then none else (some (((x0,()),(x1,()),(x2,()),()),(IntKind.u64.wrap (zr2 .i64 (IntKind.i64.wrap x0) (x1.tmod x2)),())))):=by kernel_rfl
def wy2:=okG gs9 func154
def gt0:KG:=⟨eN,1,[],[],f155,n0,[.b7],[.c1],[.a6]⟩
def qew (n:Nat) (x0:Int):Option ((u4×Unit)×u4):=tG gt0 n ((x0,()),())
def wy3 (n:Nat) (x0):qew n x0=some (((x0,()),()),(x0,())):=by kernel_rfl
def wy4:=okG gt0 func155
def gt1:KG:=⟨eN,1,[],[],f156,n0,[.b7],[.c1],[.a6]⟩
def qex (n:Nat) (x0:Int):Option ((u4×Unit)×u4):=tG gt1 n ((x0,()),())
def wy5 (n:Nat) (x0):qex n x0=some (((x0,()),()),(IntKind.u64.wrap (0-x0),())):=by kernel_rfl
def wy6:=okG gt1 func156
def ku7:KF:=⟨cG ww0 (cG ww2 (cG ww4 (cG ww6 (cG ww8 (cG wx2 (cG wx4 (cG wx6 (cG wx8 (cG wy0 (cG wy2 (cG wy4 (cG wy6 eN)))))))))))),0,[],[([O,I],qt [0,5,6,7,21])],f122,z0,[.b2,.a6,.a6,.a6],[.a6,.a1]⟩
def qbl (n:Nat) (x0 x1 x2 x3:Int):Option (Int×Int):=tF ku7 n (x0,x1,x2,x3)
def jn1 (n:Nat) (s0:Int) (s21:Bool) (b0_0 b1_0 b2_0:Int):Option (Int×Int):=uF ku7 n [O,I] ⟨[(0,cu8 s0),(5,.ptr 0 0),(6,.ptr 1 0),(7,.ptr 2 0),(21,cb s21)],[.blk 37 [qr9 b0_0],.blk 37 [qr9 b1_0],.blk 37 [qr9 b2_0]]⟩
def wk8 (n:Nat) (x0 x1 x2 x3):qbl n x0 x1 x2 x3=j8 (x0==(4:Int)) (jn1 n x0 (x3==(0:Int)) x1 x2 x3) (j8 (x0==(5:Int)) (jn1 n x0 (x3==(0:Int)) x1 x2 x3) (jn1 n x0 false x1 x2 x3)):=by kernel_rfl
def vq4 (n:Nat) (s0 s21 b0_0 b1_0 b2_0):jn1 (n+1) s0 s21 b0_0 b1_0 b2_0=j8 s21 (some ((0:Int),(113:Int))) (if s0=(1:Int) then (j7 (qek v7 b1_0 b2_0) fun y1=>some (y1.2.1,(0:Int))) else (if s0=(2:Int) then (j7 (qel v7 b1_0 b2_0) fun y2=>some (y2.2.1,(0:Int))) else (if s0=(3:Int) then (j7 (qem v7 b1_0 b2_0) fun y3=>some (y3.2.1,(0:Int))) else (if s0=(4:Int) then (j7 (qen v7 b1_0 b2_0) fun y4=>some (y4.2.1,(0:Int))) else (if s0=(5:Int) then (j7 (qeo v7 b1_0 b2_0) fun y5=>some (y5.2.1,(0:Int))) else (if s0=(6:Int) then (j7 (qeq v7 b1_0 b2_0) fun y6=>some (y6.2.1,(0:Int))) else (if s0=(7:Int) then (j7 (qer v7 b1_0 b2_0) fun y7=>some (y7.2.1,(0:Int))) else (if s0=(8:Int) then (j7 (qes v7 b1_0 b2_0) fun y8=>some (y8.2.1,(0:Int))) else (if s0=(9:Int) then (j7 (qet v7 b1_0 b2_0 b0_0) fun y9=>some (y9.2.1,(0:Int))) else (if s0=(10:Int) then (j7 (qeu v7 b1_0 b2_0 b0_0) fun y10=>some (y10.2.1,(0:Int))) else (if s0=(11:Int) then (j7 (qev v7 b1_0 b2_0 b0_0) fun y11=>some (y11.2.1,(0:Int))) else (if s0=(12:Int) then (j7 (qew v7 b2_0) fun y12=>some (y12.2.1,(0:Int))) else (if s0=(13:Int) then (j7 (qex v7 b1_0) fun y13=>some (y13.2.1,(0:Int))) else (some ((0:Int),(2:Int)))))))))))))))):=by kernel_rfl
def wk9:=okF ku7 func122
def gn7:KF:=⟨cF wk7 (cF wk9 eN),0,[],[],f109,z0,[.b2,.a4,.a6,.a6],[.a6,.a1]⟩
def qcl (n:Nat) (x0:Int) (x1:Bool) (x2 x3:Int):Option (Int×Int):=tF gn7 n (x0,x1,x2,x3)
def wm9 (n:Nat) (x0 x1 x2 x3):qcl n x0 x1 x2 x3=j8 x1 (j7 (qbk v7 x0 (32:Int) (IntKind.u32.wrap x2) (IntKind.u32.wrap x3)) fun y1=>some (IntKind.u64.wrap y1.1,y1.2)) (j7 (qbl v7 x0 (64:Int) x2 x3) fun y2=>some (y2.1,y2.2)):=by kernel_rfl
def kn6:=okF gn7 func109
def gu1:KF:=⟨eN,0,[],[],f128,z0,[.b2,.a9,.a9],[.a4,.a1]⟩
def qfg (n:Nat) (x0 x1 x2:Int):Option (Bool×Int):=tF gu1 n (x0,x1,x2)
def ua3 (n:Nat) (x0 x1 x2):qfg n x0 x1 x2=j8 (x0==(17:Int)) (some (x1==x2,(0:Int))) (j8 (x0==(18:Int)) (some (x1 != x2,(0:Int))) (j8 (x0==(19:Int)) (some (decide (x1>x2),(0:Int))) (j8 (x0==(20:Int)) (some (decide (x1>=x2),(0:Int))) (j8 (x0==(21:Int)) (some (decide (x1<x2),(0:Int))) (j8 (x0==(22:Int)) (some (decide (x1<=x2),(0:Int))) (j8 (x0==(23:Int)) (some (decide ((IntKind.i32.wrap x1)>(IntKind.i32.wrap x2)),(0:Int))) (j8 (x0==(24:Int)) (some (decide ((IntKind.i32.wrap x1)>=(IntKind.i32.wrap x2)),(0:Int))) (j8 (x0==(25:Int)) (some (decide ((IntKind.i32.wrap x1)<(IntKind.i32.wrap x2)),(0:Int))) (j8 (x0==(26:Int)) (some (decide ((IntKind.i32.wrap x1)<=(IntKind.i32.wrap x2)),(0:Int))) (j8 (x0==(27:Int)) (some ((w8 .u32 x1 x2) != (0:Int),(0:Int))) (some (false,(2:Int))))))))))))):=by kernel_rfl
def ua4:=okF gu1 func128
def gu2:KF:=⟨eN,0,[],[],f129,z0,[.b2,.a6,.a6],[.a4,.a1]⟩
def qfh (n:Nat) (x0 x1 x2:Int):Option (Bool×Int):=tF gu2 n (x0,x1,x2)
def ua5 (n:Nat) (x0 x1 x2):qfh n x0 x1 x2=j8 (x0==(17:Int)) (some (x1==x2,(0:Int))) (j8 (x0==(18:Int)) (some (x1 != x2,(0:Int))) (j8 (x0==(19:Int)) (some (decide (x1>x2),(0:Int))) (j8 (x0==(20:Int)) (some (decide (x1>=x2),(0:Int))) (j8 (x0==(21:Int)) (some (decide (x1<x2),(0:Int))) (j8 (x0==(22:Int)) (some (decide (x1<=x2),(0:Int))) (j8 (x0==(23:Int)) (some (decide ((IntKind.i64.wrap x1)>(IntKind.i64.wrap x2)),(0:Int))) (j8 (x0==(24:Int)) (some (decide ((IntKind.i64.wrap x1)>=(IntKind.i64.wrap x2)),(0:Int))) (j8 (x0==(25:Int)) (some (decide ((IntKind.i64.wrap x1)<(IntKind.i64.wrap x2)),(0:Int))) (j8 (x0==(26:Int)) (some (decide ((IntKind.i64.wrap x1)<=(IntKind.i64.wrap x2)),(0:Int))) (j8 (x0==(27:Int)) (some ((w8 .u64 x1 x2) != (0:Int),(0:Int))) (some (false,(2:Int))))))))))))):=by kernel_rfl
def ua6:=okF gu2 func129
def gp3:KF:=⟨cF ua4 (cF ua6 eN),0,[],[],f114,z0,[.b2,.a4,.a6,.a6],[.a4,.a1]⟩
def qdm (n:Nat) (x0:Int) (x1:Bool) (x2 x3:Int):Option (Bool×Int):=tF gp3 n (x0,x1,x2,x3)
def wr3 (n:Nat) (x0 x1 x2 x3):qdm n x0 x1 x2 x3=j8 x1 (j7 (qfg v7 x0 (IntKind.u32.wrap x2) (IntKind.u32.wrap x3)) fun y1=>some (y1.1,y1.2)) (j7 (qfh v7 x0 x2 x3) fun y2=>some (y2.1,y2.2)):=by kernel_rfl
def wr4:=okF gp3 func114
def kt7:KF:=⟨eN,0,[],[([O,O,I],qt [0,3])],f71,z0,[.b2],[.a1]⟩
def qaq (n:Nat) (x0:Int):Option (Int):=tF kt7 n x0
def vb2 (n:Nat) (s0:Int) (s3:Bool):Option (Int):=uF kt7 n [O,O,I] ⟨[(0,cu8 s0),(3,cb s3)],[]⟩
def kl1 (n:Nat) (x0):qaq n x0=j8 (decide (x0>=(1:Int))) (vb2 n x0 (decide (x0<=(12:Int)))) (vb2 n x0 false):=by kernel_rfl
def ju7 (n:Nat) (s0 s3):vb2 (n+1) s0 s3=j8 s3 (some (201:Int)) (j8 (s0==(13:Int)) (some (193:Int)) (j8 (s0==(14:Int)) (some (181:Int)) (j8 (s0==(15:Int)) (some (186:Int)) (j8 (s0==(16:Int)) (some (144:Int)) (j8 (decide (s0>=(17:Int))) (j8 (decide (s0<=(27:Int))) (some (218:Int)) (j8 (s0==(28:Int)) (some (128:Int)) (some (0:Int)))) (j8 (s0==(28:Int)) (some (128:Int)) (some (0:Int)))))))):=by kernel_rfl
def kl2:=okF kt7 func71
def gu9:KF:=⟨cF kl2 eN,0,[(1,1),(2,1),(3,1)],[],f55,z0,[.b1],[.d1]⟩
def qfo (n:Nat) (x0:List Int):Option (Ins):=tF gu9 n x0
def ub8:=okF gu9 func55
def gr1:KF:=⟨eN,0,[],[([O,I,O,I],qt [0,1,7,8])],f105,z0,[.val (.list (.int .i64)),.a1],[.a1]⟩
def qec (n:Nat) (x0:List Int) (x1:Int):Option (Int):=tF gr1 n (x0,x1)
def ko8:=okF gr1 func105
def go3:KF:=⟨cF ko8 eN,0,[],[],f72,z0,[.val (.list (.int .i64)),.a1],[.a4]⟩
def qcr (n:Nat) (x0:List Int) (x1:Int):Option (Bool):=tF go3 n (x0,x1)
def ko2 (n:Nat) (x0 x1):qcr n x0 x1=j7 (qec v7 x0 x1) fun y1=>some (decide (y1>=(0:Int))):=by kernel_rfl
def wn5:=okF go3 func72
def gm8:KF:=⟨eN,0,[],[],f73,z0,[.a1,.a1,.a1],[.a4]⟩
def qby (n:Nat) (x0 x1 x2:Int):Option (Bool):=tF gm8 n (x0,x1,x2)
def km8 (n:Nat) (x0 x1 x2):qby n x0 x1 x2=j8 (decide (x0>=x1)) (some (decide (x0<=x2))) (some false):=by kernel_rfl
def wm0:=okF gm8 func73
def jt7:KF:=⟨cF kl2 (cF wn5 (cF wm0 eN)),0,[(8,1)],[([I,I,I],qt [1,3,4]),([I,I,I,I],qt [1,3,4]),([O,I,I,I,I],qt [1,3,4,31]),([I,I,I,I,I],qt [1,3,4]),([O,I,I,I,I,I],qt [1,3,4,41]),([I,I,I,I,I,I],qt [1,3,4]),([I,I,I,I,I,I,I],qt [1,3,4]),([I,I,I,I,I,I,I,I],qt [1,3,4]),([I,I,I,I,I,I,I,I,I,I],qt [1,3,4,5]),([I,I,I,I,I,I,I,I,I,I,I],qt [1,3,4,5,6])],f56,z0,[.d1],[.a4]⟩
def qa (n:Nat) (x0:Ins):Option (Bool):=tF jt7 n x0
def ks4 (n:Nat) (s3 b0_0:Int) (b0_1:Bool) (b0_2 b0_3:Int) (b0_4:Bool) (b0_5 b0_6 b0_7 b1_0:Int) (b1_1:Bool) (b1_2 b1_3:Int) (b1_4:Bool) (b1_5 b1_6 b1_7:Int):Option (Bool):=uF jt7 n [I,I,I] ⟨[(1,.ptr 0 0),(3,ci s3),(4,.ptr 1 0)],[.k1 b0_0 b0_1 b0_2 b0_3 b0_4 b0_5 b0_6 b0_7,.k1 b1_0 b1_1 b1_2 b1_3 b1_4 b1_5 b1_6 b1_7]⟩
def vu4 (n:Nat) (s3:Int) (s31:Bool) (b0_0:Int) (b0_1:Bool) (b0_2 b0_3:Int) (b0_4:Bool) (b0_5 b0_6 b0_7 b1_0:Int) (b1_1:Bool) (b1_2 b1_3:Int) (b1_4:Bool) (b1_5 b1_6 b1_7:Int):Option (Bool):=uF jt7 n [O,I,I,I,I] ⟨[(1,.ptr 0 0),(3,ci s3),(4,.ptr 1 0),(31,cb s31)],[.k1 b0_0 b0_1 b0_2 b0_3 b0_4 b0_5 b0_6 b0_7,.k1 b1_0 b1_1 b1_2 b1_3 b1_4 b1_5 b1_6 b1_7]⟩
def ks5 (n:Nat) (s3 b0_0:Int) (b0_1:Bool) (b0_2 b0_3:Int) (b0_4:Bool) (b0_5 b0_6 b0_7 b1_0:Int) (b1_1:Bool) (b1_2 b1_3:Int) (b1_4:Bool) (b1_5 b1_6 b1_7:Int):Option (Bool):=uF jt7 n [I,I,I,I] ⟨[(1,.ptr 0 0),(3,ci s3),(4,.ptr 1 0)],[.k1 b0_0 b0_1 b0_2 b0_3 b0_4 b0_5 b0_6 b0_7,.k1 b1_0 b1_1 b1_2 b1_3 b1_4 b1_5 b1_6 b1_7]⟩
def ks7 (n:Nat) (s3:Int) (s41:Bool) (b0_0:Int) (b0_1:Bool) (b0_2 b0_3:Int) (b0_4:Bool) (b0_5 b0_6 b0_7 b1_0:Int) (b1_1:Bool) (b1_2 b1_3:Int) (b1_4:Bool) (b1_5 b1_6 b1_7:Int):Option (Bool):=uF jt7 n [O,I,I,I,I,I] ⟨[(1,.ptr 0 0),(3,ci s3),(4,.ptr 1 0),(41,cb s41)],[.k1 b0_0 b0_1 b0_2 b0_3 b0_4 b0_5 b0_6 b0_7,.k1 b1_0 b1_1 b1_2 b1_3 b1_4 b1_5 b1_6 b1_7]⟩
def ks6 (n:Nat) (s3 b0_0:Int) (b0_1:Bool) (b0_2 b0_3:Int) (b0_4:Bool) (b0_5 b0_6 b0_7 b1_0:Int) (b1_1:Bool) (b1_2 b1_3:Int) (b1_4:Bool) (b1_5 b1_6 b1_7:Int):Option (Bool):=uF jt7 n [I,I,I,I,I] ⟨[(1,.ptr 0 0),(3,ci s3),(4,.ptr 1 0)],[.k1 b0_0 b0_1 b0_2 b0_3 b0_4 b0_5 b0_6 b0_7,.k1 b1_0 b1_1 b1_2 b1_3 b1_4 b1_5 b1_6 b1_7]⟩
def ks8 (n:Nat) (s3 b0_0:Int) (b0_1:Bool) (b0_2 b0_3:Int) (b0_4:Bool) (b0_5 b0_6 b0_7 b1_0:Int) (b1_1:Bool) (b1_2 b1_3:Int) (b1_4:Bool) (b1_5 b1_6 b1_7:Int):Option (Bool):=uF jt7 n [I,I,I,I,I,I] ⟨[(1,.ptr 0 0),(3,ci s3),(4,.ptr 1 0)],[.k1 b0_0 b0_1 b0_2 b0_3 b0_4 b0_5 b0_6 b0_7,.k1 b1_0 b1_1 b1_2 b1_3 b1_4 b1_5 b1_6 b1_7]⟩
def ks9 (n:Nat) (s3 b0_0:Int) (b0_1:Bool) (b0_2 b0_3:Int) (b0_4:Bool) (b0_5 b0_6 b0_7 b1_0:Int) (b1_1:Bool) (b1_2 b1_3:Int) (b1_4:Bool) (b1_5 b1_6 b1_7:Int):Option (Bool):=uF jt7 n [I,I,I,I,I,I,I] ⟨[(1,.ptr 0 0),(3,ci s3),(4,.ptr 1 0)],[.k1 b0_0 b0_1 b0_2 b0_3 b0_4 b0_5 b0_6 b0_7,.k1 b1_0 b1_1 b1_2 b1_3 b1_4 b1_5 b1_6 b1_7]⟩
def kt0 (n:Nat) (s3 b0_0:Int) (b0_1:Bool) (b0_2 b0_3:Int) (b0_4:Bool) (b0_5 b0_6 b0_7 b1_0:Int) (b1_1:Bool) (b1_2 b1_3:Int) (b1_4:Bool) (b1_5 b1_6 b1_7:Int):Option (Bool):=uF jt7 n [I,I,I,I,I,I,I,I] ⟨[(1,.ptr 0 0),(3,ci s3),(4,.ptr 1 0)],[.k1 b0_0 b0_1 b0_2 b0_3 b0_4 b0_5 b0_6 b0_7,.k1 b1_0 b1_1 b1_2 b1_3 b1_4 b1_5 b1_6 b1_7]⟩
def kt1 (n:Nat) (s3 s5 b0_0:Int) (b0_1:Bool) (b0_2 b0_3:Int) (b0_4:Bool) (b0_5 b0_6 b0_7 b1_0:Int) (b1_1:Bool) (b1_2 b1_3:Int) (b1_4:Bool) (b1_5 b1_6 b1_7:Int):Option (Bool):=uF jt7 n [I,I,I,I,I,I,I,I,I,I] ⟨[(1,.ptr 0 0),(3,ci s3),(4,.ptr 1 0),(5,ci s5)],[.k1 b0_0 b0_1 b0_2 b0_3 b0_4 b0_5 b0_6 b0_7,.k1 b1_0 b1_1 b1_2 b1_3 b1_4 b1_5 b1_6 b1_7]⟩
def jp7 (n:Nat) (s3 s5:Int) (s6:Bool) (b0_0:Int) (b0_1:Bool) (b0_2 b0_3:Int) (b0_4:Bool) (b0_5 b0_6 b0_7 b1_0:Int) (b1_1:Bool) (b1_2 b1_3:Int) (b1_4:Bool) (b1_5 b1_6 b1_7:Int):Option (Bool):=uF jt7 n [I,I,I,I,I,I,I,I,I,I,I] ⟨[(1,.ptr 0 0),(3,ci s3),(4,.ptr 1 0),(5,ci s5),(6,cb s6)],[.k1 b0_0 b0_1 b0_2 b0_3 b0_4 b0_5 b0_6 b0_7,.k1 b1_0 b1_1 b1_2 b1_3 b1_4 b1_5 b1_6 b1_7]⟩
def gl4 (n:Nat) (x0):qa n x0=j7 (qaq v7 x0.Op) fun y1=>j8 ((w8 .i64 y1 (3:Int)) != (0:Int)) (ks4 n y1 x0.Op x0.Narrow x0.Dst x0.Src x0.UseImm x0.Off x0.Imm x0.Size x0.Op false x0.Dst (0:Int) false (0:Int) (0:Int) (0:Int)) (ks4 n y1 x0.Op x0.Narrow x0.Dst x0.Src x0.UseImm x0.Off x0.Imm x0.Size x0.Op false (0:Int) (0:Int) false (0:Int) (0:Int) (0:Int)):=by kernel_rfl
def zg2 (n:Nat) (s3 b0_0 b0_1 b0_2 b0_3 b0_4 b0_5 b0_6 b0_7 b1_0 b1_1 b1_2 b1_3 b1_4 b1_5 b1_6 b1_7):ks4 (n+1) s3 b0_0 b0_1 b0_2 b0_3 b0_4 b0_5 b0_6 b0_7 b1_0 b1_1 b1_2 b1_3 b1_4 b1_5 b1_6 b1_7=j8 ((w8 .i64 s3 (4:Int)) != (0:Int)) (vu4 n s3 true b0_0 b0_1 b0_2 b0_3 b0_4 b0_5 b0_6 b0_7 b1_0 b1_1 b1_2 b1_3 b1_4 b1_5 b1_6 b1_7) (j8 ((w8 .i64 s3 (8:Int)) != (0:Int)) (vu4 n s3 (!b0_4) b0_0 b0_1 b0_2 b0_3 b0_4 b0_5 b0_6 b0_7 b1_0 b1_1 b1_2 b1_3 b1_4 b1_5 b1_6 b1_7) (vu4 n s3 false b0_0 b0_1 b0_2 b0_3 b0_4 b0_5 b0_6 b0_7 b1_0 b1_1 b1_2 b1_3 b1_4 b1_5 b1_6 b1_7)):=by kernel_rfl
def zg4 (n:Nat) (s3 s31 b0_0 b0_1 b0_2 b0_3 b0_4 b0_5 b0_6 b0_7 b1_0 b1_1 b1_2 b1_3 b1_4 b1_5 b1_6 b1_7):vu4 (n+1) s3 s31 b0_0 b0_1 b0_2 b0_3 b0_4 b0_5 b0_6 b0_7 b1_0 b1_1 b1_2 b1_3 b1_4 b1_5 b1_6 b1_7=j8 s31 (ks5 n s3 b0_0 b0_1 b0_2 b0_3 b0_4 b0_5 b0_6 b0_7 b1_0 b1_1 b1_2 b0_3 b1_4 b1_5 b1_6 b1_7) (ks5 n s3 b0_0 b0_1 b0_2 b0_3 b0_4 b0_5 b0_6 b0_7 b1_0 b1_1 b1_2 b1_3 b1_4 b1_5 b1_6 b1_7):=by kernel_rfl
def zg3 (n:Nat) (s3 b0_0 b0_1 b0_2 b0_3 b0_4 b0_5 b0_6 b0_7 b1_0 b1_1 b1_2 b1_3 b1_4 b1_5 b1_6 b1_7):ks5 (n+1) s3 b0_0 b0_1 b0_2 b0_3 b0_4 b0_5 b0_6 b0_7 b1_0 b1_1 b1_2 b1_3 b1_4 b1_5 b1_6 b1_7=j8 ((w8 .i64 s3 (8:Int)) != (0:Int)) (ks7 n s3 b0_4 b0_0 b0_1 b0_2 b0_3 b0_4 b0_5 b0_6 b0_7 b1_0 b1_1 b1_2 b1_3 b1_4 b1_5 b1_6 b1_7) (ks7 n s3 false b0_0 b0_1 b0_2 b0_3 b0_4 b0_5 b0_6 b0_7 b1_0 b1_1 b1_2 b1_3 b1_4 b1_5 b1_6 b1_7):=by kernel_rfl
def zg6 (n:Nat) (s3 s41 b0_0 b0_1 b0_2 b0_3 b0_4 b0_5 b0_6 b0_7 b1_0 b1_1 b1_2 b1_3 b1_4 b1_5 b1_6 b1_7):ks7 (n+1) s3 s41 b0_0 b0_1 b0_2 b0_3 b0_4 b0_5 b0_6 b0_7 b1_0 b1_1 b1_2 b1_3 b1_4 b1_5 b1_6 b1_7=j8 s41 (ks6 n s3 b0_0 b0_1 b0_2 b0_3 b0_4 b0_5 b0_6 b0_7 b1_0 b1_1 b1_2 b1_3 true b1_5 b0_6 b1_7) (ks6 n s3 b0_0 b0_1 b0_2 b0_3 b0_4 b0_5 b0_6 b0_7 b1_0 b1_1 b1_2 b1_3 b1_4 b1_5 b1_6 b1_7):=by kernel_rfl
def zg5 (n:Nat) (s3 b0_0 b0_1 b0_2 b0_3 b0_4 b0_5 b0_6 b0_7 b1_0 b1_1 b1_2 b1_3 b1_4 b1_5 b1_6 b1_7):ks6 (n+1) s3 b0_0 b0_1 b0_2 b0_3 b0_4 b0_5 b0_6 b0_7 b1_0 b1_1 b1_2 b1_3 b1_4 b1_5 b1_6 b1_7=j8 ((w8 .i64 s3 (16:Int)) != (0:Int)) (ks8 n s3 b0_0 b0_1 b0_2 b0_3 b0_4 b0_5 b0_6 b0_7 b1_0 b1_1 b1_2 b1_3 b1_4 b0_5 b1_6 b1_7) (ks8 n s3 b0_0 b0_1 b0_2 b0_3 b0_4 b0_5 b0_6 b0_7 b1_0 b1_1 b1_2 b1_3 b1_4 b1_5 b1_6 b1_7):=by kernel_rfl
def zg7 (n:Nat) (s3 b0_0 b0_1 b0_2 b0_3 b0_4 b0_5 b0_6 b0_7 b1_0 b1_1 b1_2 b1_3 b1_4 b1_5 b1_6 b1_7):ks8 (n+1) s3 b0_0 b0_1 b0_2 b0_3 b0_4 b0_5 b0_6 b0_7 b1_0 b1_1 b1_2 b1_3 b1_4 b1_5 b1_6 b1_7=j8 ((w8 .i64 s3 (32:Int)) != (0:Int)) (ks9 n s3 b0_0 b0_1 b0_2 b0_3 b0_4 b0_5 b0_6 b0_7 b1_0 b1_1 b1_2 b1_3 b1_4 b1_5 b1_6 b0_7) (ks9 n s3 b0_0 b0_1 b0_2 b0_3 b0_4 b0_5 b0_6 b0_7 b1_0 b1_1 b1_2 b1_3 b1_4 b1_5 b1_6 b1_7):=by kernel_rfl
def zg8 (n:Nat) (s3 b0_0 b0_1 b0_2 b0_3 b0_4 b0_5 b0_6 b0_7 b1_0 b1_1 b1_2 b1_3 b1_4 b1_5 b1_6 b1_7):ks9 (n+1) s3 b0_0 b0_1 b0_2 b0_3 b0_4 b0_5 b0_6 b0_7 b1_0 b1_1 b1_2 b1_3 b1_4 b1_5 b1_6 b1_7=j8 ((w8 .i64 s3 (64:Int)) != (0:Int)) (kt0 n s3 b0_0 b0_1 b0_2 b0_3 b0_4 b0_5 b0_6 b0_7 b1_0 b0_1 b1_2 b1_3 b1_4 b1_5 b1_6 b1_7) (kt0 n s3 b0_0 b0_1 b0_2 b0_3 b0_4 b0_5 b0_6 b0_7 b1_0 b1_1 b1_2 b1_3 b1_4 b1_5 b1_6 b1_7):=by kernel_rfl
def zg9 (n:Nat) (s3 b0_0 b0_1 b0_2 b0_3 b0_4 b0_5 b0_6 b0_7 b1_0 b1_1 b1_2 b1_3 b1_4 b1_5 b1_6 b1_7):kt0 (n+1) s3 b0_0 b0_1 b0_2 b0_3 b0_4 b0_5 b0_6 b0_7 b1_0 b1_1 b1_2 b1_3 b1_4 b1_5 b1_6 b1_7=j8 ((w8 .i64 s3 (1:Int)) != (0:Int)) (kt1 n s3 (9:Int) b0_0 b0_1 b0_2 b0_3 b0_4 b0_5 b0_6 b0_7 b1_0 b1_1 b1_2 b1_3 b1_4 b1_5 b1_6 b1_7) (kt1 n s3 (10:Int) b0_0 b0_1 b0_2 b0_3 b0_4 b0_5 b0_6 b0_7 b1_0 b1_1 b1_2 b1_3 b1_4 b1_5 b1_6 b1_7):=by kernel_rfl
def zh0 (n:Nat) (s3 s5 b0_0 b0_1 b0_2 b0_3 b0_4 b0_5 b0_6 b0_7 b1_0 b1_1 b1_2 b1_3 b1_4 b1_5 b1_6 b1_7):kt1 (n+1) s3 s5 b0_0 b0_1 b0_2 b0_3 b0_4 b0_5 b0_6 b0_7 b1_0 b1_1 b1_2 b1_3 b1_4 b1_5 b1_6 b1_7=j8 ((w8 .i64 s3 (32:Int))==(0:Int)) (jp7 n s3 s5 true b0_0 b0_1 b0_2 b0_3 b0_4 b0_5 b0_6 b0_7 b1_0 b1_1 b1_2 b1_3 b1_4 b1_5 b1_6 b1_7) (j7 (qcr v7 ([(1:Int),(2:Int),(4:Int),(8:Int)]:List Int) b0_7) fun y1=>jp7 n s3 s5 y1 b0_0 b0_1 b0_2 b0_3 b0_4 b0_5 b0_6 b0_7 b1_0 b1_1 b1_2 b1_3 b1_4 b1_5 b1_6 b1_7):=by kernel_rfl
def qm0 (n:Nat) (s3 s5 s6 b0_0 b0_1 b0_2 b0_3 b0_4 b0_5 b0_6 b0_7 b1_0 b1_1 b1_2 b1_3 b1_4 b1_5 b1_6 b1_7):jp7 (n+1) s3 s5 s6 b0_0 b0_1 b0_2 b0_3 b0_4 b0_5 b0_6 b0_7 b1_0 b1_1 b1_2 b1_3 b1_4 b1_5 b1_6 b1_7=j8 (s3 != (0:Int)) (j8 ((b0_0==b1_0)&&((b0_1==b1_1)&&((b0_2==b1_2)&&((b0_3==b1_3)&&((b0_4==b1_4)&&((b0_5==b1_5)&&((b0_6==b1_6)&&(b0_7==b1_7)))))))) (j7 (qby v7 b0_2 (0:Int) s5) fun y1=>j8 y1 (j7 (qby v7 b0_3 (0:Int) (10:Int)) fun y2=>j8 y2 (j7 (qby v7 b0_5 (-32768:Int) (32767:Int)) fun y3=>j8 y3 (j7 (qby v7 b0_6 (-2147483648:Int) (2147483647:Int)) fun y4=>j8 y4 (some s6) (some false)) (some false)) (some false)) (some false)) (some false)) (some false):=by kernel_rfl
def kt2:=okF jt7 func56
def gp7:KF:=⟨cF ko8 eN,0,[],[],f74,z0,[.d1],[.a1]⟩
def qdq (n:Nat) (x0:Ins):Option (Int):=tF gp7 n x0
def ws1 (n:Nat) (x0):qdq n x0=j8 x0.Narrow (some (1:Int)) (j7 (qec v7 ([(1:Int),(2:Int),(4:Int),(8:Int)]:List Int) x0.Size) fun y1=>some (ue0 y1 (0:Int))):=by kernel_rfl
def ws2:=okF gp7 func74
def ku8:KF:=⟨cF ws2 eN,0,[],[([I,I],qt [1,3])],f57,z0,[.d1],[.own 5 (.int .u8)]⟩
def qbm (n:Nat) (x0:Ins):Option (List Int):=tF ku8 n x0
def vb5 (n:Nat) (s3 b0_0:Int) (b0_1:Bool) (b0_2 b0_3:Int) (b0_4:Bool) (b0_5 b0_6 b0_7:Int):Option (List Int):=uF ku8 n [I,I] ⟨[(1,.ptr 0 0),(3,cu8 s3)],[.k1 b0_0 b0_1 b0_2 b0_3 b0_4 b0_5 b0_6 b0_7]⟩
def wl0 (n:Nat) (x0):qbm n x0=j7 (qdq v7 x0) fun y1=>j8 x0.UseImm (vb5 n (bOr .u8 (bOr .u8 x0.Op (zm3 .u8 (IntKind.u8.wrap y1) (6:Int))) (32:Int)) x0.Op x0.Narrow x0.Dst x0.Src x0.UseImm x0.Off x0.Imm x0.Size) (vb5 n (bOr .u8 x0.Op (zm3 .u8 (IntKind.u8.wrap y1) (6:Int))) x0.Op x0.Narrow x0.Dst x0.Src x0.UseImm x0.Off x0.Imm x0.Size):=by kernel_rfl
def jv0 (n:Nat) (s3 b0_0 b0_1 b0_2 b0_3 b0_4 b0_5 b0_6 b0_7):vb5 (n+1) s3 b0_0 b0_1 b0_2 b0_3 b0_4 b0_5 b0_6 b0_7=some ([s3,IntKind.u8.wrap (bOr .i64 (zm3 .i64 b0_2 (4:Int)) b0_3),IntKind.u8.wrap (zr2 .u16 (IntKind.u16.wrap b0_5) (8:Int)),IntKind.u8.wrap (IntKind.u16.wrap b0_5),IntKind.u8.wrap (zr2 .u32 (IntKind.u32.wrap b0_6) (24:Int)),IntKind.u8.wrap (zr2 .u32 (IntKind.u32.wrap b0_6) (16:Int)),IntKind.u8.wrap (zr2 .u32 (IntKind.u32.wrap b0_6) (8:Int)),IntKind.u8.wrap (IntKind.u32.wrap b0_6)]:List Int):=by kernel_rfl
def wl1:=okF ku8 func57
def kt3:KF:=⟨eN,0,[],[([O,I,O,I,I],qt [0,1,12,13])],f26,z0,[.b1,.b1],[.a4]⟩
def qak (n:Nat) (x0 x1:List Int):Option (Bool):=tF kt3 n (x0,x1)
def yk8 (n:Nat) (s0 s1:List Int) (s12 s13:Int):Option (Bool):=uF kt3 n [O,I,O,I,I] ⟨[(0,.cell ⟨.list (.int .u8),s0⟩),(1,.cell ⟨.list (.int .u8),s1⟩),(12,ci s12),(13,ci s13)],[]⟩
def wg4 (n:Nat) (x0 x1):qak n x0 x1=j8 (((x0.length:Nat):Int) != ((x1.length:Nat):Int)) (some false) (yk8 n x0 x1 ((x0.length:Nat):Int) (0:Int)):=by kernel_rfl
def ju1 (n:Nat) (s0 s1 s12 s13):yk8 (n+1) s0 s1 s12 s13=j8 (decide (s13<s12)) (if 0<=s13/\s13<((s0.length:Nat):Int) then (if 0<=s13/\s13<((s1.length:Nat):Int) then (j8 ((s0.getD s13.toNat (0:Int)) != (s1.getD s13.toNat (0:Int))) (some false) (yk8 n s0 s1 s12 (IntKind.i64.wrap (s13+(1:Int))))) else none) else none) (some true):=by kernel_rfl
def va6:=okF kt3 func26
def vv2:KF:=⟨cF ub8 (cF kt2 (cF wl1 (cF va6 eN))),0,[(9,1)],[([O,O,I,I,I],⟨[0,4],[(4,111,.user 5)],false,[],0,false⟩),([O,I,O,O,I,O,O,O,I,I,I],qt [0,4,5,33])],f39,z0,[.b1],[.own 111 (.user 5),.a1]⟩
def qal (n:Nat) (x0:List Int):Option (List Ins×Int):=tF vv2 n x0
def qd6 (n:Nat) (s0:List Int) (r0:List Ins):Option (List Ins×Int):=uF vv2 n [O,O,I,I,I] ⟨[(0,.cell ⟨.list (.int .u8),s0⟩),(4,.own 0)],[.row 111 (.user 5) r0]⟩
def va7 (n:Nat) (s0:List Int) (s33:Bool) (r0:List Ins) (b1_0:Int) (b1_1:Bool) (b1_2 b1_3:Int) (b1_4:Bool) (b1_5 b1_6 b1_7:Int):Option (List Ins×Int):=uF vv2 n [O,I,O,O,I,O,O,O,I,I,I] ⟨[(0,.cell ⟨.list (.int .u8),s0⟩),(4,.own 0),(5,.ptr 1 0),(33,cb s33)],[.row 111 (.user 5) r0,.k1 b1_0 b1_1 b1_2 b1_3 b1_4 b1_5 b1_6 b1_7]⟩
def wg5 (n:Nat) (x0):qal n x0=j8 (decide (((x0.length:Nat):Int)>(32768:Int))) (some (([]:List Ins),(3:Int))) (j8 ((((x0.length:Nat):Int).tmod (8:Int)) != (0:Int)) (some (([]:List Ins),(4:Int))) (qd6 n x0 ([]:List Ins))):=by kernel_rfl
def ju3 (n:Nat) (s0 r0):qd6 (n+1) s0 r0=j8 (decide (((s0.length:Nat):Int)>(0:Int))) (if 0<=(0:Int)/\(0:Int)<=(8:Int)/\(8:Int)<=((s0.length:Nat):Int) then (j7 (qfo v7 (List.take 8 (List.drop 0 s0))) fun y1=>j7 (qa v7 y1) fun y2=>j8 (!y2) (va7 n s0 true r0 y1.Op y1.Narrow y1.Dst y1.Src y1.UseImm y1.Off y1.Imm y1.Size) (j7 (qbm v7 y1) fun y3=>if 0<=(0:Int)/\(0:Int)<=(8:Int)/\(8:Int)<=((s0.length:Nat):Int) then (j7 (qak v7 y3 (List.take 8 (List.drop 0 s0))) fun y4=>va7 n s0 (!y4) r0 y1.Op y1.Narrow y1.Dst y1.Src y1.UseImm y1.Off y1.Imm y1.Size) else none)) else none) (some (r0,(0:Int))):=by kernel_rfl
def ju2 (n:Nat) (s0 s33 r0 b1_0 b1_1 b1_2 b1_3 b1_4 b1_5 b1_6 b1_7):va7 (n+1) s0 s33 r0 b1_0 b1_1 b1_2 b1_3 b1_4 b1_5 b1_6 b1_7=j8 s33 (some (([]:List Ins),(4:Int))) (if (r0.length+1)*56<=140737488355328 then (if 0<=(8:Int)/\(8:Int)<=((s0.length:Nat):Int)/\((s0.length:Nat):Int)<=((s0.length:Nat):Int) then (qd6 n (List.take ((((s0.length:Nat):Int).toNat)-8) (List.drop 8 s0)) (r0++([(⟨b1_0,b1_1,b1_2,b1_3,b1_4,b1_5,b1_6,b1_7⟩:Ins)]:List Ins))) else none) else none):=by kernel_rfl
def wg6:=okF vv2 func39
end
end Go.X
