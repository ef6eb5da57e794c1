import Derived.Test.YthhhfnfgmijggaaGreatIb
set_option linter.defProp false
namespace Go.X
open Go.RowKit Go.V Go.Proofs Tryz
noncomputable def ub1:KF:=⟨eN,0,[],[],f134,z0,[.b1,.a2],[.a9]⟩
noncomputable def qfz (n:Nat) (a:Span) (b:Int):Option (Bool):=tF ub1 n (a,b)
def zaf9 (n a b):qfz n a b=z9 (decide (a.Lo<=b)) (some (decide (b<=a.Hi))) (some false):=by kernel_rfl
def zag0:=okF ub1 func134
noncomputable def ud6:KF:=⟨eN,0,[],[],f136,z0,[.a9],[.b1]⟩
noncomputable def qo (n:Nat) (a:Bool):Option (Span):=tF ud6 n a
def zap7 (n a):qo n a=z9 a (some (⟨0,4294967295⟩:Span)) (some (⟨0,18446744073709551615⟩:Span)):=by kernel_rfl
def kq2:=okF ud6 func136
noncomputable def ub2:KF:=⟨eN,0,[],[],f135,z0,[.b1,.b1],[.a9]⟩
noncomputable def qga (n:Nat) (a b:Span):Option (Bool):=tF ub2 n (a,b)
def zag1 (n a b):qga n a b=z9 (decide (b.Lo<=a.Lo)) (some (decide (a.Hi<=b.Hi))) (some false):=by kernel_rfl
def zag2:=okF ub2 func135
noncomputable def wu2:KF:=⟨cF zag0 (cF kq2 (cF zag2 eN)),0,[],[],f104,z0,[.b1,.a9],[.a9]⟩
noncomputable def qcd (n:Nat) (a:Span) (b:Bool):Option (Bool):=tF wu2 n (a,b)
def ur9 (n a b):qcd n a b=z6 (qfz v3 a 0) fun c=>z9 c (some true) (z9 b (z6 (qo v3 true) fun d=>z6 (qga v3 a d) fun e=>some (!e)) (some false)):=by kernel_rfl
def us0:=okF wu2 func104
noncomputable def gy8:KG:=⟨eN,0,[],[],f137,n0,[],[],[.mp .u8 [1,2,3,4,5,6,7,8,9,10,11,12,13] [.fn 181 [] [],.fn 182 [] [],.fn 183 [] [],.fn 184 [] [],.fn 185 [] [],.fn 186 [] [],.fn 187 [] [],.fn 188 [] [],.fn 189 [] [],.fn 190 [] [],.fn 191 [] [],.fn 192 [] [],.fn 193 [] []]]⟩
noncomputable def qbf (n:Nat):Option (Unit×((u4×u4×u4×u4×u4×u4×u4×u4×u4×u4×u4×u4×u4×Unit)×Unit)):=tG gy8 n ()
def zs0 (n):qbf n=some ((),((((),()),((),()),((),()),((),()),((),()),((),()),((),()),((),()),((),()),((),()),((),()),((),()),((),()),()),())):=by kernel_rfl
def uo4:=okG gy8 func137
noncomputable def qf_k:KF:=⟨cF kq2 eN,0,[],[],f139,z0,[.b1,.a9],[.b1]⟩
noncomputable def qf (n:Nat) (a:Span) (b:Bool):Option (Span):=tF qf_k n (a,b)
def zao2 (n a b):qf n a b=z9 (!b) (some a) (z9 ((zb1 .u64 a.Lo 32) != (zb1 .u64 a.Hi 32)) (z6 (qo v3 true) fun c=>some c) (some (⟨w9 .u64 a.Lo 4294967295,w9 .u64 a.Hi 4294967295⟩:Span))):=by kernel_rfl
def zao3:=okF qf_k func139
noncomputable def ko3:KF:=⟨cF zao3 eN,0,[(1,1)],[],f108,z0,[.a9,.b1,.b1],[.c4]⟩
noncomputable def qaq (n:Nat) (a:Bool) (b c:Span):Option (Work):=tF ko3 n (a,b,c)
def um4 (n a d e):qaq n a d e=z6 (qf v3 d a) fun b=>z6 (qf v3 e a) fun c=>z9 a (some (⟨b.Lo,b.Hi,c.Lo,c.Hi,a,4294967295,32⟩:Work)) (some (⟨b.Lo,b.Hi,c.Lo,c.Hi,a,18446744073709551615,64⟩:Work)):=by kernel_rfl
def gl1:=okF ko3 func108
noncomputable def qn_k:KP:=⟨⟨eN,0,[],[],f194,n0,[.a9],[],[]⟩,.ifc 163 (.agg [])⟩
noncomputable def qn (n:Nat) (a:Bool):Option (Unit×(Unit⊕u4)):=tP qn_k n (a,())
def zap6 (n a):qn n a=z9 (!a) (some ((),.inr ((),()))) (some ((),.inl ())):=by kernel_rfl
def ja3:=okP qn_k func194
noncomputable def wu0:KF:=⟨eN,0,[],[],f202,z0,[.c4,.a2,.a2],[.b1]⟩
noncomputable def qca (n:Nat) (a:Work) (b c:Int):Option (Span):=tF wu0 n (a,b,c)
def ur7 (n a b c):qca n a b c=some (⟨w9 .u64 b a.most,w9 .u64 c a.most⟩:Span):=by kernel_rfl
def vq4:=okF wu0 func202
noncomputable def kp1:KP:=⟨⟨cP ja3 (cF vq4 eN),0,[],[([I],qt [1,2])],f181,n0,[.c4],[],[.b1]⟩,.ifc 163 (.agg [])⟩
abbrev gn2:=Option u11
noncomputable def qbo (n:Nat) (a:Work):gn2:=tP kp1 n (a,())
noncomputable def vp8 (n:Nat) (a b c d:Int) (e:Bool) (f g h i:Int):gn2:=uP kp1 n [I] ⟨[(1,.ptr 0 0),(2,.ptr 1 0)],[.k5 a b c d e f g,.k3 h i]⟩
def up8 (n a):qbo n a=z9 (decide (a.b_Hi<=(IntKind.u64.wrap (a.most-a.a_Hi)))) (z6 (qn v3 true) fun b=>match b.2 with| .inl d=>(vp8 n a.a_Lo a.a_Hi a.b_Lo a.b_Hi a.narrow a.most a.size 0 0)| .inr e=>(some ((),.inr ((),())))) (z6 (qn v3 (decide (a.b_Lo>(IntKind.u64.wrap (a.most-a.a_Lo))))) fun c=>match c.2 with| .inl f=>(vp8 n a.a_Lo a.a_Hi a.b_Lo a.b_Hi a.narrow a.most a.size 0 0)| .inr g=>(some ((),.inr ((),())))):=by kernel_rfl
def ki1 (n a b c d e f g h i):vp8 (n+1) a b c d e f g h i=z6 (qca v3 (⟨a,b,c,d,e,f,g⟩:Work) (IntKind.u64.wrap (a+c)) (IntKind.u64.wrap (b+d))) fun j=>some ((),.inl (j,())):=by kernel_rfl
def up9:=okP kp1 func181
noncomputable def qag_C:Ctx TT:=⟨yk9,[],2,[],zo5,yk6⟩
def wj4:zb4 TT prog qag_C.E:=zh9
noncomputable def qag (a:Bool) (b c:Int):Option ((Bool×Unit)×u16×Unit):=yj8 prog qag_C f138 (w5 f138) [.e7,.c6] (.rw 1) [.blk 4 [.a9],.c8] ((a,()),(b,c,()),(),())
def gk8 (a b c):qag a b c=some ((a,()),(b,c,()),()):=by kernel_rfl
noncomputable def vv9:DSpec TT:=⟨[.e7,.c6],.rw 1,[.blk 4 [.a9],.c8],fun x=>qag x.1.1 x.2.1.1 x.2.1.2.1⟩
def wj3:DOk TT prog 138 vv9:=zx9 (C:=qag_C) (by kernel_rfl) wj4 func138 (show f138.body=some (w5 f138) by kernel_rfl) (by kernel_rfl) (by kernel_rfl) (by kernel_rfl) (by kernel_rfl) fun x y h=>h
noncomputable def qbe_C:Ctx TT:=⟨yk9,[(136,(sF ud6).toCall)],2,[],zo5,yk6⟩
def wk0:zb4 TT prog qbe_C.E:=zn0 (zd2 kq2) (zh9)
noncomputable def qbe (a:Bool) (b c:Int):Option ((Bool×Unit)×u16×Unit):=yj8 prog qbe_C f138 (w5 f138) [.e7,.c6] (.ifc 163 (.agg [])) [.blk 4 [.a9],.c8] ((a,()),(b,c,()),(),())
def uo3 (a c d):qbe a c d=z6 (qo v3 a) fun b=>some ((a,()),(b.Lo,b.Hi,()),()):=by kernel_rfl
noncomputable def vw1:DSpec TT:=⟨[.e7,.c6],.ifc 163 (.agg []),[.blk 4 [.a9],.c8],fun x=>qbe x.1.1 x.2.1.1 x.2.1.2.1⟩
def wj9:DOk TT prog 138 vw1:=zx9 (C:=qbe_C) (by kernel_rfl) wk0 func138 (show f138.body=some (w5 f138) by kernel_rfl) (by kernel_rfl) (by kernel_rfl) (by kernel_rfl) (by kernel_rfl) fun x y h=>h
noncomputable def kp5:KP:=⟨⟨cP ja3 (cF vq4 eN),0,[],[([I],qt [1,2])],f182,n0,[.c4],[],[.b1]⟩,.ifc 163 (.agg [])⟩
abbrev gn9:=Option u11
noncomputable def qbt (n:Nat) (a:Work):gn9:=tP kp5 n (a,())
noncomputable def vq3 (n:Nat) (a b c d:Int) (e:Bool) (f g h i:Int):gn9:=uP kp5 n [I] ⟨[(1,.ptr 0 0),(2,.ptr 1 0)],[.k5 a b c d e f g,.k3 h i]⟩
def uq6 (n a):qbt n a=z9 (decide (a.a_Lo>=a.b_Hi)) (z6 (qn v3 true) fun b=>match b.2 with| .inl d=>(vq3 n a.a_Lo a.a_Hi a.b_Lo a.b_Hi a.narrow a.most a.size 0 0)| .inr e=>(some ((),.inr ((),())))) (z6 (qn v3 (decide (a.a_Hi<a.b_Lo))) fun c=>match c.2 with| .inl f=>(vq3 n a.a_Lo a.a_Hi a.b_Lo a.b_Hi a.narrow a.most a.size 0 0)| .inr g=>(some ((),.inr ((),())))):=by kernel_rfl
def ki5 (n a b c d e f g h i):vq3 (n+1) a b c d e f g h i=z6 (qca v3 (⟨a,b,c,d,e,f,g⟩:Work) (IntKind.u64.wrap (a-d)) (IntKind.u64.wrap (b-c))) fun j=>some ((),.inl (j,())):=by kernel_rfl
def uq7:=okP kp5 func182
noncomputable def wz8:KF:=⟨eN,0,[],[],f203,z0,[.a2,.a2],[.a2,.a2]⟩
noncomputable def qfm (n:Nat) (a b:Int):Option (Int×Int):=tF wz8 n (a,b)
def zad3 (n a b):qfm n a b=some (IntKind.u64.wrap ((IntKind.u64.wrap ((IntKind.u64.wrap ((zb1 .u64 a 32)*(zb1 .u64 b 32)))+(zb1 .u64 (IntKind.u64.wrap ((IntKind.u64.wrap ((zb1 .u64 a 32)*(w9 .u64 b 4294967295)))+(zb1 .u64 (IntKind.u64.wrap ((w9 .u64 a 4294967295)*(w9 .u64 b 4294967295))) 32))) 32)))+(zb1 .u64 (IntKind.u64.wrap ((w9 .u64 (IntKind.u64.wrap ((IntKind.u64.wrap ((zb1 .u64 a 32)*(w9 .u64 b 4294967295)))+(zb1 .u64 (IntKind.u64.wrap ((w9 .u64 a 4294967295)*(w9 .u64 b 4294967295))) 32))) 4294967295)+(IntKind.u64.wrap ((w9 .u64 a 4294967295)*(zb1 .u64 b 32))))) 32)),IntKind.u64.wrap (a*b)):=by kernel_rfl
def zad4:=okF wz8 func203
noncomputable def kp2:KP:=⟨⟨cF zad4 (cP ja3 eN),0,[],[([I,I],qt [1,2,4])],f183,n0,[.c4],[],[.b1]⟩,.ifc 163 (.agg [])⟩
abbrev gn3:=Option u11
noncomputable def qbp (n:Nat) (a:Work):gn3:=tP kp2 n (a,())
noncomputable def vp9 (n:Nat) (j a b c d:Int) (e:Bool) (f g h i:Int):gn3:=uP kp2 n [I,I] ⟨[(1,.ptr 0 0),(2,.ptr 1 0),(4,yk4 j)],[.k5 a b c d e f g,.k3 h i]⟩
def uq0 (n a):qbp n a=z6 (qfm v3 a.a_Hi a.b_Hi) fun b=>z9 (b.1==0) (z6 (qn v3 (decide (b.2<=a.most))) fun c=>match c.2 with| .inl e=>(vp9 n b.2 a.a_Lo a.a_Hi a.b_Lo a.b_Hi a.narrow a.most a.size 0 0)| .inr f=>(some ((),.inr ((),())))) (z6 (qn v3 false) fun d=>match d.2 with| .inl g=>(vp9 n b.2 a.a_Lo a.a_Hi a.b_Lo a.b_Hi a.narrow a.most a.size 0 0)| .inr h=>(some ((),.inr ((),())))):=by kernel_rfl
def ki2 (n j a c b d e f g h i):vp9 (n+1) j a c b d e f g h i=some ((),.inl ((⟨IntKind.u64.wrap (a*b),j⟩:Span),())):=by kernel_rfl
def uq1:=okP kp2 func183
noncomputable def wa0:KF:=⟨eN,0,[(1,1)],[],f184,z0,[.c4],[.b1]⟩
noncomputable def qct (n:Nat) (a:Work):Option (Span):=tF wa0 n a
def ut6 (n a):qct n a=if zi1 a.b_Hi 1=0 then none else (if zi1 a.b_Lo 1=0 then none else (some (⟨IntKind.u64.wrap (a.a_Lo.tdiv (zi1 a.b_Hi 1)),IntKind.u64.wrap (a.a_Hi.tdiv (zi1 a.b_Lo 1))⟩:Span))):=by kernel_rfl
def ut7:=okF wa0 func184
noncomputable def wa1:KF:=⟨eN,0,[],[],f185,z0,[.c4],[.b1]⟩
noncomputable def qcu (n:Nat) (a:Work):Option (Span):=tF wa1 n a
def ut8 (n a):qcu n a=z9 (decide (a.a_Hi<(zi1 a.b_Lo 1))) (some (⟨a.a_Lo,a.a_Hi⟩:Span)) (some (⟨0,zo3 a.a_Hi (IntKind.u64.wrap ((zi1 a.b_Hi 1)-1))⟩:Span)):=by kernel_rfl
def ut9:=okF wa1 func185
noncomputable def qs_k:KF:=⟨cF jl5 eN,0,[],[],f205,z0,[.b1],[.a9]⟩
noncomputable def qs (n:Nat) (a:Span):Option (Bool):=tF qs_k n a
def zaq2 (n a):qs n a=z6 (qbz v3 a.Lo) fun b=>some ((a.Lo==b.Lo)&&(a.Hi==b.Hi)):=by kernel_rfl
def vj8:=okF qs_k func205
noncomputable def wt0:KF:=⟨cF vj8 eN,0,[],[],f195,z0,[.c4],[.a9]⟩
noncomputable def qac (n:Nat) (a:Work):Option (Bool):=tF wt0 n a
def uk3 (n a):qac n a=z6 (qs v3 (⟨a.a_Lo,a.a_Hi⟩:Span)) fun b=>z9 b (z6 (qs v3 (⟨a.b_Lo,a.b_Hi⟩:Span)) fun c=>some c) (some false):=by kernel_rfl
def jk9:=okF wt0 func195
noncomputable def gz6:KF:=⟨cF jk9 (cF jl5 eN),0,[],[],f186,z0,[.c4],[.b1]⟩
noncomputable def qcj (n:Nat) (a:Work):Option (Span):=tF gz6 n a
def us3 (n a):qcj n a=z6 (qac v3 a) fun b=>z9 b (z6 (qbz v3 (w9 .u64 a.a_Lo a.b_Lo)) fun c=>some c) (some (⟨0,zo3 a.a_Hi a.b_Hi⟩:Span)):=by kernel_rfl
def us4:=okF gz6 func186
noncomputable def wu5:KF:=⟨cF ue2 eN,0,[],[],f204,z0,[.a2],[.a2]⟩
noncomputable def qci (n:Nat) (a:Int):Option (Int):=tF wu5 n a
def us2 (n a):qci n a=z6 (qx v3 a) fun b=>if b<0 then none else (some (IntKind.u64.wrap ((yd6 .u64 1 b)-1))):=by kernel_rfl
def go4:=okF wu5 func204
noncomputable def gz7:KF:=⟨cF jk9 (cF jl5 (cF go4 eN)),0,[(3,1)],[],f187,z0,[.c4],[.b1]⟩
noncomputable def qck (n:Nat) (a:Work):Option (Span):=tF gz7 n a
def us5 (n a):qck n a=z6 (qac v3 a) fun b=>z9 b (z6 (qbz v3 (bOr .u64 a.a_Lo a.b_Lo)) fun c=>some c) (z6 (qci v3 (bOr .u64 a.a_Hi a.b_Hi)) fun d=>some (⟨zi1 a.a_Lo a.b_Lo,d⟩:Span)):=by kernel_rfl
def us6:=okF gz7 func187
noncomputable def gz8:KF:=⟨cF jk9 (cF jl5 (cF go4 eN)),0,[],[],f188,z0,[.c4],[.b1]⟩
noncomputable def qcl (n:Nat) (a:Work):Option (Span):=tF gz8 n a
def us7 (n a):qcl n a=z6 (qac v3 a) fun b=>z9 b (z6 (qbz v3 (jb3 .u64 a.a_Lo a.b_Lo)) fun c=>some c) (z6 (qci v3 (bOr .u64 a.a_Hi a.b_Hi)) fun d=>some (⟨0,d⟩:Span)):=by kernel_rfl
def us8:=okF gz8 func188
noncomputable def kp4:KP:=⟨⟨cF vj8 (cP ja3 eN),0,[],[([I,I],qt [1,2,3])],f189,n0,[.c4],[],[.b1]⟩,.ifc 163 (.agg [])⟩
abbrev gn8:=Option u11
noncomputable def qbs (n:Nat) (a:Work):gn8:=tP kp4 n (a,())
noncomputable def vq2 (n:Nat) (j a b c d:Int) (e:Bool) (f g h i:Int):gn8:=uP kp4 n [I,I] ⟨[(1,.ptr 0 0),(2,.ptr 1 0),(3,yk4 j)],[.k5 a b c d e f g,.k3 h i]⟩
def uq4 (n a):qbs n a=if a.size=0 then none else (z6 (qs v3 (⟨a.b_Lo,a.b_Hi⟩:Span)) fun b=>z9 b (if a.b_Lo.tmod a.size<0 then none else (z6 (qn v3 (decide (a.a_Hi<=(zb1 .u64 a.most (a.b_Lo.tmod a.size))))) fun c=>match c.2 with| .inl e=>(vq2 n (a.b_Lo.tmod a.size) a.a_Lo a.a_Hi a.b_Lo a.b_Hi a.narrow a.most a.size 0 0)| .inr f=>(some ((),.inr ((),()))))) (z6 (qn v3 false) fun d=>match d.2 with| .inl g=>(vq2 n (a.b_Lo.tmod a.size) a.a_Lo a.a_Hi a.b_Lo a.b_Hi a.narrow a.most a.size 0 0)| .inr h=>(some ((),.inr ((),()))))):=by kernel_rfl
def ki4 (n c a b d e f g h i j):vq2 (n+1) c a b d e f g h i j=if c<0 then none else (if c<0 then none else (some ((),.inl ((⟨yd6 .u64 a c,yd6 .u64 b c⟩:Span),())))):=by kernel_rfl
def uq5:=okP kp4 func189
noncomputable def ko5:KF:=⟨cF vj8 eN,0,[],[([I,I],qt [1,2,3,4])],f190,z0,[.c4],[.b1]⟩
noncomputable def qax (n:Nat) (a:Work):Option (Span):=tF ko5 n a
noncomputable def jl2 (n:Nat) (j k a b c d:Int) (e:Bool) (f g h i:Int):Option (Span):=uF ko5 n [I,I] ⟨[(1,.ptr 0 0),(2,.ptr 1 0),(3,yk4 j),(4,yk4 k)],[.k5 a b c d e f g,.k3 h i]⟩
def un1 (n a):qax n a=z6 (qs v3 (⟨a.b_Lo,a.b_Hi⟩:Span)) fun b=>z9 b (if a.size=0 then none else (if a.size=0 then none else (jl2 n (a.b_Hi.tmod a.size) (a.b_Lo.tmod a.size) a.a_Lo a.a_Hi a.b_Lo a.b_Hi a.narrow a.most a.size 0 0))) (z9 (decide (a.b_Hi>=a.size)) (some (⟨0,a.a_Hi⟩:Span)) (jl2 n a.b_Hi a.b_Lo a.a_Lo a.a_Hi a.b_Lo a.b_Hi a.narrow a.most a.size 0 0)):=by kernel_rfl
def qf4 (n j k a b c d e f g h i):jl2 (n+1) j k a b c d e f g h i=if j<0 then none else (if k<0 then none else (some (⟨zb1 .u64 a j,zb1 .u64 b k⟩:Span))):=by kernel_rfl
def un2:=okF ko5 func190
noncomputable def qw_k:KF:=⟨eN,0,[],[],f197,z0,[.c4,.a2],[.a9]⟩
noncomputable def qw (n:Nat) (a:Work) (b:Int):Option (Bool):=tF qw_k n (a,b)
def zaq6 (n a b):qw n a b=if IntKind.u64.wrap (a.size-1)<0 then none else (some ((w9 .u64 (zb1 .u64 b (IntKind.u64.wrap (a.size-1))) 1)==1)):=by kernel_rfl
def ue1:=okF qw_k func197
noncomputable def wt1:KF:=⟨cF ue1 eN,0,[],[],f196,z0,[.c4,.b1],[.a9]⟩
noncomputable def qav (n:Nat) (a:Work) (b:Span):Option (Bool):=tF wt1 n (a,b)
def um9 (n a b):qav n a b=z6 (qw v3 a b.Lo) fun c=>z6 (qw v3 a b.Hi) fun d=>some (!(c==d)):=by kernel_rfl
def gl7:=okF wt1 func196
noncomputable def wy1:KG:=⟨eN,2,[],[],f144,n0,[.c2,.c2],[.c3,.c3],[.a8]⟩
noncomputable def qev (n:Nat) (a b:Int):Option u6:=tG wy1 n ((a,()),(b,()),())
def gr6 (n a b):qev n a b=some (((a,()),(b,()),()),(IntKind.u32.wrap (a+b),())):=by kernel_rfl
def zab6:=okG wy1 func144
noncomputable def wz0:KG:=⟨eN,2,[],[],f145,n0,[.c2,.c2],[.c3,.c3],[.a8]⟩
noncomputable def qfe (n:Nat) (a b:Int):Option u6:=tG wz0 n ((a,()),(b,()),())
def gs5 (n a b):qfe n a b=some (((a,()),(b,()),()),(IntKind.u32.wrap (a-b),())):=by kernel_rfl
def zac5:=okG wz0 func145
noncomputable def wz1:KG:=⟨eN,2,[],[],f146,n0,[.c2,.c2],[.c3,.c3],[.a8]⟩
noncomputable def qff (n:Nat) (a b:Int):Option u6:=tG wz1 n ((a,()),(b,()),())
def gs6 (n a b):qff n a b=some (((a,()),(b,()),()),(IntKind.u32.wrap (a*b),())):=by kernel_rfl
def zac6:=okG wz1 func146
noncomputable def wz2:KG:=⟨eN,2,[],[],f147,n0,[.c2,.c2],[.c3,.c3],[.a8]⟩
noncomputable def qfg (n:Nat) (a b:Int):Option u6:=tG wz2 n ((a,()),(b,()),())
def gs7 (n b a):qfg n b a=if a=0 then none else (some (((b,()),(a,()),()),(IntKind.u32.wrap (b.tdiv a),()))):=by kernel_rfl
def zac7:=okG wz2 func147
noncomputable def wz3:KG:=⟨eN,2,[],[],f148,n0,[.c2,.c2],[.c3,.c3],[.a8]⟩
noncomputable def qfh (n:Nat) (a b:Int):Option u6:=tG wz3 n ((a,()),(b,()),())
def gs8 (n b a):qfh n b a=if a=0 then none else (some (((b,()),(a,()),()),(b.tmod a,()))):=by kernel_rfl
def zac8:=okG wz3 func148
noncomputable def wz4:KG:=⟨eN,2,[],[],f149,n0,[.c2,.c2],[.c3,.c3],[.a8]⟩
noncomputable def qfi (n:Nat) (a b:Int):Option u6:=tG wz4 n ((a,()),(b,()),())
def gs9 (n a b):qfi n a b=some (((a,()),(b,()),()),(w9 .u32 a b,())):=by kernel_rfl
def zac9:=okG wz4 func149
noncomputable def wz5:KG:=⟨eN,2,[],[],f150,n0,[.c2,.c2],[.c3,.c3],[.a8]⟩
noncomputable def qfj (n:Nat) (a b:Int):Option u6:=tG wz5 n ((a,()),(b,()),())
def gt0 (n a b):qfj n a b=some (((a,()),(b,()),()),(bOr .u32 a b,())):=by kernel_rfl
def zad0:=okG wz5 func150
noncomputable def wz6:KG:=⟨eN,2,[],[],f151,n0,[.c2,.c2],[.c3,.c3],[.a8]⟩
noncomputable def qfk (n:Nat) (a b:Int):Option u6:=tG wz6 n ((a,()),(b,()),())
def gt1 (n a b):qfk n a b=some (((a,()),(b,()),()),(jb3 .u32 a b,())):=by kernel_rfl
def zad1:=okG wz6 func151
noncomputable def wz7:KG:=⟨eN,3,[],[],f152,n0,[.c2,.c2,.c2],[.c3,.c3,.c3],[.a8]⟩
noncomputable def qfl (n:Nat) (a b c:Int):Option u15:=tG wz7 n ((a,()),(b,()),(c,()),())
def gt2 (n c b a):qfl n c b a=if a=0 then none else (if b.tmod a<0 then none else (some (((c,()),(b,()),(a,()),()),(yd6 .u32 c (b.tmod a),())))):=by kernel_rfl
def zad2:=okG wz7 func152
noncomputable def wx2:KG:=⟨eN,3,[],[],f153,n0,[.c2,.c2,.c2],[.c3,.c3,.c3],[.a8]⟩
noncomputable def qem (n:Nat) (a b c:Int):Option u15:=tG wx2 n ((a,()),(b,()),(c,()),())
def gq7 (n c b a):qem n c b a=if a=0 then none else (if b.tmod a<0 then none else (some (((c,()),(b,()),(a,()),()),(zb1 .u32 c (b.tmod a),())))):=by kernel_rfl
def zaa7:=okG wx2 func153
noncomputable def wx3:KG:=⟨eN,3,[],[],f154,n0,[.c2,.c2,.c2],[.c3,.c3,.c3],[.a8]⟩
noncomputable def qen (n:Nat) (a b c:Int):Option u15:=tG wx3 n ((a,()),(b,()),(c,()),())
def gq8 (n c b a):qen n c b a=if a=0 then none else (if b.tmod a<0 then none else (some (((c,()),(b,()),(a,()),()),(IntKind.u32.wrap (zb1 .i32 (IntKind.i32.wrap c) (b.tmod a)),())))):=by kernel_rfl
def zaa8:=okG wx3 func154
noncomputable def wx4:KG:=⟨eN,1,[],[],f155,n0,[.c2],[.c3],[.a8]⟩
noncomputable def qeo (n:Nat) (a:Int):Option (u20×u1):=tG wx4 n ((a,()),())
def gq9 (n a):qeo n a=some (((a,()),()),(a,())):=by kernel_rfl
def zaa9:=okG wx4 func155
noncomputable def wx5:KG:=⟨eN,1,[],[],f156,n0,[.c2],[.c3],[.a8]⟩
noncomputable def qep (n:Nat) (a:Int):Option (u20×u1):=tG wx5 n ((a,()),())
def gr0 (n a):qep n a=some (((a,()),()),(IntKind.u32.wrap (0-a),())):=by kernel_rfl
def zab0:=okG wx5 func156
noncomputable def qb_k:KF:=⟨cG zab6 (cG zac5 (cG zac6 (cG zac7 (cG zac8 (cG zac9 (cG zad0 (cG zad1 (cG zad2 (cG zaa7 (cG zaa8 (cG zaa9 (cG zab0 eN)))))))))))),0,[],[([O,I],qt [0,5,6,7,21])],f110,z0,[.b5,.a8,.a8,.a8],[.a8,.a1]⟩
noncomputable def qb (n:Nat) (a b c d:Int):Option (Int×Int):=tF qb_k n (a,b,c,d)
noncomputable def qp5 (n:Nat) (e:Int) (d:Bool) (a b c:Int):Option (Int×Int):=uF qb_k n [O,I] ⟨[(0,cu8 e),(5,.ptr 0 0),(6,.ptr 1 0),(7,.ptr 2 0),(21,cb d)],[.blk 141 [cu32 a],.blk 141 [cu32 b],.blk 141 [cu32 c]]⟩
def wt3 (n a c d b):qb n a c d b=z9 (a==4) (qp5 n a (b==0) c d b) (z9 (a==5) (qp5 n a (b==0) c d b) (qp5 n a false c d b)):=by kernel_rfl
def qz7 (n c e d a b):qp5 (n+1) c e d a b=z9 e (some (0,113)) (if c=1 then (z6 (qev v3 a b) fun j=>some (j.2.1,0)) else (if c=2 then (z6 (qfe v3 a b) fun k=>some (k.2.1,0)) else (if c=3 then (z6 (qff v3 a b) fun l=>some (l.2.1,0)) else (if c=4 then (z6 (qfg v3 a b) fun m=>some (m.2.1,0)) else (if c=5 then (z6 (qfh v3 a b) fun o=>some (o.2.1,0)) else (if c=6 then (z6 (qfi v3 a b) fun p=>some (p.2.1,0)) else (if c=7 then (z6 (qfj v3 a b) fun q=>some (q.2.1,0)) else (if c=8 then (z6 (qfk v3 a b) fun r=>some (r.2.1,0)) else (if c=9 then (z6 (qfl v3 a b d) fun s=>some (s.2.1,0)) else (if c=10 then (z6 (qem v3 a b d) fun f=>some (f.2.1,0)) else (if c=11 then (z6 (qen v3 a b d) fun g=>some (g.2.1,0)) else (if c=12 then (z6 (qeo v3 b) fun h=>some (h.2.1,0)) else (if c=13 then (z6 (qep v3 a) fun i=>some (i.2.1,0)) else (some (0,2))))))))))))))):=by kernel_rfl
def zan3:=okF qb_k func110
noncomputable def wx6:KG:=⟨eN,2,[],[],f157,n0,[.b6,.b6],[.b9,.b9],[.a2]⟩
noncomputable def qeq (n:Nat) (a b:Int):Option u6:=tG wx6 n ((a,()),(b,()),())
def gr1 (n a b):qeq n a b=some (((a,()),(b,()),()),(IntKind.u64.wrap (a+b),())):=by kernel_rfl
def zab1:=okG wx6 func157
noncomputable def wx7:KG:=⟨eN,2,[],[],f158,n0,[.b6,.b6],[.b9,.b9],[.a2]⟩
noncomputable def qer (n:Nat) (a b:Int):Option u6:=tG wx7 n ((a,()),(b,()),())
def gr2 (n a b):qer n a b=some (((a,()),(b,()),()),(IntKind.u64.wrap (a-b),())):=by kernel_rfl
def zab2:=okG wx7 func158
noncomputable def wx8:KG:=⟨eN,2,[],[],f159,n0,[.b6,.b6],[.b9,.b9],[.a2]⟩
noncomputable def qes (n:Nat) (a b:Int):Option u6:=tG wx8 n ((a,()),(b,()),())
def gr3 (n a b):qes n a b=some (((a,()),(b,()),()),(IntKind.u64.wrap (a*b),())):=by kernel_rfl
def zab3:=okG wx8 func159
noncomputable def wx9:KG:=⟨eN,2,[],[],f160,n0,[.b6,.b6],[.b9,.b9],[.a2]⟩
noncomputable def qet (n:Nat) (a b:Int):Option u6:=tG wx9 n ((a,()),(b,()),())
def gr4 (n b a):qet n b a=if a=0 then none else (some (((b,()),(a,()),()),(IntKind.u64.wrap (b.tdiv a),()))):=by kernel_rfl
def zab4:=okG wx9 func160
noncomputable def wy0:KG:=⟨eN,2,[],[],f161,n0,[.b6,.b6],[.b9,.b9],[.a2]⟩
noncomputable def qeu (n:Nat) (a b:Int):Option u6:=tG wy0 n ((a,()),(b,()),())
def gr5 (n b a):qeu n b a=if a=0 then none else (some (((b,()),(a,()),()),(b.tmod a,()))):=by kernel_rfl
def zab5:=okG wy0 func161
noncomputable def wy2:KG:=⟨eN,2,[],[],f162,n0,[.b6,.b6],[.b9,.b9],[.a2]⟩
noncomputable def qew (n:Nat) (a b:Int):Option u6:=tG wy2 n ((a,()),(b,()),())
def gr7 (n a b):qew n a b=some (((a,()),(b,()),()),(w9 .u64 a b,())):=by kernel_rfl
def zab7:=okG wy2 func162
noncomputable def wy3:KG:=⟨eN,2,[],[],f163,n0,[.b6,.b6],[.b9,.b9],[.a2]⟩
noncomputable def qex (n:Nat) (a b:Int):Option u6:=tG wy3 n ((a,()),(b,()),())
def gr8 (n a b):qex n a b=some (((a,()),(b,()),()),(bOr .u64 a b,())):=by kernel_rfl
def zab8:=okG wy3 func163
noncomputable def wy4:KG:=⟨eN,2,[],[],f164,n0,[.b6,.b6],[.b9,.b9],[.a2]⟩
noncomputable def qey (n:Nat) (a b:Int):Option u6:=tG wy4 n ((a,()),(b,()),())
def gr9 (n a b):qey n a b=some (((a,()),(b,()),()),(jb3 .u64 a b,())):=by kernel_rfl
def zab9:=okG wy4 func164
noncomputable def wy5:KG:=⟨eN,3,[],[],f165,n0,[.b6,.b6,.b6],[.b9,.b9,.b9],[.a2]⟩
noncomputable def qez (n:Nat) (a b c:Int):Option u15:=tG wy5 n ((a,()),(b,()),(c,()),())
def gs0 (n c b a):qez n c b a=if a=0 then none else (if b.tmod a<0 then none else (some (((c,()),(b,()),(a,()),()),(yd6 .u64 c (b.tmod a),())))):=by kernel_rfl
def zac0:=okG wy5 func165
noncomputable def wy6:KG:=⟨eN,3,[],[],f166,n0,[.b6,.b6,.b6],[.b9,.b9,.b9],[.a2]⟩
noncomputable def qfa (n:Nat) (a b c:Int):Option u15:=tG wy6 n ((a,()),(b,()),(c,()),())
def gs1 (n c b a):qfa n c b a=if a=0 then none else (if b.tmod a<0 then none else (some (((c,()),(b,()),(a,()),()),(zb1 .u64 c (b.tmod a),())))):=by kernel_rfl
def zac1:=okG wy6 func166
noncomputable def wy7:KG:=⟨eN,3,[],[],f167,n0,[.b6,.b6,.b6],[.b9,.b9,.b9],[.a2]⟩
noncomputable def qfb (n:Nat) (a b c:Int):Option u15:=tG wy7 n ((a,()),(b,()),(c,()),())
def gs2 (n c b a):qfb n c b a=if a=0 then none else (if b.tmod a<0 then none else (some (((c,()),(b,()),(a,()),()),(IntKind.u64.wrap (zb1 .i64 (IntKind.i64.wrap c) (b.tmod a)),())))):=by kernel_rfl
def zac2:=okG wy7 func167
noncomputable def wy8:KG:=⟨eN,1,[],[],f168,n0,[.b6],[.b9],[.a2]⟩
noncomputable def qfc (n:Nat) (a:Int):Option (u20×u1):=tG wy8 n ((a,()),())
def gs3 (n a):qfc n a=some (((a,()),()),(a,())):=by kernel_rfl
def zac3:=okG wy8 func168
noncomputable def wy9:KG:=⟨eN,1,[],[],f169,n0,[.b6],[.b9],[.a2]⟩
noncomputable def qfd (n:Nat) (a:Int):Option (u20×u1):=tG wy9 n ((a,()),())
def gs4 (n a):qfd n a=some (((a,()),()),(IntKind.u64.wrap (0-a),())):=by kernel_rfl
def zac4:=okG wy9 func169
noncomputable def gy7:KF:=⟨cG zab1 (cG zab2 (cG zab3 (cG zab4 (cG zab5 (cG zab7 (cG zab8 (cG zab9 (cG zac0 (cG zac1 (cG zac2 (cG zac3 (cG zac4 eN)))))))))))),0,[],[([O,I],qt [0,5,6,7,21])],f111,z0,[.b5,.a2,.a2,.a2],[.a2,.a1]⟩
noncomputable def qbc (n:Nat) (a b c d:Int):Option (Int×Int):=tF gy7 n (a,b,c,d)
noncomputable def jl3 (n:Nat) (e:Int) (d:Bool) (a b c:Int):Option (Int×Int):=uF gy7 n [O,I] ⟨[(0,cu8 e),(5,.ptr 0 0),(6,.ptr 1 0),(7,.ptr 2 0),(21,cb d)],[.blk 49 [yk4 a],.blk 49 [yk4 b],.blk 49 [yk4 c]]⟩
def gm3 (n a c d b):qbc n a c d b=z9 (a==4) (jl3 n a (b==0) c d b) (z9 (a==5) (jl3 n a (b==0) c d b) (jl3 n a false c d b)):=by kernel_rfl
def qf7 (n c e d a b):jl3 (n+1) c e d a b=z9 e (some (0,113)) (if c=1 then (z6 (qeq v3 a b) fun j=>some (j.2.1,0)) else (if c=2 then (z6 (qer v3 a b) fun k=>some (k.2.1,0)) else (if c=3 then (z6 (qes v3 a b) fun l=>some (l.2.1,0)) else (if c=4 then (z6 (qet v3 a b) fun m=>some (m.2.1,0)) else (if c=5 then (z6 (qeu v3 a b) fun o=>some (o.2.1,0)) else (if c=6 then (z6 (qew v3 a b) fun p=>some (p.2.1,0)) else (if c=7 then (z6 (qex v3 a b) fun q=>some (q.2.1,0)) else (if c=8 then (z6 (qey v3 a b) fun r=>some (r.2.1,0)) else (if c=9 then (z6 (qez v3 a b d) fun s=>some (s.2.1,0)) else (if c=10 then (z6 (qfa v3 a b d) fun f=>some (f.2.1,0)) else (if c=11 then (z6 (qfb v3 a b d) fun g=>some (g.2.1,0)) else (if c=12 then (z6 (qfc v3 b) fun h=>some (h.2.1,0)) else (if c=13 then (z6 (qfd v3 a) fun i=>some (i.2.1,0)) else (some (0,2))))))))))))))):=by kernel_rfl
def uo0:=okF gy7 func111
noncomputable def wu1:KF:=⟨cF zan3 (cF uo0 eN),0,[],[],f85,z0,[.b5,.a9,.a2,.a2],[.a2,.a1]⟩
noncomputable def qcb (n:Nat) (a:Int) (b:Bool) (c d:Int):Option (Int×Int):=tF wu1 n (a,b,c,d)
def vq5 (n a d b c):qcb n a d b c=z9 d (z6 (qb v3 a 32 (IntKind.u32.wrap b) (IntKind.u32.wrap c)) fun e=>some (IntKind.u64.wrap e.1,e.2)) (z6 (qbc v3 a 64 b c) fun f=>some (f.1,f.2)):=by kernel_rfl
def vq6:=okF wu1 func85
noncomputable def kp3:KP:=⟨⟨cF vj8 (cF gl7 (cP ja3 (cF vq6 eN))),0,[],[([I],qt [1,2])],f191,n0,[.c4],[],[.b1]⟩,.ifc 163 (.agg [])⟩
abbrev gn7:=Option u11
noncomputable def qbr (n:Nat) (a:Work):gn7:=tP kp3 n (a,())
noncomputable def vq1 (n:Nat) (a b c d:Int) (e:Bool) (f g h i:Int):gn7:=uP kp3 n [I] ⟨[(1,.ptr 0 0),(2,.ptr 1 0)],[.k5 a b c d e f g,.k3 h i]⟩
def uq2 (n a):qbr n a=z6 (qs v3 (⟨a.b_Lo,a.b_Hi⟩:Span)) fun b=>z9 b (z6 (qav v3 a (⟨a.a_Lo,a.a_Hi⟩:Span)) fun c=>z6 (qn v3 (!c)) fun d=>match d.2 with| .inl f=>(vq1 n a.a_Lo a.a_Hi a.b_Lo a.b_Hi a.narrow a.most a.size 0 0)| .inr g=>(some ((),.inr ((),())))) (z6 (qn v3 false) fun e=>match e.2 with| .inl h=>(vq1 n a.a_Lo a.a_Hi a.b_Lo a.b_Hi a.narrow a.most a.size 0 0)| .inr i=>(some ((),.inr ((),())))):=by kernel_rfl
def ki3 (n c d a e b f g h i):vq1 (n+1) c d a e b f g h i=z6 (qcb v3 11 b c a) fun j=>z6 (qcb v3 11 b d a) fun k=>some ((),.inl ((⟨j.1,k.1⟩:Span),())):=by kernel_rfl
def uq3:=okP kp3 func191
noncomputable def wa2:KF:=⟨eN,0,[],[],f192,z0,[.c4],[.b1]⟩
noncomputable def qcv (n:Nat) (a:Work):Option (Span):=tF wa2 n a
def uu0 (n a):qcv n a=some (⟨a.b_Lo,a.b_Hi⟩:Span):=by kernel_rfl
def uu1:=okF wa2 func192
noncomputable def wc3:KP:=⟨⟨cP ja3 (cF vq4 eN),0,[],[],f193,n0,[.c4],[],[.b1]⟩,.ifc 163 (.agg [])⟩
noncomputable def qek (n:Nat) (a:Work):Option u11:=tP wc3 n (a,())
def zaa3 (n a):qek n a=z9 (a.a_Hi==0) (some ((),.inl ((⟨a.a_Lo,a.a_Hi⟩:Span),()))) (z6 (qn v3 (decide (a.a_Lo>0))) fun b=>match b.2 with| .inl d=>(z6 (qca v3 a (IntKind.u64.wrap (0-a.a_Hi)) (IntKind.u64.wrap (0-a.a_Lo))) fun c=>some ((),.inl (c,())))| .inr e=>(some ((),.inr ((),())))):=by kernel_rfl
def zaa4:=okP wc3 func193
noncomputable def qk_C:Ctx TT:=⟨yk9,[(137,(sG gy8).toCall (za8 TT)),(106,(sF ud7).toCall),(136,(sF ud6).toCall),(108,(sF ko3).toCall),(181,(sP kp1).toCall (za8 TT)),(182,(sP kp5).toCall (za8 TT)),(183,(sP kp2).toCall (za8 TT)),(184,(sF wa0).toCall),(185,(sF wa1).toCall),(186,(sF gz6).toCall),(187,(sF gz7).toCall),(188,(sF gz8).toCall),(189,(sP kp4).toCall (za8 TT)),(190,(sF ko5).toCall),(191,(sP kp3).toCall (za8 TT)),(192,(sF wa2).toCall),(193,(sP wc3).toCall (za8 TT))],0,[],zo5,yk6⟩
def zai2:zb4 TT prog qk_C.E:=zn0 (v9 uo4 (q7 137)) (zn0 (zd2 kq3) (zn0 (zd2 kq2) (zn0 (zd2 gl1) (zn0 (za9 up9 (q7 181)) (zn0 (za9 uq7 (q7 182)) (zn0 (za9 uq1 (q7 183)) (zn0 (zd2 ut7) (zn0 (zd2 ut9) (zn0 (zd2 us4) (zn0 (zd2 us6) (zn0 (zd2 us8) (zn0 (za9 uq5 (q7 189)) (zn0 (zd2 un2) (zn0 (za9 uq3 (q7 191)) (zn0 (zd2 uu1) (zn0 (za9 zaa4 (q7 193)) (zh9)))))))))))))))))
def vx2:List (Pos×Cut):= []
noncomputable def qk_D:DefP TT:=⟨3,31,[31,5,6,7,8,9],2,138,[(0,0),(1,0)],vv9,vw1⟩
noncomputable def qk (n:Nat) (a:Int) (b:Bool) (c d:Span):Option (Unit×(Span×Unit)):=vl6 prog qk_C vx2 f105 (w5 f105) ⟨[],[],[],[],[]⟩ [.b5,.a9,.b1,.b1] [] [.b1] qk_D n (a,b,c,d,())
def yj5 (n d a b c):qk n d a b c=z6 (qbf v3) fun y1=>if d=1 then (z6 (qp v3 b) fun y2=>z9 (!y2) (z6 (qo v3 a) fun y3=>some ((),(y3,()))) (z6 (qp v3 c) fun y4=>z9 (!y4) (z6 (qo v3 a) fun y5=>some ((),(y5,()))) (z6 (qaq v3 a b c) fun y6=>z6 (qbo v3 y6) fun y7=>match y7.2 with| .inl z7=>(z6 (qag a z7.1.Lo z7.1.Hi) fun y8=>some ((),((⟨y8.2.1.1,y8.2.1.2.1⟩:Span),())))| .inr e7=>(z6 (qbe a 0 0) fun y9=>some ((),((⟨y9.2.1.1,y9.2.1.2.1⟩:Span),())))))) else (if d=2 then (z6 (qp v3 b) fun J=>z9 (!J) (z6 (qo v3 a) fun K=>some ((),(K,()))) (z6 (qp v3 c) fun L=>z9 (!L) (z6 (qo v3 a) fun M=>some ((),(M,()))) (z6 (qaq v3 a b c) fun N=>z6 (qbt v3 N) fun P=>match P.2 with| .inl e=>(z6 (qag a e.1.Lo e.1.Hi) fun f=>some ((),((⟨f.2.1.1,f.2.1.2.1⟩:Span),())))| .inr e15=>(z6 (qbe a 0 0) fun g=>some ((),((⟨g.2.1.1,g.2.1.2.1⟩:Span),())))))) else (if d=3 then (z6 (qp v3 b) fun Q=>z9 (!Q) (z6 (qo v3 a) fun R=>some ((),(R,()))) (z6 (qp v3 c) fun S=>z9 (!S) (z6 (qo v3 a) fun T=>some ((),(T,()))) (z6 (qaq v3 a b c) fun U=>z6 (qbp v3 U) fun V=>match V.2 with| .inl h=>(z6 (qag a h.1.Lo h.1.Hi) fun i=>some ((),((⟨i.2.1.1,i.2.1.2.1⟩:Span),())))| .inr e23=>(z6 (qbe a 0 0) fun j=>some ((),((⟨j.2.1.1,j.2.1.2.1⟩:Span),())))))) else (if d=4 then (z6 (qp v3 b) fun W=>z9 (!W) (z6 (qo v3 a) fun X=>some ((),(X,()))) (z6 (qp v3 c) fun Y=>z9 (!Y) (z6 (qo v3 a) fun Z=>some ((),(Z,()))) (z6 (qaq v3 a b c) fun y30=>z6 (qct v3 y30) fun k=>z6 (qag a k.Lo k.Hi) fun l=>some ((),((⟨l.2.1.1,l.2.1.2.1⟩:Span),()))))) else (if d=5 then (z6 (qp v3 b) fun y33=>z9 (!y33) (z6 (qo v3 a) fun y34=>some ((),(y34,()))) (z6 (qp v3 c) fun y35=>z9 (!y35) (z6 (qo v3 a) fun y36=>some ((),(y36,()))) (z6 (qaq v3 a b c) fun y37=>z6 (qcu v3 y37) fun m=>z6 (qag a m.Lo m.Hi) fun o=>some ((),((⟨o.2.1.1,o.2.1.2.1⟩:Span),()))))) else (if d=6 then (z6 (qp v3 b) fun y40=>z9 (!y40) (z6 (qo v3 a) fun y41=>some ((),(y41,()))) (z6 (qp v3 c) fun y42=>z9 (!y42) (z6 (qo v3 a) fun y43=>some ((),(y43,()))) (z6 (qaq v3 a b c) fun y44=>z6 (qcj v3 y44) fun p=>z6 (qag a p.Lo p.Hi) fun q=>some ((),((⟨q.2.1.1,q.2.1.2.1⟩:Span),()))))) else (if d=7 then (z6 (qp v3 b) fun y47=>z9 (!y47) (z6 (qo v3 a) fun y48=>some ((),(y48,()))) (z6 (qp v3 c) fun y49=>z9 (!y49) (z6 (qo v3 a) fun y50=>some ((),(y50,()))) (z6 (qaq v3 a b c) fun y51=>z6 (qck v3 y51) fun r=>z6 (qag a r.Lo r.Hi) fun s=>some ((),((⟨s.2.1.1,s.2.1.2.1⟩:Span),()))))) else (if d=8 then (z6 (qp v3 b) fun y54=>z9 (!y54) (z6 (qo v3 a) fun y55=>some ((),(y55,()))) (z6 (qp v3 c) fun y56=>z9 (!y56) (z6 (qo v3 a) fun y57=>some ((),(y57,()))) (z6 (qaq v3 a b c) fun y58=>z6 (qcl v3 y58) fun t=>z6 (qag a t.Lo t.Hi) fun u=>some ((),((⟨u.2.1.1,u.2.1.2.1⟩:Span),()))))) else (if d=9 then (z6 (qp v3 b) fun y61=>z9 (!y61) (z6 (qo v3 a) fun y62=>some ((),(y62,()))) (z6 (qp v3 c) fun y63=>z9 (!y63) (z6 (qo v3 a) fun y64=>some ((),(y64,()))) (z6 (qaq v3 a b c) fun y65=>z6 (qbs v3 y65) fun y66=>match y66.2 with| .inl v=>(z6 (qag a v.1.Lo v.1.Hi) fun w=>some ((),((⟨w.2.1.1,w.2.1.2.1⟩:Span),())))| .inr e66=>(z6 (qbe a 0 0) fun x=>some ((),((⟨x.2.1.1,x.2.1.2.1⟩:Span),())))))) else (if d=10 then (z6 (qp v3 b) fun y69=>z9 (!y69) (z6 (qo v3 a) fun y70=>some ((),(y70,()))) (z6 (qp v3 c) fun y71=>z9 (!y71) (z6 (qo v3 a) fun y72=>some ((),(y72,()))) (z6 (qaq v3 a b c) fun y73=>z6 (qax v3 y73) fun y=>z6 (qag a y.Lo y.Hi) fun z=>some ((),((⟨z.2.1.1,z.2.1.2.1⟩:Span),()))))) else (if d=11 then (z6 (qp v3 b) fun y76=>z9 (!y76) (z6 (qo v3 a) fun y77=>some ((),(y77,()))) (z6 (qp v3 c) fun y78=>z9 (!y78) (z6 (qo v3 a) fun y79=>some ((),(y79,()))) (z6 (qaq v3 a b c) fun y80=>z6 (qbr v3 y80) fun y81=>match y81.2 with| .inl A=>(z6 (qag a A.1.Lo A.1.Hi) fun B=>some ((),((⟨B.2.1.1,B.2.1.2.1⟩:Span),())))| .inr e81=>(z6 (qbe a 0 0) fun C=>some ((),((⟨C.2.1.1,C.2.1.2.1⟩:Span),())))))) else (if d=12 then (z6 (qp v3 b) fun y84=>z9 (!y84) (z6 (qo v3 a) fun y85=>some ((),(y85,()))) (z6 (qp v3 c) fun y86=>z9 (!y86) (z6 (qo v3 a) fun y87=>some ((),(y87,()))) (z6 (qaq v3 a b c) fun y88=>z6 (qcv v3 y88) fun D=>z6 (qag a D.Lo D.Hi) fun E=>some ((),((⟨E.2.1.1,E.2.1.2.1⟩:Span),()))))) else (if d=13 then (z6 (qp v3 b) fun y91=>z9 (!y91) (z6 (qo v3 a) fun y92=>some ((),(y92,()))) (z6 (qp v3 c) fun y93=>z9 (!y93) (z6 (qo v3 a) fun y94=>some ((),(y94,()))) (z6 (qaq v3 a b c) fun y95=>z6 (qek v3 y95) fun y96=>match y96.2 with| .inl F=>(z6 (qag a F.1.Lo F.1.Hi) fun G=>some ((),((⟨G.2.1.1,G.2.1.2.1⟩:Span),())))| .inr e96=>(z6 (qbe a 0 0) fun H=>some ((),((⟨H.2.1.1,H.2.1.2.1⟩:Span),())))))) else (z6 (qo v3 a) fun y99=>some ((),(y99,()))))))))))))))):=by kernel_rfl
noncomputable def zap2:GSpec TT:=⟨[.b5,.a9,.b1,.b1],[],[.b1],fun x=>qk v3 x.1 x.2.1 x.2.2.1 x.2.2.2.1⟩
def zap1:GOk TT prog 105 zap2:=ye2 (C:=qk_C) (cuts:=vx2) (D:=qk_D) (by kernel_rfl) zai2 func105 (show f105.body=some (w5 f105) by kernel_rfl) (by kernel_rfl) (by kernel_rfl) (by kernel_rfl) wj3 wj9 fun x y h=>⟨v3,h⟩
noncomputable def ql4:KF:=⟨cF gl3 (cF uc9 (cF us0 (cG zap1 eN))),0,[(20,1)],[([I],qt [0,1,6,7,8]),([O,O,I],qt [0,1,6,7,8,15]),([I,I,O,O,I],qt [0,1,6,7,8,33]),([I,I,I,I,O,O,I],qt [0,1,6,7,8,51]),([I,I,I,I],qt [0,1,6,8,10,11,12,13,14]),([O,O,I,I,I,I,I],qt [0,1,6,8,10,11,12,13,14,90]),([I,I,O,O,I,I,I,I,I],qt [0,1,6,8,10,12,14,109]),([I,I,I,I,O,O,I,I,I,I,I],qt [0,6,8,12,120]),([O,I,I,I,I,O,O,I,I,I,I,I],qt [0,6,8,12,14,120])],f78,z0,[.b5,.a9,.e1,.e1],[.e1,.a1]⟩
noncomputable def qc (n:Nat) (a:Int) (b:Bool) (c d:Known):Option u17:=tF ql4 n (a,b,c,d)
noncomputable def vj3 (n:Nat) (k:Int) (l j:Bool) (a b c d e f g h i:Int):Option u17:=uF ql4 n [O,O,I] ⟨[(0,cu8 k),(1,cb l),(6,.ptr 0 0),(7,.ptr 1 0),(8,.ptr 2 0),(15,cb j)],[.k2 a b c,.k2 d e f,.k2 g h i]⟩
noncomputable def qp8 (n:Nat) (k:Int) (l j:Bool) (a b c d e f g h i:Int):Option u17:=uF ql4 n [I,I,O,O,I] ⟨[(0,cu8 k),(1,cb l),(6,.ptr 0 0),(7,.ptr 1 0),(8,.ptr 2 0),(33,cb j)],[.k2 a b c,.k2 d e f,.k2 g h i]⟩
noncomputable def gz2 (n:Nat) (k:Int) (l j:Bool) (a b c d e f g h i:Int):Option u17:=uF ql4 n [I,I,I,I,O,O,I] ⟨[(0,cu8 k),(1,cb l),(6,.ptr 0 0),(7,.ptr 1 0),(8,.ptr 2 0),(51,cb j)],[.k2 a b c,.k2 d e f,.k2 g h i]⟩
noncomputable def vj2 (n:Nat) (j:Int) (k:Bool) (a b c d e f g h i:Int):Option u17:=uF ql4 n [I] ⟨[(0,cu8 j),(1,cb k),(6,.ptr 0 0),(7,.ptr 1 0),(8,.ptr 2 0)],[.k2 a b c,.k2 d e f,.k2 g h i]⟩
noncomputable def qp9 (n:Nat) (o:Int) (p k l m:Bool) (a b c d e f g h i j:Int):Option u17:=uF ql4 n [I,I,I,I] ⟨[(0,cu8 o),(1,cb p),(6,.ptr 0 0),(8,.ptr 1 0),(10,.ptr 2 0),(11,cb k),(12,.ptr 3 0),(13,cb l),(14,cb m)],[.k2 a b c,.k2 d e f,.k3 g h,.k3 i j]⟩
noncomputable def qq0 (n:Nat) (p:Int) (q k l m o:Bool) (a b c d e f g h i j:Int):Option u17:=uF ql4 n [O,O,I,I,I,I,I] ⟨[(0,cu8 p),(1,cb q),(6,.ptr 0 0),(8,.ptr 1 0),(10,.ptr 2 0),(11,cb k),(12,.ptr 3 0),(13,cb l),(14,cb m),(90,cb o)],[.k2 a b c,.k2 d e f,.k3 g h,.k3 i j]⟩
noncomputable def gz3 (n:Nat) (m:Int) (o l a:Bool) (b c d e f g h i j k:Int):Option u17:=uF ql4 n [I,I,O,O,I,I,I,I,I] ⟨[(0,cu8 m),(1,cb o),(6,.ptr 0 0),(8,.ptr 1 0),(10,.ptr 2 0),(12,.ptr 3 0),(14,cb l),(109,cb a)],[.k2 b c d,.k2 e f g,.k3 h i,.k3 j k]⟩
noncomputable def gz4 (n:Nat) (k:Int) (j a:Bool) (b c d e f g h i:Int):Option u17:=uF ql4 n [O,I,I,I,I,O,O,I,I,I,I,I] ⟨[(0,cu8 k),(6,.ptr 0 0),(8,.ptr 1 0),(12,.ptr 2 0),(14,cb j),(120,cb a)],[.k2 b c d,.k2 e f g,.k3 h i]⟩
noncomputable def vj4 (n:Nat) (j:Int) (a:Bool) (b c d e f g h i:Int):Option u17:=uF ql4 n [I,I,I,I,O,O,I,I,I,I,I] ⟨[(0,cu8 j),(6,.ptr 0 0),(8,.ptr 1 0),(12,.ptr 2 0),(120,cb a)],[.k2 b c d,.k2 e f g,.k3 h i]⟩
def zan4 (n c d a b):qc n c d a b=z9 (decide (c<1)) (vj3 n c d true a.Kind a.In_Lo a.In_Hi b.Kind b.In_Lo b.In_Hi 0 0 0) (z9 (decide (c>13)) (vj3 n c d true a.Kind a.In_Lo a.In_Hi b.Kind b.In_Lo b.In_Hi 0 0 0) (z6 (qas v3 a) fun e=>z9 (!e) (vj3 n c d true a.Kind a.In_Lo a.In_Hi b.Kind b.In_Lo b.In_Hi 0 0 0) (z6 (qas v3 b) fun f=>vj3 n c d (!f) a.Kind a.In_Lo a.In_Hi b.Kind b.In_Lo b.In_Hi 0 0 0))):=by kernel_rfl
def ga8 (n j k l b c d a e f g h i):vj3 (n+1) j k l b c d a e f g h i=z9 l (some ((⟨0,0,0⟩:Known),2)) (z9 (j != 12) (z9 (b==0) (qp8 n j k true b c d a e f g h i) (z9 (j != 13) (qp8 n j k (a==0) b c d a e f g h i) (qp8 n j k false b c d a e f g h i))) (z9 (j != 13) (qp8 n j k (a==0) b c d a e f g h i) (qp8 n j k false b c d a e f g h i))):=by kernel_rfl
def ga9 (n k l j a b c d e f g h i):qp8 (n+1) k l j a b c d e f g h i=z9 j (some ((⟨0,0,0⟩:Known),110)) (z9 (k==12) (gz2 n k l (!l) a b c d e f g h i) (gz2 n k l false a b c d e f g h i)):=by kernel_rfl
def gb0 (n j l k d e f a b c g h i):gz2 (n+1) j l k d e f a b c g h i=z9 k (some ((⟨a,b,c⟩:Known),0)) (z9 (j==12) (vj2 n j l a b c a b c g h i) (z9 (j==13) (vj2 n j l d e f d e f g h i) (vj2 n j l d e f a b c g h i))):=by kernel_rfl
def ga7 (n i j a b c k l m d e f):vj2 (n+1) i j a b c k l m d e f=z6 (qi v3 (⟨a,b,c⟩:Known)) fun h=>z6 (qi v3 (⟨k,l,m⟩:Known)) fun g=>z9 (i==1) (z9 (!j) (qp9 n i j h.2 g.2 g.2 a b c d e f h.1.Lo h.1.Hi g.1.Lo g.1.Hi) (qp9 n i j h.2 g.2 false a b c d e f h.1.Lo h.1.Hi g.1.Lo g.1.Hi)) (z9 (i==2) (z9 (!j) (qp9 n i j h.2 g.2 g.2 a b c d e f h.1.Lo h.1.Hi g.1.Lo g.1.Hi) (qp9 n i j h.2 g.2 false a b c d e f h.1.Lo h.1.Hi g.1.Lo g.1.Hi)) (qp9 n i j h.2 g.2 false a b c d e f h.1.Lo h.1.Hi g.1.Lo g.1.Hi)):=by kernel_rfl
def gb1 (n o p k l m c d e f g h i j a b):qp9 (n+1) o p k l m c d e f g h i j a b=z9 k (z9 l (z9 (o==4) (z6 (qcd v3 (⟨a,b⟩:Span) p) fun q=>qq0 n o p k l m q c d e f g h i j a b) (z9 (o==5) (z6 (qcd v3 (⟨a,b⟩:Span) p) fun r=>qq0 n o p k l m r c d e f g h i j a b) (qq0 n o p k l m false c d e f g h i j a b))) (qq0 n o p k l m false c d e f g h i j a b)) (qq0 n o p k l m false c d e f g h i j a b):=by kernel_rfl
def gb2 (n p q l m k o a b c d e f g h i j):qq0 (n+1) p q l m k o a b c d e f g h i j=z9 o (some ((⟨0,0,0⟩:Known),113)) (z9 l (gz3 n p q k m a b c d e f g h i j) (gz3 n p q k false a b c d e f g h i j)):=by kernel_rfl
def gb3 (n m o i j a d e f g h k l b c):gz3 (n+1) m o i j a d e f g h k l b c=z9 j (z6 (qk v3 m o (⟨k,l⟩:Span) (⟨b,c⟩:Span)) fun p=>some ((⟨1,p.2.1.Lo,p.2.1.Hi⟩:Known),0)) (z9 i (gz4 n m i (a==2) a d e f g h b c) (gz4 n m i false a d e f g h b c)):=by kernel_rfl
def gb5 (n j k i a d e f g h b c):gz4 (n+1) j k i a d e f g h b c=z9 i (vj4 n j i a d e f g h b c) (z9 k (z9 (a==3) (vj4 n j (b==c) a d e f g h b c) (vj4 n j false a d e f g h b c)) (vj4 n j false a d e f g h b c)):=by kernel_rfl
def gb4 (n j a b c d g h i e f):vj4 (n+1) j a b c d g h i e f=z9 a (z6 (qk v3 j false (⟨c,d⟩:Span) (⟨e,f⟩:Span)) fun k=>some ((⟨b,k.2.1.Lo,k.2.1.Hi⟩:Known),0)) (some ((⟨0,0,0⟩:Known),114)):=by kernel_rfl
def zan5:=okF ql4 func78
end Go.X
