import Derived.Test.YthhhfnfgmijggaaGreatIb
set_option linter.defProp false
namespace Go.X
open Go.RowKit Go.V Go.Proofs Tryz
noncomputable def ua5:KF:=⟨eN,0,[],[],f134,z0,[.a9,.a2],[.a8]⟩
noncomputable def qeb (n:Nat) (a:Span) (b:Int):Option (Bool):=tF ua5 n (a,b)
def ux1 (n a b):qeb n a b=j4 (decide (a.Lo<=b)) (some (decide (b<=a.Hi))) (some false):=by kernel_rfl
def ux3:=okF ua5 func134
noncomputable def wt0:KF:=⟨eN,0,[],[],f136,z0,[.a8],[.a9]⟩
noncomputable def qw (n:Nat) (a:Bool):Option (Span):=tF wt0 n a
def zad6 (n a):qw n a=j4 a (some (⟨0,4294967295⟩:Span)) (some (⟨0,18446744073709551615⟩:Span)):=by kernel_rfl
def kn4:=okF wt0 func136
noncomputable def wz5:KF:=⟨eN,0,[],[],f135,z0,[.a9,.a9],[.a8]⟩
noncomputable def qec (n:Nat) (a b:Span):Option (Bool):=tF wz5 n (a,b)
def uy8 (n a b):qec n a b=j4 (decide (b.Lo<=a.Lo)) (some (decide (a.Hi<=b.Hi))) (some false):=by kernel_rfl
def up5:=okF wz5 func135
noncomputable def ua9:KF:=⟨cF ux3 (cF kn4 (cF up5 eN)),0,[],[],f104,z0,[.a9,.a8],[.a8]⟩
noncomputable def qbz (n:Nat) (a:Span) (b:Bool):Option (Bool):=tF ua9 n (a,b)
def uy9 (n a b):qbz n a b=z8 (qeb v3 a 0) fun c=>j4 c (some true) (j4 b (z8 (qw v3 true) fun d=>z8 (qec v3 a d) fun e=>some (!e)) (some false)):=by kernel_rfl
def ud8:=okF ua9 func104
noncomputable def gy6:KG:=⟨eN,0,[],[],f137,n0,[],[],[.mp .u8 [1,2,3,4,5,6,7,8,9,10,11,12,13] [.fn 181 [] [],.fn 182 [] [],.fn 183 [] [],.fn 184 [] [],.fn 185 [] [],.fn 186 [] [],.fn 187 [] [],.fn 188 [] [],.fn 189 [] [],.fn 190 [] [],.fn 191 [] [],.fn 192 [] [],.fn 193 [] []]]⟩
noncomputable def qbc (n:Nat):Option (Unit×((u4×u4×u4×u4×u4×u4×u4×u4×u4×u4×u4×u4×u4×Unit)×Unit)):=tG gy6 n ()
def zr9 (n):qbc n=some ((),((((),()),((),()),((),()),((),()),((),()),((),()),((),()),((),()),((),()),((),()),((),()),((),()),((),()),()),())):=by kernel_rfl
def um3:=okG gy6 func137
noncomputable def qh_k:KF:=⟨cF kn4 eN,0,[],[],f139,z0,[.a9,.a8],[.a9]⟩
noncomputable def qh (n:Nat) (a:Span) (b:Bool):Option (Span):=tF qh_k n (a,b)
def zal8 (n a b):qh n a b=j4 (!b) (some a) (j4 ((za6 .u64 a.Lo 32) != (za6 .u64 a.Hi 32)) (z8 (qw v3 true) fun c=>some c) (some (⟨g9 .u64 a.Lo 4294967295,g9 .u64 a.Hi 4294967295⟩:Span))):=by kernel_rfl
def zaj3:=okF qh_k func139
noncomputable def kn6:KF:=⟨cF zaj3 eN,0,[(1,1)],[],f108,z0,[.a8,.a9,.a9],[.c1]⟩
noncomputable def qan (n:Nat) (a:Bool) (b c:Span):Option (Work):=tF kn6 n (a,b,c)
def um4 (n a d e):qan n a d e=z8 (qh v3 d a) fun b=>z8 (qh v3 e a) fun c=>j4 a (some (⟨b.Lo,b.Hi,c.Lo,c.Hi,a,4294967295,32⟩:Work)) (some (⟨b.Lo,b.Hi,c.Lo,c.Hi,a,18446744073709551615,64⟩:Work)):=by kernel_rfl
def gr2:=okF kn6 func108
noncomputable def qu_k:KP:=⟨⟨eN,0,[],[],f194,n0,[.a8],[],[]⟩,.ifc 163 (.agg [])⟩
noncomputable def qu (n:Nat) (a:Bool):Option (Unit×(Unit⊕u4)):=tP qu_k n (a,())
def zaj8 (n a):qu n a=j4 (!a) (some ((),.inr ((),()))) (some ((),.inl ())):=by kernel_rfl
def ja0:=okP qu_k func194
noncomputable def wq8:KF:=⟨eN,0,[],[],f202,z0,[.c1,.a2,.a2],[.a9]⟩
noncomputable def qbw (n:Nat) (a:Work) (b c:Int):Option (Span):=tF wq8 n (a,b,c)
def ug4 (n a b c):qbw n a b c=some (⟨g9 .u64 b a.most,g9 .u64 c a.most⟩:Span):=by kernel_rfl
def vm1:=okF wq8 func202
noncomputable def kl2:KP:=⟨⟨cP ja0 (cF vm1 eN),0,[],[([I],qt [1,2])],f181,n0,[.c1],[],[.a9]⟩,.ifc 163 (.agg [])⟩
abbrev gi2:=Option u9
noncomputable def qbn (n:Nat) (a:Work):gi2:=tP kl2 n (a,())
noncomputable def vm8 (n:Nat) (a b c d:Int) (e:Bool) (f g h i:Int):gi2:=uP kl2 n [I] ⟨[(1,.ptr 0 0),(2,.ptr 1 0)],[.k4 a b c d e f g,.k3 h i]⟩
def uz0 (n a):qbn n a=j4 (decide (a.b_Hi<=(IntKind.u64.wrap (a.most-a.a_Hi)))) (z8 (qu v3 true) fun b=>match b.2 with| .inl d=>(vm8 n a.a_Lo a.a_Hi a.b_Lo a.b_Hi a.narrow a.most a.size 0 0)| .inr e=>(some ((),.inr ((),())))) (z8 (qu v3 (decide (a.b_Lo>(IntKind.u64.wrap (a.most-a.a_Lo))))) fun c=>match c.2 with| .inl f=>(vm8 n a.a_Lo a.a_Hi a.b_Lo a.b_Hi a.narrow a.most a.size 0 0)| .inr g=>(some ((),.inr ((),())))):=by kernel_rfl
def kb1 (n a b c d e f g h i):vm8 (n+1) a b c d e f g h i=z8 (qbw v3 (⟨a,b,c,d,e,f,g⟩:Work) (IntKind.u64.wrap (a+c)) (IntKind.u64.wrap (b+d))) fun j=>some ((),.inl (j,())):=by kernel_rfl
def uo2:=okP kl2 func181
noncomputable def qai_C:Ctx TT:=⟨ja9,[],2,[],zz2,jc2⟩
def wl3:zc4 TT prog qai_C.E:=zm4
noncomputable def qai (a:Bool) (b c:Int):Option ((Bool×Unit)×u14×Unit):=yr2 prog qai_C f138 (zb0 f138) [.d8,.c4] (.rw 1) [.blk 4 [.a8],.c6] ((a,()),(b,c,()),(),())
def go1 (a b c):qai a b c=some ((a,()),(b,c,()),()):=by kernel_rfl
noncomputable def vv1:DSpec TT:=⟨[.d8,.c4],.rw 1,[.blk 4 [.a8],.c6],fun x=>qai x.1.1 x.2.1.1 x.2.1.2.1⟩
def wm3:DOk TT prog 138 vv1:=yf9 (C:=qai_C) (by kernel_rfl) wl3 func138 (show f138.body=some (zb0 f138) by kernel_rfl) (by kernel_rfl) (by kernel_rfl) (by kernel_rfl) (by kernel_rfl) fun x y h=>h
noncomputable def qbd_C:Ctx TT:=⟨ja9,[(136,(sF wt0).toCall)],2,[],zz2,jc2⟩
def wk9:zc4 TT prog qbd_C.E:=zr2 (zc9 kn4) (zm4)
noncomputable def qbd (a:Bool) (b c:Int):Option ((Bool×Unit)×u14×Unit):=yr2 prog qbd_C f138 (zb0 f138) [.d8,.c4] (.ifc 163 (.agg [])) [.blk 4 [.a8],.c6] ((a,()),(b,c,()),(),())
def uf8 (a c d):qbd a c d=z8 (qw v3 a) fun b=>some ((a,()),(b.Lo,b.Hi,()),()):=by kernel_rfl
noncomputable def vy3:DSpec TT:=⟨[.d8,.c4],.ifc 163 (.agg []),[.blk 4 [.a8],.c6],fun x=>qbd x.1.1 x.2.1.1 x.2.1.2.1⟩
def wd8:DOk TT prog 138 vy3:=yf9 (C:=qbd_C) (by kernel_rfl) wk9 func138 (show f138.body=some (zb0 f138) by kernel_rfl) (by kernel_rfl) (by kernel_rfl) (by kernel_rfl) (by kernel_rfl) fun x y h=>h
noncomputable def ko9:KP:=⟨⟨cP ja0 (cF vm1 eN),0,[],[([I],qt [1,2])],f182,n0,[.c1],[],[.a9]⟩,.ifc 163 (.agg [])⟩
abbrev gs8:=Option u9
noncomputable def qbo (n:Nat) (a:Work):gs8:=tP ko9 n (a,())
noncomputable def vl8 (n:Nat) (a b c d:Int) (e:Bool) (f g h i:Int):gs8:=uP ko9 n [I] ⟨[(1,.ptr 0 0),(2,.ptr 1 0)],[.k4 a b c d e f g,.k3 h i]⟩
def uu4 (n a):qbo n a=j4 (decide (a.a_Lo>=a.b_Hi)) (z8 (qu v3 true) fun b=>match b.2 with| .inl d=>(vl8 n a.a_Lo a.a_Hi a.b_Lo a.b_Hi a.narrow a.most a.size 0 0)| .inr e=>(some ((),.inr ((),())))) (z8 (qu v3 (decide (a.a_Hi<a.b_Lo))) fun c=>match c.2 with| .inl f=>(vl8 n a.a_Lo a.a_Hi a.b_Lo a.b_Hi a.narrow a.most a.size 0 0)| .inr g=>(some ((),.inr ((),())))):=by kernel_rfl
def ka5 (n a b c d e f g h i):vl8 (n+1) a b c d e f g h i=z8 (qbw v3 (⟨a,b,c,d,e,f,g⟩:Work) (IntKind.u64.wrap (a-d)) (IntKind.u64.wrap (b-c))) fun j=>some ((),.inl (j,())):=by kernel_rfl
def uo9:=okP ko9 func182
noncomputable def uc3:KF:=⟨eN,0,[],[],f203,z0,[.a2,.a2],[.a2,.a2]⟩
noncomputable def qed (n:Nat) (a b:Int):Option u15:=tF uc3 n (a,b)
def us6 (n a b):qed n a b=some (IntKind.u64.wrap ((IntKind.u64.wrap ((IntKind.u64.wrap ((za6 .u64 a 32)*(za6 .u64 b 32)))+(za6 .u64 (IntKind.u64.wrap ((IntKind.u64.wrap ((za6 .u64 a 32)*(g9 .u64 b 4294967295)))+(za6 .u64 (IntKind.u64.wrap ((g9 .u64 a 4294967295)*(g9 .u64 b 4294967295))) 32))) 32)))+(za6 .u64 (IntKind.u64.wrap ((g9 .u64 (IntKind.u64.wrap ((IntKind.u64.wrap ((za6 .u64 a 32)*(g9 .u64 b 4294967295)))+(za6 .u64 (IntKind.u64.wrap ((g9 .u64 a 4294967295)*(g9 .u64 b 4294967295))) 32))) 4294967295)+(IntKind.u64.wrap ((g9 .u64 a 4294967295)*(za6 .u64 b 32))))) 32)),IntKind.u64.wrap (a*b)):=by kernel_rfl
def ux7:=okF uc3 func203
noncomputable def kn9:KP:=⟨⟨cF ux7 (cP ja0 eN),0,[],[([I,I],qt [1,2,4])],f183,n0,[.c1],[],[.a9]⟩,.ifc 163 (.agg [])⟩
abbrev gl5:=Option u9
noncomputable def qbp (n:Nat) (a:Work):gl5:=tP kn9 n (a,())
noncomputable def vp6 (n:Nat) (j a b c d:Int) (e:Bool) (f g h i:Int):gl5:=uP kn9 n [I,I] ⟨[(1,.ptr 0 0),(2,.ptr 1 0),(4,zd7 j)],[.k4 a b c d e f g,.k3 h i]⟩
def uk6 (n a):qbp n a=z8 (qed v3 a.a_Hi a.b_Hi) fun b=>j4 (b.1==0) (z8 (qu v3 (decide (b.2<=a.most))) fun c=>match c.2 with| .inl e=>(vp6 n b.2 a.a_Lo a.a_Hi a.b_Lo a.b_Hi a.narrow a.most a.size 0 0)| .inr f=>(some ((),.inr ((),())))) (z8 (qu v3 false) fun d=>match d.2 with| .inl g=>(vp6 n b.2 a.a_Lo a.a_Hi a.b_Lo a.b_Hi a.narrow a.most a.size 0 0)| .inr h=>(some ((),.inr ((),())))):=by kernel_rfl
def kf8 (n j a c b d e f g h i):vp6 (n+1) j a c b d e f g h i=some ((),.inl ((⟨IntKind.u64.wrap (a*b),j⟩:Span),())):=by kernel_rfl
def uy0:=okP kn9 func183
noncomputable def gw6:KF:=⟨eN,0,[(1,1)],[],f184,z0,[.c1],[.a9]⟩
noncomputable def qcp (n:Nat) (a:Work):Option (Span):=tF gw6 n a
def un9 (n a):qcp n a=if zh7 a.b_Hi 1=0 then none else (if zh7 a.b_Lo 1=0 then none else (some (⟨IntKind.u64.wrap (a.a_Lo.tdiv (zh7 a.b_Hi 1)),IntKind.u64.wrap (a.a_Hi.tdiv (zh7 a.b_Lo 1))⟩:Span))):=by kernel_rfl
def up3:=okF gw6 func184
noncomputable def gx5:KF:=⟨eN,0,[],[],f185,z0,[.c1],[.a9]⟩
noncomputable def qcq (n:Nat) (a:Work):Option (Span):=tF gx5 n a
def uo3 (n a):qcq n a=j4 (decide (a.a_Hi<(zh7 a.b_Lo 1))) (some (⟨a.a_Lo,a.a_Hi⟩:Span)) (some (⟨0,zo7 a.a_Hi (IntKind.u64.wrap ((zh7 a.b_Hi 1)-1))⟩:Span)):=by kernel_rfl
def ut4:=okF gx5 func185
noncomputable def qy_k:KF:=⟨cF jk1 eN,0,[],[],f205,z0,[.a9],[.a8]⟩
noncomputable def qy (n:Nat) (a:Span):Option (Bool):=tF qy_k n a
def zaf3 (n a):qy n a=z8 (qbv v3 a.Lo) fun b=>some ((a.Lo==b.Lo)&&(a.Hi==b.Hi)):=by kernel_rfl
def vh8:=okF qy_k func205
noncomputable def wr4:KF:=⟨cF vh8 eN,0,[],[],f195,z0,[.c1],[.a8]⟩
noncomputable def qag (n:Nat) (a:Work):Option (Bool):=tF wr4 n a
def uj5 (n a):qag n a=z8 (qy v3 (⟨a.a_Lo,a.a_Hi⟩:Span)) fun b=>j4 b (z8 (qy v3 (⟨a.b_Lo,a.b_Hi⟩:Span)) fun c=>some c) (some false):=by kernel_rfl
def jk9:=okF wr4 func195
noncomputable def gw8:KF:=⟨cF jk9 (cF jk1 eN),0,[],[],f186,z0,[.c1],[.a9]⟩
noncomputable def qce (n:Nat) (a:Work):Option (Span):=tF gw8 n a
def zaa1 (n a):qce n a=z8 (qag v3 a) fun b=>j4 b (z8 (qbv v3 (g9 .u64 a.a_Lo a.b_Lo)) fun c=>some c) (some (⟨0,zo7 a.a_Hi a.b_Hi⟩:Span)):=by kernel_rfl
def up6:=okF gw8 func186
noncomputable def ub7:KF:=⟨cF gn3 eN,0,[],[],f204,z0,[.a2],[.a2]⟩
noncomputable def qcf (n:Nat) (a:Int):Option (Int):=tF ub7 n a
def uu3 (n a):qcf n a=z8 (qab v3 a) fun b=>if b<0 then none else (some (IntKind.u64.wrap ((zr4 .u64 1 b)-1))):=by kernel_rfl
def gn0:=okF ub7 func204
noncomputable def wd4:KF:=⟨cF jk9 (cF jk1 (cF gn0 eN)),0,[(3,1)],[],f187,z0,[.c1],[.a9]⟩
noncomputable def qcg (n:Nat) (a:Work):Option (Span):=tF wd4 n a
def uh4 (n a):qcg n a=z8 (qag v3 a) fun b=>j4 b (z8 (qbv v3 (bOr .u64 a.a_Lo a.b_Lo)) fun c=>some c) (z8 (qcf v3 (bOr .u64 a.a_Hi a.b_Hi)) fun d=>some (⟨zh7 a.a_Lo a.b_Lo,d⟩:Span)):=by kernel_rfl
def ux5:=okF wd4 func187
noncomputable def gv9:KF:=⟨cF jk9 (cF jk1 (cF gn0 eN)),0,[],[],f188,z0,[.c1],[.a9]⟩
noncomputable def qch (n:Nat) (a:Work):Option (Span):=tF gv9 n a
def uu1 (n a):qch n a=z8 (qag v3 a) fun b=>j4 b (z8 (qbv v3 (yl9 .u64 a.a_Lo a.b_Lo)) fun c=>some c) (z8 (qcf v3 (bOr .u64 a.a_Hi a.b_Hi)) fun d=>some (⟨0,d⟩:Span)):=by kernel_rfl
def zaa6:=okF gv9 func188
noncomputable def km4:KP:=⟨⟨cF vh8 (cP ja0 eN),0,[],[([I,I],qt [1,2,3])],f189,n0,[.c1],[],[.a9]⟩,.ifc 163 (.agg [])⟩
abbrev gm2:=Option u9
noncomputable def qbq (n:Nat) (a:Work):gm2:=tP km4 n (a,())
noncomputable def vn3 (n:Nat) (j a b c d:Int) (e:Bool) (f g h i:Int):gm2:=uP km4 n [I,I] ⟨[(1,.ptr 0 0),(2,.ptr 1 0),(3,zd7 j)],[.k4 a b c d e f g,.k3 h i]⟩
def ug5 (n a):qbq n a=if a.size=0 then none else (z8 (qy v3 (⟨a.b_Lo,a.b_Hi⟩:Span)) fun b=>j4 b (if a.b_Lo.tmod a.size<0 then none else (z8 (qu v3 (decide (a.a_Hi<=(za6 .u64 a.most (a.b_Lo.tmod a.size))))) fun c=>match c.2 with| .inl e=>(vn3 n (a.b_Lo.tmod a.size) a.a_Lo a.a_Hi a.b_Lo a.b_Hi a.narrow a.most a.size 0 0)| .inr f=>(some ((),.inr ((),()))))) (z8 (qu v3 false) fun d=>match d.2 with| .inl g=>(vn3 n (a.b_Lo.tmod a.size) a.a_Lo a.a_Hi a.b_Lo a.b_Hi a.narrow a.most a.size 0 0)| .inr h=>(some ((),.inr ((),()))))):=by kernel_rfl
def kb8 (n c a b d e f g h i j):vn3 (n+1) c a b d e f g h i j=if c<0 then none else (if c<0 then none else (some ((),.inl ((⟨zr4 .u64 a c,zr4 .u64 b c⟩:Span),())))):=by kernel_rfl
def uy4:=okP km4 func189
noncomputable def kn0:KF:=⟨cF vh8 eN,0,[],[([I,I],qt [1,2,3,4])],f190,z0,[.c1],[.a9]⟩
noncomputable def qau (n:Nat) (a:Work):Option (Span):=tF kn0 n a
noncomputable def jj7 (n:Nat) (j k a b c d:Int) (e:Bool) (f g h i:Int):Option (Span):=uF kn0 n [I,I] ⟨[(1,.ptr 0 0),(2,.ptr 1 0),(3,zd7 j),(4,zd7 k)],[.k4 a b c d e f g,.k3 h i]⟩
def uz8 (n a):qau n a=z8 (qy v3 (⟨a.b_Lo,a.b_Hi⟩:Span)) fun b=>j4 b (if a.size=0 then none else (if a.size=0 then none else (jj7 n (a.b_Hi.tmod a.size) (a.b_Lo.tmod a.size) a.a_Lo a.a_Hi a.b_Lo a.b_Hi a.narrow a.most a.size 0 0))) (j4 (decide (a.b_Hi>=a.size)) (some (⟨0,a.a_Hi⟩:Span)) (jj7 n a.b_Hi a.b_Lo a.a_Lo a.a_Hi a.b_Lo a.b_Hi a.narrow a.most a.size 0 0)):=by kernel_rfl
def qc1 (n j k a b c d e f g h i):jj7 (n+1) j k a b c d e f g h i=if j<0 then none else (if k<0 then none else (some (⟨za6 .u64 a j,za6 .u64 b k⟩:Span))):=by kernel_rfl
def ut5:=okF kn0 func190
noncomputable def wx6:KF:=⟨eN,0,[],[],f197,z0,[.c1,.a2],[.a8]⟩
noncomputable def qaa (n:Nat) (a:Work) (b:Int):Option (Bool):=tF wx6 n (a,b)
def ui6 (n a b):qaa n a b=if IntKind.u64.wrap (a.size-1)<0 then none else (some ((g9 .u64 (za6 .u64 b (IntKind.u64.wrap (a.size-1))) 1)==1)):=by kernel_rfl
def gq0:=okF wx6 func197
noncomputable def wy9:KF:=⟨cF gq0 eN,0,[],[],f196,z0,[.c1,.a9],[.a8]⟩
noncomputable def qav (n:Nat) (a:Work) (b:Span):Option (Bool):=tF wy9 n (a,b)
def ux4 (n a b):qav n a b=z8 (qaa v3 a b.Lo) fun c=>z8 (qaa v3 a b.Hi) fun d=>some (!(c==d)):=by kernel_rfl
def gk2:=okF wy9 func196
noncomputable def ud4:KG:=⟨eN,2,[],[],f144,n0,[.b6,.b6],[.b9,.b9],[.a6]⟩
noncomputable def qee (n:Nat) (a b:Int):Option u6:=tG ud4 n ((a,()),(b,()),())
def gj3 (n a b):qee n a b=some (((a,()),(b,()),()),(IntKind.u32.wrap (a+b),())):=by kernel_rfl
def uw3:=okG ud4 func144
noncomputable def wo4:KG:=⟨eN,2,[],[],f145,n0,[.b6,.b6],[.b9,.b9],[.a6]⟩
noncomputable def qef (n:Nat) (a b:Int):Option u6:=tG wo4 n ((a,()),(b,()),())
def gh0 (n a b):qef n a b=some (((a,()),(b,()),()),(IntKind.u32.wrap (a-b),())):=by kernel_rfl
def ue7:=okG wo4 func145
noncomputable def wr6:KG:=⟨eN,2,[],[],f146,n0,[.b6,.b6],[.b9,.b9],[.a6]⟩
noncomputable def qeg (n:Nat) (a b:Int):Option u6:=tG wr6 n ((a,()),(b,()),())
def gr4 (n a b):qeg n a b=some (((a,()),(b,()),()),(IntKind.u32.wrap (a*b),())):=by kernel_rfl
def ug3:=okG wr6 func146
noncomputable def uc9:KG:=⟨eN,2,[],[],f147,n0,[.b6,.b6],[.b9,.b9],[.a6]⟩
noncomputable def qeh (n:Nat) (a b:Int):Option u6:=tG uc9 n ((a,()),(b,()),())
def gm8 (n b a):qeh n b a=if a=0 then none else (some (((b,()),(a,()),()),(IntKind.u32.wrap (b.tdiv a),()))):=by kernel_rfl
def ur3:=okG uc9 func147
noncomputable def wv5:KG:=⟨eN,2,[],[],f148,n0,[.b6,.b6],[.b9,.b9],[.a6]⟩
noncomputable def qei (n:Nat) (a b:Int):Option u6:=tG wv5 n ((a,()),(b,()),())
def gp3 (n b a):qei n b a=if a=0 then none else (some (((b,()),(a,()),()),(b.tmod a,()))):=by kernel_rfl
def ui2:=okG wv5 func148
noncomputable def ws6:KG:=⟨eN,2,[],[],f149,n0,[.b6,.b6],[.b9,.b9],[.a6]⟩
noncomputable def qej (n:Nat) (a b:Int):Option u6:=tG ws6 n ((a,()),(b,()),())
def gq1 (n a b):qej n a b=some (((a,()),(b,()),()),(g9 .u32 a b,())):=by kernel_rfl
def uy7:=okG ws6 func149
noncomputable def wt5:KG:=⟨eN,2,[],[],f150,n0,[.b6,.b6],[.b9,.b9],[.a6]⟩
noncomputable def qek (n:Nat) (a b:Int):Option u6:=tG wt5 n ((a,()),(b,()),())
def gn5 (n a b):qek n a b=some (((a,()),(b,()),()),(bOr .u32 a b,())):=by kernel_rfl
def uk5:=okG wt5 func150
noncomputable def wy4:KG:=⟨eN,2,[],[],f151,n0,[.b6,.b6],[.b9,.b9],[.a6]⟩
noncomputable def qel (n:Nat) (a b:Int):Option u6:=tG wy4 n ((a,()),(b,()),())
def gu3 (n a b):qel n a b=some (((a,()),(b,()),()),(yl9 .u32 a b,())):=by kernel_rfl
def up0:=okG wy4 func151
noncomputable def wq7:KG:=⟨eN,3,[],[],f152,n0,[.b6,.b6,.b6],[.b9,.b9,.b9],[.a6]⟩
noncomputable def qem (n:Nat) (a b c:Int):Option u13:=tG wq7 n ((a,()),(b,()),(c,()),())
def gh6 (n c b a):qem n c b a=if a=0 then none else (if b.tmod a<0 then none else (some (((c,()),(b,()),(a,()),()),(zr4 .u32 c (b.tmod a),())))):=by kernel_rfl
def uy6:=okG wq7 func152
noncomputable def wv0:KG:=⟨eN,3,[],[],f153,n0,[.b6,.b6,.b6],[.b9,.b9,.b9],[.a6]⟩
noncomputable def qen (n:Nat) (a b c:Int):Option u13:=tG wv0 n ((a,()),(b,()),(c,()),())
def gq7 (n c b a):qen n c b a=if a=0 then none else (if b.tmod a<0 then none else (some (((c,()),(b,()),(a,()),()),(za6 .u32 c (b.tmod a),())))):=by kernel_rfl
def zab0:=okG wv0 func153
noncomputable def wt6:KG:=⟨eN,3,[],[],f154,n0,[.b6,.b6,.b6],[.b9,.b9,.b9],[.a6]⟩
noncomputable def qeo (n:Nat) (a b c:Int):Option u13:=tG wt6 n ((a,()),(b,()),(c,()),())
def gn8 (n c b a):qeo n c b a=if a=0 then none else (if b.tmod a<0 then none else (some (((c,()),(b,()),(a,()),()),(IntKind.u32.wrap (za6 .i32 (IntKind.i32.wrap c) (b.tmod a)),())))):=by kernel_rfl
def uv3:=okG wt6 func154
noncomputable def ud0:KG:=⟨eN,1,[],[],f155,n0,[.b6],[.b9],[.a6]⟩
noncomputable def qep (n:Nat) (a:Int):Option ((u1×Unit)×u1):=tG ud0 n ((a,()),())
def gn6 (n a):qep n a=some (((a,()),()),(a,())):=by kernel_rfl
def zac9:=okG ud0 func155
noncomputable def ua8:KG:=⟨eN,1,[],[],f156,n0,[.b6],[.b9],[.a6]⟩
noncomputable def qeq (n:Nat) (a:Int):Option ((u1×Unit)×u1):=tG ua8 n ((a,()),())
def gt6 (n a):qeq n a=some (((a,()),()),(IntKind.u32.wrap (0-a),())):=by kernel_rfl
def zaa2:=okG ua8 func156
noncomputable def qc_k:KF:=⟨cG uw3 (cG ue7 (cG ug3 (cG ur3 (cG ui2 (cG uy7 (cG uk5 (cG up0 (cG uy6 (cG zab0 (cG uv3 (cG zac9 (cG zaa2 eN)))))))))))),0,[],[([O,I],qt [0,5,6,7,21])],f110,z0,[.b7,.a6,.a6,.a6],[.a6,.a1]⟩
noncomputable def qc (n:Nat) (a b c d:Int):Option u15:=tF qc_k n (a,b,c,d)
noncomputable def qo7 (n:Nat) (e:Int) (d:Bool) (a b c:Int):Option u15:=uF qc_k n [O,I] ⟨[(0,cu8 e),(5,.ptr 0 0),(6,.ptr 1 0),(7,.ptr 2 0),(21,cb d)],[.blk 141 [cu32 a],.blk 141 [cu32 b],.blk 141 [cu32 c]]⟩
def wx1 (n a c d b):qc n a c d b=j4 (a==4) (qo7 n a (b==0) c d b) (j4 (a==5) (qo7 n a (b==0) c d b) (qo7 n a false c d b)):=by kernel_rfl
def qt6 (n c e d a b):qo7 (n+1) c e d a b=j4 e (some (0,113)) (if c=1 then (z8 (qee v3 a b) fun j=>some (j.2.1,0)) else (if c=2 then (z8 (qef v3 a b) fun k=>some (k.2.1,0)) else (if c=3 then (z8 (qeg v3 a b) fun l=>some (l.2.1,0)) else (if c=4 then (z8 (qeh v3 a b) fun m=>some (m.2.1,0)) else (if c=5 then (z8 (qei v3 a b) fun o=>some (o.2.1,0)) else (if c=6 then (z8 (qej v3 a b) fun p=>some (p.2.1,0)) else (if c=7 then (z8 (qek v3 a b) fun q=>some (q.2.1,0)) else (if c=8 then (z8 (qel v3 a b) fun r=>some (r.2.1,0)) else (if c=9 then (z8 (qem v3 a b d) fun s=>some (s.2.1,0)) else (if c=10 then (z8 (qen v3 a b d) fun f=>some (f.2.1,0)) else (if c=11 then (z8 (qeo v3 a b d) fun g=>some (g.2.1,0)) else (if c=12 then (z8 (qep v3 b) fun h=>some (h.2.1,0)) else (if c=13 then (z8 (qeq v3 a) fun i=>some (i.2.1,0)) else (some (0,2))))))))))))))):=by kernel_rfl
def zag3:=okF qc_k func110
noncomputable def wo3:KG:=⟨eN,2,[],[],f157,n0,[.b8,.b8],[.c2,.c2],[.a2]⟩
noncomputable def qer (n:Nat) (a b:Int):Option u6:=tG wo3 n ((a,()),(b,()),())
def go0 (n a b):qer n a b=some (((a,()),(b,()),()),(IntKind.u64.wrap (a+b),())):=by kernel_rfl
def us3:=okG wo3 func157
noncomputable def ww8:KG:=⟨eN,2,[],[],f158,n0,[.b8,.b8],[.c2,.c2],[.a2]⟩
noncomputable def qes (n:Nat) (a b:Int):Option u6:=tG ww8 n ((a,()),(b,()),())
def gj0 (n a b):qes n a b=some (((a,()),(b,()),()),(IntKind.u64.wrap (a-b),())):=by kernel_rfl
def ud5:=okG ww8 func158
noncomputable def wu9:KG:=⟨eN,2,[],[],f159,n0,[.b8,.b8],[.c2,.c2],[.a2]⟩
noncomputable def qet (n:Nat) (a b:Int):Option u6:=tG wu9 n ((a,()),(b,()),())
def gu0 (n a b):qet n a b=some (((a,()),(b,()),()),(IntKind.u64.wrap (a*b),())):=by kernel_rfl
def un7:=okG wu9 func159
noncomputable def wu6:KG:=⟨eN,2,[],[],f160,n0,[.b8,.b8],[.c2,.c2],[.a2]⟩
noncomputable def qeu (n:Nat) (a b:Int):Option u6:=tG wu6 n ((a,()),(b,()),())
def gt1 (n b a):qeu n b a=if a=0 then none else (some (((b,()),(a,()),()),(IntKind.u64.wrap (b.tdiv a),()))):=by kernel_rfl
def zac8:=okG wu6 func160
noncomputable def ub4:KG:=⟨eN,2,[],[],f161,n0,[.b8,.b8],[.c2,.c2],[.a2]⟩
noncomputable def qev (n:Nat) (a b:Int):Option u6:=tG ub4 n ((a,()),(b,()),())
def go4 (n b a):qev n b a=if a=0 then none else (some (((b,()),(a,()),()),(b.tmod a,()))):=by kernel_rfl
def uh9:=okG ub4 func161
noncomputable def wv3:KG:=⟨eN,2,[],[],f162,n0,[.b8,.b8],[.c2,.c2],[.a2]⟩
noncomputable def qew (n:Nat) (a b:Int):Option u6:=tG wv3 n ((a,()),(b,()),())
def gg4 (n a b):qew n a b=some (((a,()),(b,()),()),(g9 .u64 a b,())):=by kernel_rfl
def um0:=okG wv3 func162
noncomputable def wq9:KG:=⟨eN,2,[],[],f163,n0,[.b8,.b8],[.c2,.c2],[.a2]⟩
noncomputable def qex (n:Nat) (a b:Int):Option u6:=tG wq9 n ((a,()),(b,()),())
def gj9 (n a b):qex n a b=some (((a,()),(b,()),()),(bOr .u64 a b,())):=by kernel_rfl
def uq3:=okG wq9 func163
noncomputable def wy0:KG:=⟨eN,2,[],[],f164,n0,[.b8,.b8],[.c2,.c2],[.a2]⟩
noncomputable def qey (n:Nat) (a b:Int):Option u6:=tG wy0 n ((a,()),(b,()),())
def gn4 (n a b):qey n a b=some (((a,()),(b,()),()),(yl9 .u64 a b,())):=by kernel_rfl
def uw2:=okG wy0 func164
noncomputable def wy1:KG:=⟨eN,3,[],[],f165,n0,[.b8,.b8,.b8],[.c2,.c2,.c2],[.a2]⟩
noncomputable def qez (n:Nat) (a b c:Int):Option u13:=tG wy1 n ((a,()),(b,()),(c,()),())
def gn2 (n c b a):qez n c b a=if a=0 then none else (if b.tmod a<0 then none else (some (((c,()),(b,()),(a,()),()),(zr4 .u64 c (b.tmod a),())))):=by kernel_rfl
def up2:=okG wy1 func165
noncomputable def wr2:KG:=⟨eN,3,[],[],f166,n0,[.b8,.b8,.b8],[.c2,.c2,.c2],[.a2]⟩
noncomputable def qfa (n:Nat) (a b c:Int):Option u13:=tG wr2 n ((a,()),(b,()),(c,()),())
def gm1 (n c b a):qfa n c b a=if a=0 then none else (if b.tmod a<0 then none else (some (((c,()),(b,()),(a,()),()),(za6 .u64 c (b.tmod a),())))):=by kernel_rfl
def ur7:=okG wr2 func166
noncomputable def ub3:KG:=⟨eN,3,[],[],f167,n0,[.b8,.b8,.b8],[.c2,.c2,.c2],[.a2]⟩
noncomputable def qfb (n:Nat) (a b c:Int):Option u13:=tG ub3 n ((a,()),(b,()),(c,()),())
def gs7 (n c b a):qfb n c b a=if a=0 then none else (if b.tmod a<0 then none else (some (((c,()),(b,()),(a,()),()),(IntKind.u64.wrap (za6 .i64 (IntKind.i64.wrap c) (b.tmod a)),())))):=by kernel_rfl
def uz2:=okG ub3 func167
noncomputable def wr9:KG:=⟨eN,1,[],[],f168,n0,[.b8],[.c2],[.a2]⟩
noncomputable def qfc (n:Nat) (a:Int):Option ((u1×Unit)×u1):=tG wr9 n ((a,()),())
def gl2 (n a):qfc n a=some (((a,()),()),(a,())):=by kernel_rfl
def uv9:=okG wr9 func168
noncomputable def wv6:KG:=⟨eN,1,[],[],f169,n0,[.b8],[.c2],[.a2]⟩
noncomputable def qfd (n:Nat) (a:Int):Option ((u1×Unit)×u1):=tG wv6 n ((a,()),())
def gl0 (n a):qfd n a=some (((a,()),()),(IntKind.u64.wrap (0-a),())):=by kernel_rfl
def us4:=okG wv6 func169
noncomputable def wd2:KF:=⟨cG us3 (cG ud5 (cG un7 (cG zac8 (cG uh9 (cG um0 (cG uq3 (cG uw2 (cG up2 (cG ur7 (cG uz2 (cG uv9 (cG us4 eN)))))))))))),0,[],[([O,I],qt [0,5,6,7,21])],f111,z0,[.b7,.a2,.a2,.a2],[.a2,.a1]⟩
noncomputable def qbe (n:Nat) (a b c d:Int):Option u15:=tF wd2 n (a,b,c,d)
noncomputable def jl0 (n:Nat) (e:Int) (d:Bool) (a b c:Int):Option u15:=uF wd2 n [O,I] ⟨[(0,cu8 e),(5,.ptr 0 0),(6,.ptr 1 0),(7,.ptr 2 0),(21,cb d)],[.blk 49 [zd7 a],.blk 49 [zd7 b],.blk 49 [zd7 c]]⟩
def gr3 (n a c d b):qbe n a c d b=j4 (a==4) (jl0 n a (b==0) c d b) (j4 (a==5) (jl0 n a (b==0) c d b) (jl0 n a false c d b)):=by kernel_rfl
def qd6 (n c e d a b):jl0 (n+1) c e d a b=j4 e (some (0,113)) (if c=1 then (z8 (qer v3 a b) fun j=>some (j.2.1,0)) else (if c=2 then (z8 (qes v3 a b) fun k=>some (k.2.1,0)) else (if c=3 then (z8 (qet v3 a b) fun l=>some (l.2.1,0)) else (if c=4 then (z8 (qeu v3 a b) fun m=>some (m.2.1,0)) else (if c=5 then (z8 (qev v3 a b) fun o=>some (o.2.1,0)) else (if c=6 then (z8 (qew v3 a b) fun p=>some (p.2.1,0)) else (if c=7 then (z8 (qex v3 a b) fun q=>some (q.2.1,0)) else (if c=8 then (z8 (qey v3 a b) fun r=>some (r.2.1,0)) else (if c=9 then (z8 (qez v3 a b d) fun s=>some (s.2.1,0)) else (if c=10 then (z8 (qfa v3 a b d) fun f=>some (f.2.1,0)) else (if c=11 then (z8 (qfb v3 a b d) fun g=>some (g.2.1,0)) else (if c=12 then (z8 (qfc v3 b) fun h=>some (h.2.1,0)) else (if c=13 then (z8 (qfd v3 a) fun i=>some (i.2.1,0)) else (some (0,2))))))))))))))):=by kernel_rfl
def ug0:=okF wd2 func111
noncomputable def ub5:KF:=⟨cF zag3 (cF ug0 eN),0,[],[],f85,z0,[.b7,.a8,.a2,.a2],[.a2,.a1]⟩
noncomputable def qcv (n:Nat) (a:Int) (b:Bool) (c d:Int):Option u15:=tF ub5 n (a,b,c,d)
def vn9 (n a d b c):qcv n a d b c=j4 d (z8 (qc v3 a 32 (IntKind.u32.wrap b) (IntKind.u32.wrap c)) fun e=>some (IntKind.u64.wrap e.1,e.2)) (z8 (qbe v3 a 64 b c) fun f=>some (f.1,f.2)):=by kernel_rfl
def uu0:=okF ub5 func85
noncomputable def km6:KP:=⟨⟨cF vh8 (cF gk2 (cP ja0 (cF uu0 eN))),0,[],[([I],qt [1,2])],f191,n0,[.c1],[],[.a9]⟩,.ifc 163 (.agg [])⟩
abbrev gq3:=Option u9
noncomputable def qbr (n:Nat) (a:Work):gq3:=tP km6 n (a,())
noncomputable def vq4 (n:Nat) (a b c d:Int) (e:Bool) (f g h i:Int):gq3:=uP km6 n [I] ⟨[(1,.ptr 0 0),(2,.ptr 1 0)],[.k4 a b c d e f g,.k3 h i]⟩
def ue9 (n a):qbr n a=z8 (qy v3 (⟨a.b_Lo,a.b_Hi⟩:Span)) fun b=>j4 b (z8 (qav v3 a (⟨a.a_Lo,a.a_Hi⟩:Span)) fun c=>z8 (qu v3 (!c)) fun d=>match d.2 with| .inl f=>(vq4 n a.a_Lo a.a_Hi a.b_Lo a.b_Hi a.narrow a.most a.size 0 0)| .inr g=>(some ((),.inr ((),())))) (z8 (qu v3 false) fun e=>match e.2 with| .inl h=>(vq4 n a.a_Lo a.a_Hi a.b_Lo a.b_Hi a.narrow a.most a.size 0 0)| .inr i=>(some ((),.inr ((),())))):=by kernel_rfl
def kg8 (n c d a e b f g h i):vq4 (n+1) c d a e b f g h i=z8 (qcv v3 11 b c a) fun j=>z8 (qcv v3 11 b d a) fun k=>some ((),.inl ((⟨j.1,k.1⟩:Span),())):=by kernel_rfl
def uv1:=okP km6 func191
noncomputable def gy8:KF:=⟨eN,0,[],[],f192,z0,[.c1],[.a9]⟩
noncomputable def qcr (n:Nat) (a:Work):Option (Span):=tF gy8 n a
def ug7 (n a):qcr n a=some (⟨a.b_Lo,a.b_Hi⟩:Span):=by kernel_rfl
def zaa8:=okF gy8 func192
noncomputable def gz2:KP:=⟨⟨cP ja0 (cF vm1 eN),0,[],[],f193,n0,[.c1],[],[.a9]⟩,.ifc 163 (.agg [])⟩
noncomputable def qds (n:Nat) (a:Work):Option u9:=tP gz2 n (a,())
def uo7 (n a):qds n a=j4 (a.a_Hi==0) (some ((),.inl ((⟨a.a_Lo,a.a_Hi⟩:Span),()))) (z8 (qu v3 (decide (a.a_Lo>0))) fun b=>match b.2 with| .inl d=>(z8 (qbw v3 a (IntKind.u64.wrap (0-a.a_Hi)) (IntKind.u64.wrap (0-a.a_Lo))) fun c=>some ((),.inl (c,())))| .inr e=>(some ((),.inr ((),())))):=by kernel_rfl
def ux0:=okP gz2 func193
noncomputable def qq_C:Ctx TT:=⟨ja9,[(137,(sG gy6).toCall (ze7 TT)),(106,(sF ws7).toCall),(136,(sF wt0).toCall),(108,(sF kn6).toCall),(181,(sP kl2).toCall (ze7 TT)),(182,(sP ko9).toCall (ze7 TT)),(183,(sP kn9).toCall (ze7 TT)),(184,(sF gw6).toCall),(185,(sF gx5).toCall),(186,(sF gw8).toCall),(187,(sF wd4).toCall),(188,(sF gv9).toCall),(189,(sP km4).toCall (ze7 TT)),(190,(sF kn0).toCall),(191,(sP km6).toCall (ze7 TT)),(192,(sF gy8).toCall),(193,(sP gz2).toCall (ze7 TT))],0,[],zz2,jc2⟩
def zab1:zc4 TT prog qq_C.E:=zr2 (zb4 um3 (v7 137)) (zr2 (zc9 kl7) (zr2 (zc9 kn4) (zr2 (zc9 gr2) (zr2 (zc6 uo2 (v7 181)) (zr2 (zc6 uo9 (v7 182)) (zr2 (zc6 uy0 (v7 183)) (zr2 (zc9 up3) (zr2 (zc9 ut4) (zr2 (zc9 up6) (zr2 (zc9 ux5) (zr2 (zc9 zaa6) (zr2 (zc6 uy4 (v7 189)) (zr2 (zc9 ut5) (zr2 (zc6 uv1 (v7 191)) (zr2 (zc9 zaa8) (zr2 (zc6 ux0 (v7 193)) (zm4)))))))))))))))))
def vv2:List (Pos×Cut):= []
noncomputable def qq_D:DefP TT:=⟨3,31,[31,5,6,7,8,9],2,138,[(0,0),(1,0)],vv1,vy3⟩
noncomputable def qq (n:Nat) (a:Int) (b:Bool) (c d:Span):Option (Unit×(Span×Unit)):=ks7 prog qq_C vv2 f105 (zb0 f105) ⟨[],[],[],[],[]⟩ [.b7,.a8,.a9,.a9] [] [.a9] qq_D n (a,b,c,d,())
def yi6 (n d a b c):qq n d a b c=z8 (qbc v3) fun y1=>if d=1 then (z8 (qv v3 b) fun y2=>j4 (!y2) (z8 (qw v3 a) fun y3=>some ((),(y3,()))) (z8 (qv v3 c) fun y4=>j4 (!y4) (z8 (qw v3 a) fun y5=>some ((),(y5,()))) (z8 (qan v3 a b c) fun y6=>z8 (qbn v3 y6) fun y7=>match y7.2 with| .inl z7=>(z8 (qai a z7.1.Lo z7.1.Hi) fun y8=>some ((),((⟨y8.2.1.1,y8.2.1.2.1⟩:Span),())))| .inr e7=>(z8 (qbd a 0 0) fun y9=>some ((),((⟨y9.2.1.1,y9.2.1.2.1⟩:Span),())))))) else (if d=2 then (z8 (qv v3 b) fun J=>j4 (!J) (z8 (qw v3 a) fun K=>some ((),(K,()))) (z8 (qv v3 c) fun L=>j4 (!L) (z8 (qw v3 a) fun M=>some ((),(M,()))) (z8 (qan v3 a b c) fun N=>z8 (qbo v3 N) fun P=>match P.2 with| .inl e=>(z8 (qai a e.1.Lo e.1.Hi) fun f=>some ((),((⟨f.2.1.1,f.2.1.2.1⟩:Span),())))| .inr e15=>(z8 (qbd a 0 0) fun g=>some ((),((⟨g.2.1.1,g.2.1.2.1⟩:Span),())))))) else (if d=3 then (z8 (qv v3 b) fun Q=>j4 (!Q) (z8 (qw v3 a) fun R=>some ((),(R,()))) (z8 (qv v3 c) fun S=>j4 (!S) (z8 (qw v3 a) fun T=>some ((),(T,()))) (z8 (qan v3 a b c) fun U=>z8 (qbp v3 U) fun V=>match V.2 with| .inl h=>(z8 (qai a h.1.Lo h.1.Hi) fun i=>some ((),((⟨i.2.1.1,i.2.1.2.1⟩:Span),())))| .inr e23=>(z8 (qbd a 0 0) fun j=>some ((),((⟨j.2.1.1,j.2.1.2.1⟩:Span),())))))) else (if d=4 then (z8 (qv v3 b) fun W=>j4 (!W) (z8 (qw v3 a) fun X=>some ((),(X,()))) (z8 (qv v3 c) fun Y=>j4 (!Y) (z8 (qw v3 a) fun Z=>some ((),(Z,()))) (z8 (qan v3 a b c) fun y30=>z8 (qcp v3 y30) fun k=>z8 (qai a k.Lo k.Hi) fun l=>some ((),((⟨l.2.1.1,l.2.1.2.1⟩:Span),()))))) else (if d=5 then (z8 (qv v3 b) fun y33=>j4 (!y33) (z8 (qw v3 a) fun y34=>some ((),(y34,()))) (z8 (qv v3 c) fun y35=>j4 (!y35) (z8 (qw v3 a) fun y36=>some ((),(y36,()))) (z8 (qan v3 a b c) fun y37=>z8 (qcq v3 y37) fun m=>z8 (qai a m.Lo m.Hi) fun o=>some ((),((⟨o.2.1.1,o.2.1.2.1⟩:Span),()))))) else (if d=6 then (z8 (qv v3 b) fun y40=>j4 (!y40) (z8 (qw v3 a) fun y41=>some ((),(y41,()))) (z8 (qv v3 c) fun y42=>j4 (!y42) (z8 (qw v3 a) fun y43=>some ((),(y43,()))) (z8 (qan v3 a b c) fun y44=>z8 (qce v3 y44) fun p=>z8 (qai a p.Lo p.Hi) fun q=>some ((),((⟨q.2.1.1,q.2.1.2.1⟩:Span),()))))) else (if d=7 then (z8 (qv v3 b) fun y47=>j4 (!y47) (z8 (qw v3 a) fun y48=>some ((),(y48,()))) (z8 (qv v3 c) fun y49=>j4 (!y49) (z8 (qw v3 a) fun y50=>some ((),(y50,()))) (z8 (qan v3 a b c) fun y51=>z8 (qcg v3 y51) fun r=>z8 (qai a r.Lo r.Hi) fun s=>some ((),((⟨s.2.1.1,s.2.1.2.1⟩:Span),()))))) else (if d=8 then (z8 (qv v3 b) fun y54=>j4 (!y54) (z8 (qw v3 a) fun y55=>some ((),(y55,()))) (z8 (qv v3 c) fun y56=>j4 (!y56) (z8 (qw v3 a) fun y57=>some ((),(y57,()))) (z8 (qan v3 a b c) fun y58=>z8 (qch v3 y58) fun t=>z8 (qai a t.Lo t.Hi) fun u=>some ((),((⟨u.2.1.1,u.2.1.2.1⟩:Span),()))))) else (if d=9 then (z8 (qv v3 b) fun y61=>j4 (!y61) (z8 (qw v3 a) fun y62=>some ((),(y62,()))) (z8 (qv v3 c) fun y63=>j4 (!y63) (z8 (qw v3 a) fun y64=>some ((),(y64,()))) (z8 (qan v3 a b c) fun y65=>z8 (qbq v3 y65) fun y66=>match y66.2 with| .inl v=>(z8 (qai a v.1.Lo v.1.Hi) fun w=>some ((),((⟨w.2.1.1,w.2.1.2.1⟩:Span),())))| .inr e66=>(z8 (qbd a 0 0) fun x=>some ((),((⟨x.2.1.1,x.2.1.2.1⟩:Span),())))))) else (if d=10 then (z8 (qv v3 b) fun y69=>j4 (!y69) (z8 (qw v3 a) fun y70=>some ((),(y70,()))) (z8 (qv v3 c) fun y71=>j4 (!y71) (z8 (qw v3 a) fun y72=>some ((),(y72,()))) (z8 (qan v3 a b c) fun y73=>z8 (qau v3 y73) fun y=>z8 (qai a y.Lo y.Hi) fun z=>some ((),((⟨z.2.1.1,z.2.1.2.1⟩:Span),()))))) else (if d=11 then (z8 (qv v3 b) fun y76=>j4 (!y76) (z8 (qw v3 a) fun y77=>some ((),(y77,()))) (z8 (qv v3 c) fun y78=>j4 (!y78) (z8 (qw v3 a) fun y79=>some ((),(y79,()))) (z8 (qan v3 a b c) fun y80=>z8 (qbr v3 y80) fun y81=>match y81.2 with| .inl A=>(z8 (qai a A.1.Lo A.1.Hi) fun B=>some ((),((⟨B.2.1.1,B.2.1.2.1⟩:Span),())))| .inr e81=>(z8 (qbd a 0 0) fun C=>some ((),((⟨C.2.1.1,C.2.1.2.1⟩:Span),())))))) else (if d=12 then (z8 (qv v3 b) fun y84=>j4 (!y84) (z8 (qw v3 a) fun y85=>some ((),(y85,()))) (z8 (qv v3 c) fun y86=>j4 (!y86) (z8 (qw v3 a) fun y87=>some ((),(y87,()))) (z8 (qan v3 a b c) fun y88=>z8 (qcr v3 y88) fun D=>z8 (qai a D.Lo D.Hi) fun E=>some ((),((⟨E.2.1.1,E.2.1.2.1⟩:Span),()))))) else (if d=13 then (z8 (qv v3 b) fun y91=>j4 (!y91) (z8 (qw v3 a) fun y92=>some ((),(y92,()))) (z8 (qv v3 c) fun y93=>j4 (!y93) (z8 (qw v3 a) fun y94=>some ((),(y94,()))) (z8 (qan v3 a b c) fun y95=>z8 (qds v3 y95) fun y96=>match y96.2 with| .inl F=>(z8 (qai a F.1.Lo F.1.Hi) fun G=>some ((),((⟨G.2.1.1,G.2.1.2.1⟩:Span),())))| .inr e96=>(z8 (qbd a 0 0) fun H=>some ((),((⟨H.2.1.1,H.2.1.2.1⟩:Span),())))))) else (z8 (qw v3 a) fun y99=>some ((),(y99,()))))))))))))))):=by kernel_rfl
noncomputable def zak0:GSpec TT:=⟨[.b7,.a8,.a9,.a9],[],[.a9],fun x=>qq v3 x.1 x.2.1 x.2.2.1 x.2.2.2.1⟩
def zaj6:GOk TT prog 105 zak0:=ys7 (C:=qq_C) (cuts:=vv2) (D:=qq_D) (by kernel_rfl) zab1 func105 (show f105.body=some (zb0 f105) by kernel_rfl) (by kernel_rfl) (by kernel_rfl) (by kernel_rfl) wm3 wd8 fun x y h=>⟨v3,h⟩
noncomputable def qk7:KF:=⟨cF gj2 (cF wo0 (cF ud8 (cG zaj6 eN))),0,[(20,1)],[([I],qt [0,1,6,7,8]),([O,O,I],qt [0,1,6,7,8,15]),([I,I,O,O,I],qt [0,1,6,7,8,33]),([I,I,I,I,O,O,I],qt [0,1,6,7,8,51]),([I,I,I,I],qt [0,1,6,8,10,11,12,13,14]),([O,O,I,I,I,I,I],qt [0,1,6,8,10,11,12,13,14,90]),([I,I,O,O,I,I,I,I,I],qt [0,1,6,8,10,12,14,109]),([I,I,I,I,O,O,I,I,I,I,I],qt [0,6,8,12,120]),([O,I,I,I,I,O,O,I,I,I,I,I],qt [0,6,8,12,14,120])],f78,z0,[.b7,.a8,.d3,.d3],[.d3,.a1]⟩
noncomputable def qd (n:Nat) (a:Int) (b:Bool) (c d:Known):Option u16:=tF qk7 n (a,b,c,d)
noncomputable def vj7 (n:Nat) (k:Int) (l j:Bool) (a b c d e f g h i:Int):Option u16:=uF qk7 n [O,O,I] ⟨[(0,cu8 k),(1,cb l),(6,.ptr 0 0),(7,.ptr 1 0),(8,.ptr 2 0),(15,cb j)],[.k2 a b c,.k2 d e f,.k2 g h i]⟩
noncomputable def qo4 (n:Nat) (k:Int) (l j:Bool) (a b c d e f g h i:Int):Option u16:=uF qk7 n [I,I,O,O,I] ⟨[(0,cu8 k),(1,cb l),(6,.ptr 0 0),(7,.ptr 1 0),(8,.ptr 2 0),(33,cb j)],[.k2 a b c,.k2 d e f,.k2 g h i]⟩
noncomputable def gv5 (n:Nat) (k:Int) (l j:Bool) (a b c d e f g h i:Int):Option u16:=uF qk7 n [I,I,I,I,O,O,I] ⟨[(0,cu8 k),(1,cb l),(6,.ptr 0 0),(7,.ptr 1 0),(8,.ptr 2 0),(51,cb j)],[.k2 a b c,.k2 d e f,.k2 g h i]⟩
noncomputable def ve5 (n:Nat) (j:Int) (k:Bool) (a b c d e f g h i:Int):Option u16:=uF qk7 n [I] ⟨[(0,cu8 j),(1,cb k),(6,.ptr 0 0),(7,.ptr 1 0),(8,.ptr 2 0)],[.k2 a b c,.k2 d e f,.k2 g h i]⟩
noncomputable def qm3 (n:Nat) (o:Int) (p k l m:Bool) (a b c d e f g h i j:Int):Option u16:=uF qk7 n [I,I,I,I] ⟨[(0,cu8 o),(1,cb p),(6,.ptr 0 0),(8,.ptr 1 0),(10,.ptr 2 0),(11,cb k),(12,.ptr 3 0),(13,cb l),(14,cb m)],[.k2 a b c,.k2 d e f,.k3 g h,.k3 i j]⟩
noncomputable def qo3 (n:Nat) (p:Int) (q k l m o:Bool) (a b c d e f g h i j:Int):Option u16:=uF qk7 n [O,O,I,I,I,I,I] ⟨[(0,cu8 p),(1,cb q),(6,.ptr 0 0),(8,.ptr 1 0),(10,.ptr 2 0),(11,cb k),(12,.ptr 3 0),(13,cb l),(14,cb m),(90,cb o)],[.k2 a b c,.k2 d e f,.k3 g h,.k3 i j]⟩
noncomputable def gy0 (n:Nat) (m:Int) (o l a:Bool) (b c d e f g h i j k:Int):Option u16:=uF qk7 n [I,I,O,O,I,I,I,I,I] ⟨[(0,cu8 m),(1,cb o),(6,.ptr 0 0),(8,.ptr 1 0),(10,.ptr 2 0),(12,.ptr 3 0),(14,cb l),(109,cb a)],[.k2 b c d,.k2 e f g,.k3 h i,.k3 j k]⟩
noncomputable def gz5 (n:Nat) (k:Int) (j a:Bool) (b c d e f g h i:Int):Option u16:=uF qk7 n [O,I,I,I,I,O,O,I,I,I,I,I] ⟨[(0,cu8 k),(6,.ptr 0 0),(8,.ptr 1 0),(12,.ptr 2 0),(14,cb j),(120,cb a)],[.k2 b c d,.k2 e f g,.k3 h i]⟩
noncomputable def vf5 (n:Nat) (j:Int) (a:Bool) (b c d e f g h i:Int):Option u16:=uF qk7 n [I,I,I,I,O,O,I,I,I,I,I] ⟨[(0,cu8 j),(6,.ptr 0 0),(8,.ptr 1 0),(12,.ptr 2 0),(120,cb a)],[.k2 b c d,.k2 e f g,.k3 h i]⟩
def zaf7 (n c d a b):qd n c d a b=j4 (decide (c<1)) (vj7 n c d true a.Kind a.In_Lo a.In_Hi b.Kind b.In_Lo b.In_Hi 0 0 0) (j4 (decide (c>13)) (vj7 n c d true a.Kind a.In_Lo a.In_Hi b.Kind b.In_Lo b.In_Hi 0 0 0) (z8 (qaq v3 a) fun e=>j4 (!e) (vj7 n c d true a.Kind a.In_Lo a.In_Hi b.Kind b.In_Lo b.In_Hi 0 0 0) (z8 (qaq v3 b) fun f=>vj7 n c d (!f) a.Kind a.In_Lo a.In_Hi b.Kind b.In_Lo b.In_Hi 0 0 0))):=by kernel_rfl
def ge8 (n j k l b c d a e f g h i):vj7 (n+1) j k l b c d a e f g h i=j4 l (some ((⟨0,0,0⟩:Known),2)) (j4 (j != 12) (j4 (b==0) (qo4 n j k true b c d a e f g h i) (j4 (j != 13) (qo4 n j k (a==0) b c d a e f g h i) (qo4 n j k false b c d a e f g h i))) (j4 (j != 13) (qo4 n j k (a==0) b c d a e f g h i) (qo4 n j k false b c d a e f g h i))):=by kernel_rfl
def ky0 (n k l j a b c d e f g h i):qo4 (n+1) k l j a b c d e f g h i=j4 j (some ((⟨0,0,0⟩:Known),110)) (j4 (k==12) (gv5 n k l (!l) a b c d e f g h i) (gv5 n k l false a b c d e f g h i)):=by kernel_rfl
def gc1 (n j l k d e f a b c g h i):gv5 (n+1) j l k d e f a b c g h i=j4 k (some ((⟨a,b,c⟩:Known),0)) (j4 (j==12) (ve5 n j l a b c a b c g h i) (j4 (j==13) (ve5 n j l d e f d e f g h i) (ve5 n j l d e f a b c g h i))):=by kernel_rfl
def ge3 (n i j a b c k l m d e f):ve5 (n+1) i j a b c k l m d e f=z8 (ql v3 (⟨a,b,c⟩:Known)) fun h=>z8 (ql v3 (⟨k,l,m⟩:Known)) fun g=>j4 (i==1) (j4 (!j) (qm3 n i j h.2 g.2 g.2 a b c d e f h.1.Lo h.1.Hi g.1.Lo g.1.Hi) (qm3 n i j h.2 g.2 false a b c d e f h.1.Lo h.1.Hi g.1.Lo g.1.Hi)) (j4 (i==2) (j4 (!j) (qm3 n i j h.2 g.2 g.2 a b c d e f h.1.Lo h.1.Hi g.1.Lo g.1.Hi) (qm3 n i j h.2 g.2 false a b c d e f h.1.Lo h.1.Hi g.1.Lo g.1.Hi)) (qm3 n i j h.2 g.2 false a b c d e f h.1.Lo h.1.Hi g.1.Lo g.1.Hi)):=by kernel_rfl
def gc8 (n o p k l m c d e f g h i j a b):qm3 (n+1) o p k l m c d e f g h i j a b=j4 k (j4 l (j4 (o==4) (z8 (qbz v3 (⟨a,b⟩:Span) p) fun q=>qo3 n o p k l m q c d e f g h i j a b) (j4 (o==5) (z8 (qbz v3 (⟨a,b⟩:Span) p) fun r=>qo3 n o p k l m r c d e f g h i j a b) (qo3 n o p k l m false c d e f g h i j a b))) (qo3 n o p k l m false c d e f g h i j a b)) (qo3 n o p k l m false c d e f g h i j a b):=by kernel_rfl
def gf2 (n p q l m k o a b c d e f g h i j):qo3 (n+1) p q l m k o a b c d e f g h i j=j4 o (some ((⟨0,0,0⟩:Known),113)) (j4 l (gy0 n p q k m a b c d e f g h i j) (gy0 n p q k false a b c d e f g h i j)):=by kernel_rfl
def kz8 (n m o i j a d e f g h k l b c):gy0 (n+1) m o i j a d e f g h k l b c=j4 j (z8 (qq v3 m o (⟨k,l⟩:Span) (⟨b,c⟩:Span)) fun p=>some ((⟨1,p.2.1.Lo,p.2.1.Hi⟩:Known),0)) (j4 i (gz5 n m i (a==2) a d e f g h b c) (gz5 n m i false a d e f g h b c)):=by kernel_rfl
def ky4 (n j k i a d e f g h b c):gz5 (n+1) j k i a d e f g h b c=j4 i (vf5 n j i a d e f g h b c) (j4 k (j4 (a==3) (vf5 n j (b==c) a d e f g h b c) (vf5 n j false a d e f g h b c)) (vf5 n j false a d e f g h b c)):=by kernel_rfl
def ky9 (n j a b c d g h i e f):vf5 (n+1) j a b c d g h i e f=j4 a (z8 (qq v3 j false (⟨c,d⟩:Span) (⟨e,f⟩:Span)) fun k=>some ((⟨b,k.2.1.Lo,k.2.1.Hi⟩:Known),0)) (some ((⟨0,0,0⟩:Known),114)):=by kernel_rfl
def zae7:=okF qk7 func78
end Go.X
