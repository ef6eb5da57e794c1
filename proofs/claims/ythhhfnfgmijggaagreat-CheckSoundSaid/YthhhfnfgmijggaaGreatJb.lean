import Derived.Test.YthhhfnfgmijggaaGreatJa
set_option linter.defProp false
namespace Go.X
open Go.RowKit Go.V Go.Proofs Tryz
noncomputable section
def wb3:KG:=⟨eN,0,[],[],f29,n0,[.b5],[],[.fn 56 [] []]⟩
def qdy (n:Nat) (a:Int):Option u7:=tG wb3 n (a,())
def ux9 (n a):qdy n a=if a=12 then (some ((),(((),()),()))) else (if a=13 then (none) else (if a=14 then (none) else (if a=15 then (none) else (if a=16 then (none) else (if a=28 then (none) else (z9 (decide (a<12)) (none) (none))))))):=by kernel_rfl
def uy0:=okG wb3 func29
def wb4:KG:=⟨eN,0,[],[],f29,n0,[.b5],[],[.fn 57 [] []]⟩
def qdz (n:Nat) (a:Int):Option u7:=tG wb4 n (a,())
def uy1 (n a):qdz n a=if a=12 then (none) else (if a=13 then (some ((),(((),()),()))) else (if a=14 then (none) else (if a=15 then (none) else (if a=16 then (none) else (if a=28 then (none) else (z9 (decide (a<12)) (none) (none))))))):=by kernel_rfl
def uy2:=okG wb4 func29
def wb5:KG:=⟨eN,0,[],[],f29,n0,[.b5],[],[.fn 58 [] []]⟩
def qea (n:Nat) (a:Int):Option u7:=tG wb5 n (a,())
def uy3 (n a):qea n a=if a=12 then (none) else (if a=13 then (none) else (if a=14 then (some ((),(((),()),()))) else (if a=15 then (none) else (if a=16 then (none) else (if a=28 then (none) else (z9 (decide (a<12)) (none) (none))))))):=by kernel_rfl
def uy4:=okG wb5 func29
def wb6:KG:=⟨eN,0,[],[],f29,n0,[.b5],[],[.fn 59 [] []]⟩
def qeb (n:Nat) (a:Int):Option u7:=tG wb6 n (a,())
def uy5 (n a):qeb n a=if a=12 then (none) else (if a=13 then (none) else (if a=14 then (none) else (if a=15 then (some ((),(((),()),()))) else (if a=16 then (none) else (if a=28 then (none) else (z9 (decide (a<12)) (none) (none))))))):=by kernel_rfl
def uy6:=okG wb6 func29
def wb7:KG:=⟨eN,0,[],[],f29,n0,[.b5],[],[.fn 60 [] []]⟩
def qec (n:Nat) (a:Int):Option u7:=tG wb7 n (a,())
def uy7 (n a):qec n a=if a=12 then (none) else (if a=13 then (none) else (if a=14 then (none) else (if a=15 then (none) else (if a=16 then (some ((),(((),()),()))) else (if a=28 then (none) else (z9 (decide (a<12)) (none) (none))))))):=by kernel_rfl
def uy8:=okG wb7 func29
def wb8:KG:=⟨eN,0,[],[],f29,n0,[.b5],[],[.fn 61 [] []]⟩
def qed (n:Nat) (a:Int):Option u7:=tG wb8 n (a,())
def uy9 (n a):qed n a=if a=12 then (none) else (if a=13 then (none) else (if a=14 then (none) else (if a=15 then (none) else (if a=16 then (none) else (if a=28 then (some ((),(((),()),()))) else (z9 (decide (a<12)) (none) (none))))))):=by kernel_rfl
def uz0:=okG wb8 func29
def wb9:KG:=⟨eN,0,[],[],f29,n0,[.b5],[],[.fn 62 [] []]⟩
def qee (n:Nat) (a:Int):Option u7:=tG wb9 n (a,())
def uz1 (n a):qee n a=if a=12 then (none) else (if a=13 then (none) else (if a=14 then (none) else (if a=15 then (none) else (if a=16 then (none) else (if a=28 then (none) else (z9 (decide (a<12)) (some ((),(((),()),()))) (none))))))):=by kernel_rfl
def uz2:=okG wb9 func29
def wc0:KG:=⟨eN,0,[],[],f29,n0,[.b5],[],[.fn 63 [] []]⟩
def qef (n:Nat) (a:Int):Option u7:=tG wc0 n (a,())
def uz3 (n a):qef n a=if a=12 then (none) else (if a=13 then (none) else (if a=14 then (none) else (if a=15 then (none) else (if a=16 then (none) else (if a=28 then (none) else (z9 (decide (a<12)) (none) (some ((),(((),()),()))))))))):=by kernel_rfl
def uz4:=okG wc0 func29
def ji1 (a:Int):Bool:=(decide (a=12))
def ji2 (a:Int):Bool:=((!(decide (a=12)))&&(decide (a=13)))
def ji3 (a:Int):Bool:=((!(decide (a=12)))&&((!(decide (a=13)))&&(decide (a=14))))
def ji4 (a:Int):Bool:=((!(decide (a=12)))&&((!(decide (a=13)))&&((!(decide (a=14)))&&(decide (a=15)))))
def ji5 (a:Int):Bool:=((!(decide (a=12)))&&((!(decide (a=13)))&&((!(decide (a=14)))&&((!(decide (a=15)))&&(decide (a=16))))))
def ji6 (a:Int):Bool:=((!(decide (a=12)))&&((!(decide (a=13)))&&((!(decide (a=14)))&&((!(decide (a=15)))&&((!(decide (a=16)))&&(decide (a=28)))))))
def ji7 (a:Int):Bool:=((!(decide (a=12)))&&((!(decide (a=13)))&&((!(decide (a=14)))&&((!(decide (a=15)))&&((!(decide (a=16)))&&((!(decide (a=28)))&&(decide (a<12))))))))
def wm0:KG:=⟨eN,2,[],[([O,I,O,I],qt [0,7,8,9])],f84,n0,[.a5,.d2],[.a4,.d2],[.a1]⟩
abbrev uc8:=Option ((u2×List Int×Unit)×u1)
def qh (n:Nat) (a:List Val) (b:List Int) (c:List Bool) (d:List Int) (e:Int) (f:List Int):uc8:=tG wm0 n ((a,b,c,d,e,(),()),f,())
def kq0 (n:Nat) (f g:Int) (a:List Val) (b:List Int) (c:List Bool) (d:List Int) (e:Int) (h:List Int):uc8:=uG wm0 n [O,I,O,I] ⟨[(0,.ptr 0 0),(7,.own 1),(8,ci f),(9,ci g)],[.k4 a b c d e,.row 3 (.int .i64) h]⟩
def zao6 (n b c d e f a):qh n b c d e f a=kq0 n (a.length:Int) 0 b c d e f a:=by kernel_rfl
def gc0 (n h f a b c d e g):kq0 (n+1) h f a b c d e g=z9 (decide (f<h)) (if 0<=f/\f<(g.length:Int) then (if 0<=g.getD f.toNat 0/\g.getD f.toNat 0<(11:Int) then (z9 (((a.getD ((g.getD f.toNat 0).toNat) zf1).kind)==0) (some (((a,b,c,d,e,(),()),g,()),(110,()))) (kq0 n h (IntKind.i64.wrap (f+1)) a b c d e g)) else none) else none) (some (((a,b,c,d,e,(),()),g,()),(0,()))):=by kernel_rfl
def zao7:=okG wm0 func84
def qu2: ∀(n f g a b c d e i) (y),kq0 n f g a b c d e i=some y->y.1.1=(a,b,c,d,e,(),()):=by
 intro n;induction n with
 |zero=>
  intro f g a b c d e i y h;exact absurd h (by intro h;cases h)
 |succ n j=>
  intro f g a b c d e i y h;rw [gc0] at h
  try simp only [z9] at h
  repeat' split at h
  all_goals first|(cases h;done)|(cases h;rfl)|exact j _ _ _ _ _ _ _ _ _ h
def gc1 (n a b c d e f) (y) (h:qh n a b c d e f=some y):y.1.1=(a,b,c,d,e,(),()):=by
 rw [zao6] at h
 try simp only [z9] at h
 repeat' split at h
 all_goals first|(cases h;done)|(cases h;rfl)|exact qu2 _ _ _ _ _ _ _ _ _ _ h
def qh_ksp:KSpec TT:=⟨0,88,[.arr (.user 8) 11,.e6,.e3,.c1,.a1,.nilp],[.d2],[.d2],[.a1],(sG wm0).g⟩
def yt3: ∀x y,qh_ksp.g x=some y->y.1.1=x.1:=by
 intro x y h;have e:qh_ksp.g x=qh v3 x.1.1 x.1.2.1 x.1.2.2.1 x.1.2.2.2.1 x.1.2.2.2.2.1 x.2.1:=by kernel_rfl
 exact gc1 v3 x.1.1 x.1.2.1 x.1.2.2.1 x.1.2.2.2.1 x.1.2.2.2.2.1 x.2.1 y (e.symm.trans h)
def zai0:qh_ksp.toG=(sG wm0):=by kernel_rfl
def jl7:GOk TT prog 84 qh_ksp.toG:=zai0▸zao7
def wu3:KF:=⟨eN,0,[],[],f87,z0,[.a1],[.a2]⟩
def qcf (n:Nat) (a:Int):Option (Int):=tF wu3 n a
def qq2 (n a):qcf n a=some (IntKind.u64.wrap a):=by kernel_rfl
def qq3:=okF wu3 func87
def wm1:KG:=⟨eN,1,[],[([O,I,O,I],⟨[0,7,8,9],[(7,3,.int .i64)],false,[],0,false⟩)],f84,n0,[.a5,.nils],[.a4],[.a1]⟩
abbrev ud0:=Option u13
def qj (n:Nat) (a:List Val) (b:List Int) (c:List Bool) (d:List Int) (e:Int):ud0:=tG wm1 n ((a,b,c,d,e,(),()),(),())
def kq1 (n:Nat) (f g:Int) (a:List Val) (b:List Int) (c:List Bool) (d:List Int) (e:Int) (h:List Int):ud0:=uG wm1 n [O,I,O,I] ⟨[(0,.ptr 0 0),(7,.own 1),(8,ci f),(9,ci g)],[.k4 a b c d e,.row 3 (.int .i64) h]⟩
def zao9 (n a b c d e):qj n a b c d e=kq1 n 0 0 a b c d e ([]:List Int):=by kernel_rfl
def gc2 (n h f a b c d e g):kq1 (n+1) h f a b c d e g=z9 (decide (f<h)) (if 0<=f/\f<(g.length:Int) then (if 0<=g.getD f.toNat 0/\g.getD f.toNat 0<(11:Int) then (z9 (((a.getD ((g.getD f.toNat 0).toNat) zf1).kind)==0) (some (((a,b,c,d,e,(),()),()),(110,()))) (kq1 n h (IntKind.i64.wrap (f+1)) a b c d e g)) else none) else none) (some (((a,b,c,d,e,(),()),()),(0,()))):=by kernel_rfl
def zap0:=okG wm1 func84
def qu3: ∀(n f g a b c d e i) (y),kq1 n f g a b c d e i=some y->y.1.1=(a,b,c,d,e,(),()):=by
 intro n;induction n with
 |zero=>
  intro f g a b c d e i y h;exact absurd h (by intro h;cases h)
 |succ n j=>
  intro f g a b c d e i y h;rw [gc2] at h
  try simp only [z9] at h
  repeat' split at h
  all_goals first|(cases h;done)|(cases h;rfl)|exact j _ _ _ _ _ _ _ _ _ h
def gc3 (n a b c d e) (y) (h:qj n a b c d e=some y):y.1.1=(a,b,c,d,e,(),()):=by
 rw [zao9] at h
 try simp only [z9] at h
 repeat' split at h
 all_goals first|(cases h;done)|(cases h;rfl)|exact qu3 _ _ _ _ _ _ _ _ _ _ h
def qj_ksp:KSpec TT:=⟨0,88,[.arr (.user 8) 11,.e6,.e3,.c1,.a1,.nilp],[.nils],[],[.a1],(sG wm1).g⟩
def yt4: ∀x y,qj_ksp.g x=some y->y.1.1=x.1:=by
 intro x y h;have e:qj_ksp.g x=qj v3 x.1.1 x.1.2.1 x.1.2.2.1 x.1.2.2.2.1 x.1.2.2.2.2.1:=by kernel_rfl
 exact gc3 v3 x.1.1 x.1.2.1 x.1.2.2.1 x.1.2.2.2.1 x.1.2.2.2.2.1 y (e.symm.trans h)
def zai1:qj_ksp.toG=(sG wm1):=by kernel_rfl
def jl8:GOk TT prog 84 qj_ksp.toG:=zai1▸zap0
def wv6:KG:=⟨cE (zk9 jl8 yt4 (zk9 jl7 yt3 (q7 84))) (cF qq3 eN),1,[(2,1)],[],f83,n0,[.a5,.c5,.nils],[.a4],[.val (.user 8),.a1]⟩
def qdb (n:Nat) (a:List Val) (b:List Int) (c:List Bool) (d:List Int) (e:Int) (f:Ins):Option ((u2×Unit)×(Val×Int×Unit)):=tG wv6 n ((a,b,c,d,e,(),()),f,(),())
def uu9 (n b c d e f a):qdb n b c d e f a=z9 (!a.UseImm) (if 0<=a.Src/\a.Src<(11:Int) then (z6 (qh v3 b c d e f ([a.Src]:List Int)) fun g=>some (((b,c,d,e,f,(),()),()),(b.getD a.Src.toNat zf1,g.2.1,()))) else none) (z6 (qcf v3 a.Imm) fun h=>z6 (qj v3 b c d e f) fun i=>some (((b,c,d,e,f,(),()),()),((⟨1,h⟩:Val),i.2.1,()))):=by kernel_rfl
def qq7:=okG wv6 func83
def ko2:KG:=⟨cG qq7 eN,1,[(8,1)],[([I,I],qt [0,3,5]),([I,I,O,O,I,I],qt [0,3,5,17])],f56,n0,[.a5,.c5],[.a4],[.a1]⟩
abbrev vp2:=Option u13
def qao (n:Nat) (a:List Val) (b:List Int) (c:List Bool) (d:List Int) (e:Int) (f:Ins):vp2:=tG ko2 n ((a,b,c,d,e,(),()),f,())
def vp1 (n:Nat) (q:Bool) (a:List Val) (b:List Int) (c:List Bool) (d:List Int) (e f:Int) (g:Bool) (h i:Int) (j:Bool) (k l m o p:Int):vp2:=uG ko2 n [I,I,O,O,I,I] ⟨[(0,.ptr 0 0),(3,.ptr 1 0),(5,.ptr 2 0),(17,cb q)],[.k4 a b c d e,.k1 f g h i j k l m,.k7 o p]⟩
def vp0 (n:Nat) (a:List Val) (b:List Int) (c:List Bool) (d:List Int) (e f:Int) (g:Bool) (h i:Int) (j:Bool) (k l m o p:Int):vp2:=uG ko2 n [I,I] ⟨[(0,.ptr 0 0),(3,.ptr 1 0),(5,.ptr 2 0)],[.k4 a b c d e,.k1 f g h i j k l m,.k7 o p]⟩
def um0 (n c d e f g b):qao n c d e f g b=z6 (qdb v3 c d e f g b) fun a=>z9 (a.2.2.1 != 0) (some (((a.1.1.1,a.1.1.2.1,a.1.1.2.2.1,a.1.1.2.2.2.1,a.1.1.2.2.2.2.1,(),()),()),(a.2.2.1,()))) (z9 b.Narrow (vp1 n (a.2.1.kind != 1) a.1.1.1 a.1.1.2.1 a.1.1.2.2.1 a.1.1.2.2.2.1 a.1.1.2.2.2.2.1 b.Op b.Narrow b.Dst b.Src b.UseImm b.Off b.Imm b.Size a.2.1.kind a.2.1.n) (vp1 n false a.1.1.1 a.1.1.2.1 a.1.1.2.2.1 a.1.1.2.2.2.1 a.1.1.2.2.2.2.1 b.Op b.Narrow b.Dst b.Src b.UseImm b.Off b.Imm b.Size a.2.1.kind a.2.1.n)):=by kernel_rfl
def qf1 (n q a b c d e g f h i j k l m o p):vp1 (n+1) q a b c d e g f h i j k l m o p=z9 q (some (((a,b,c,d,e,(),()),()),(114,()))) (z9 f (vp0 n a b c d e g f h i j k l m o (IntKind.u64.wrap (IntKind.u32.wrap p))) (vp0 n a b c d e g f h i j k l m o p)):=by kernel_rfl
def qf0 (n b c d e f i j a k l m o p g h):vp0 (n+1) b c d e f i j a k l m o p g h=if 0<=a/\a<(11:Int) then (some (((b.set a.toNat (⟨g,h⟩:Val),c,d,e,f,(),()),()),(0,()))) else none:=by kernel_rfl
def um1:=okG ko2 func56
def ua2:KG:=⟨cE (zk9 jl8 yt4 (zk9 jl7 yt3 (q7 84))) (cF vq6 eN),1,[],[],f57,n0,[.a5,.c5],[.a4],[.a1]⟩
def qfq (n:Nat) (a:List Val) (b:List Int) (c:List Bool) (d:List Int) (e:Int) (f:Ins):Option u13:=tG ua2 n ((a,b,c,d,e,(),()),f,())
def zae1 (n b c d e f a):qfq n b c d e f a=z6 (qh v3 b c d e f ([a.Dst]:List Int)) fun g=>z9 (g.2.1 != 0) (some (((b,c,d,e,f,(),()),()),(g.2.1,()))) (if 0<=a.Dst/\a.Dst<(11:Int) then (z9 (((b.getD a.Dst.toNat zf1).kind) != 1) (some (((b,c,d,e,f,(),()),()),(114,()))) (z6 (qcb v3 a.Op a.Narrow ((b.getD a.Dst.toNat zf1).n) 0) fun h=>some (((b.set a.Dst.toNat (⟨(b.getD a.Dst.toNat zf1).kind,h.1⟩:Val),c,d,e,f,(),()),()),(h.2,())))) else none):=by kernel_rfl
def zae2:=okG ua2 func57
def ww1:KF:=⟨cF qq3 eN,0,[],[],f88,z0,[.a2,.c5],[.a1,.a1]⟩
def qdp (n:Nat) (a:Int) (b:Ins):Option (Int×Int):=tF ww1 n (a,b)
def uw6 (n a b):qdp n a b=z6 (qcf v3 b.Off) fun c=>z9 (decide ((IntKind.i64.wrap ((IntKind.i64.wrap (IntKind.u64.wrap (a+c)))+512))<0)) (some (0,112)) (z9 (decide ((IntKind.i64.wrap ((IntKind.i64.wrap (IntKind.u64.wrap (a+c)))+512))>(IntKind.i64.wrap (512-b.Size)))) (some (0,112)) (some (IntKind.i64.wrap ((IntKind.i64.wrap (IntKind.u64.wrap (a+c)))+512),0))):=by kernel_rfl
def gq1:=okF ww1 func88
def kn9:KG:=⟨cE (zk9 jl8 yt4 (zk9 jl7 yt3 (q7 84))) (cF qq3 (cF zaa0 (cF gq1 eN))),1,[(4,1),(24,1)],[([I,I,I,I],qt [0,3,7]),([O,I,O,I,I,I,I,I,I,O,I,O,I,I,I,I],qt [0,3,10,41,42])],f58,n0,[.a5,.c5],[.a4],[.a1]⟩
abbrev vo4:=Option u13
def qai (n:Nat) (a:List Val) (b:List Int) (c:List Bool) (d:List Int) (e:Int) (f:Ins):vo4:=tG kn9 n ((a,b,c,d,e,(),()),f,())
def vo3 (n:Nat) (o:Int) (a:List Val) (b:List Int) (c:List Bool) (d:List Int) (e f:Int) (g:Bool) (h i:Int) (j:Bool) (k l m:Int):vo4:=uG kn9 n [I,I,I,I] ⟨[(0,.ptr 0 0),(3,.ptr 1 0),(7,yk4 o)],[.k4 a b c d e,.k1 f g h i j k l m]⟩
def qp1 (n:Nat) (o p q:Int) (a:List Val) (b:List Int) (c:List Bool) (d:List Int) (e f:Int) (g:Bool) (h i:Int) (j:Bool) (k l m:Int):vo4:=uG kn9 n [O,I,O,I,I,I,I,I,I,O,I,O,I,I,I,I] ⟨[(0,.ptr 0 0),(3,.ptr 1 0),(10,ci o),(41,ci p),(42,ci q)],[.k4 a b c d e,.k1 f g h i j k l m]⟩
def ul0 (n b d e c f a):qai n b d e c f a=z6 (qh v3 b d e c f ([a.Src]:List Int)) fun i=>z9 (i.2.1 != 0) (some (((b,d,e,c,f,(),()),()),(i.2.1,()))) (if 0<=a.Src/\a.Src<(11:Int) then (z9 (((b.getD a.Src.toNat zf1).kind)==1) (some (((b,d,e,c,f,(),()),()),(111,()))) (z9 (((b.getD a.Src.toNat zf1).kind)==2) (z6 (qcf v3 a.Off) fun j=>z6 (qei v3 c (IntKind.i64.wrap (IntKind.u64.wrap (((b.getD a.Src.toNat zf1).n)+j))) a.Size) fun g=>z9 (g.2 != 0) (some (((b,d,e,c,f,(),()),()),(g.2,()))) (vo3 n g.1 b d e c f a.Op a.Narrow a.Dst a.Src a.UseImm a.Off a.Imm a.Size)) (z6 (qdp v3 ((b.getD a.Src.toNat zf1).n) a) fun h=>z9 (h.2 != 0) (some (((b,d,e,c,f,(),()),()),(h.2,()))) (qp1 n h.1 a.Size 0 b d e c f a.Op a.Narrow a.Dst a.Src a.UseImm a.Off a.Imm a.Size)))) else none):=by kernel_rfl
def qe7 (n o b c d e f g h a i j k l m):vo3 (n+1) o b c d e f g h a i j k l m=if 0<=a/\a<(11:Int) then (some (((b.set a.toNat (⟨1,o⟩:Val),c,d,e,f,(),()),()),(0,()))) else none:=by kernel_rfl
def qe8 (n g q h c a b d e i j k l m o p f):qp1 (n+1) g q h c a b d e i j k l m o p f=z9 (decide (h<q)) (if 0<=IntKind.i64.wrap (g+h)/\IntKind.i64.wrap (g+h)<(512:Int) then (z9 (!(b.getD ((IntKind.i64.wrap (g+h)).toNat) false)) (some (((c,a,b,d,e,(),()),()),(110,()))) (qp1 n g q (IntKind.i64.wrap (h+1)) c a b d e i j k l m o p f)) else none) (z6 (qei v3 (List.take 512 (List.drop 0 a)) g f) fun r=>vo3 n r.1 c a b d e i j k l m o p f):=by kernel_rfl
def ul1:=okG kn9 func58
def wv4:KG:=⟨cE (zk9 jl8 yt4 (zk9 jl7 yt3 (q7 84))) (cF qq3 eN),2,[(2,1)],[],f83,n0,[.a5,.c5,.d2],[.a4,.gone],[.val (.user 8),.a1]⟩
def qcz (n:Nat) (a:List Val) (b:List Int) (c:List Bool) (d:List Int) (e:Int) (f:Ins) (g:List Int):Option ((u2×Unit×Unit)×(Val×Int×Unit)):=tG wv4 n ((a,b,c,d,e,(),()),f,g,())
def uu6 (n b c d e f a g):qcz n b c d e f a g=z9 (!a.UseImm) (if 0<=a.Src/\a.Src<(11:Int) then (if (g.length+1)*8<=140737488355328 then (z6 (qh v3 b c d e f (g++([a.Src]:List Int))) fun h=>some (((b,c,d,e,f,(),()),(),()),(b.getD a.Src.toNat zf1,h.2.1,()))) else none) else none) (z6 (qcf v3 a.Imm) fun i=>z6 (qh v3 b c d e f g) fun j=>some (((b,c,d,e,f,(),()),(),()),((⟨1,i⟩:Val),j.2.1,()))):=by kernel_rfl
def vr0:=okG wv4 func83
def vj1:KP:=⟨⟨cG gq3 eN,1,[],[([I],qt [0,1,2]),([O,I],qt [0,1,2,19])],f114,n0,[.b3,.a1,.a1],[.a4],[]⟩,.ifc 26 (.val (.int .i64))⟩
abbrev vp3:=Option ((u2×Unit)×u18)
def qap (n:Nat) (a:List Val) (b:List Int) (c:List Bool) (d:List Int) (e:Int) (f g:Nat) (h i:Int):vp3:=tP vj1 n (((a,b,c,d,e,(),()),f,g),h,i,())
def jy0 (n f g:Nat) (i j:Int) (h:Bool) (a:List Val) (b:List Int) (c:List Bool) (d:List Int) (e:Int):vp3:=uP vj1 n [O,I] ⟨[(0,.asl 0 22 1 512 f g),(1,ci i),(2,ci j),(19,cb h)],[.k4 a b c d e]⟩
def gl0 (n f g:Nat) (h i:Int) (a:List Val) (b:List Int) (c:List Bool) (d:List Int) (e:Int):vp3:=uP vj1 n [I] ⟨[(0,.asl 0 22 1 512 f g),(1,ci h),(2,ci i)],[.k4 a b c d e]⟩
def um2 (n b c d e f g h i a):qap n b c d e f g h i a=z6 (qds v3) fun j=>z9 (decide (a<0)) (jy0 n g h i a true b c d e f) (z9 (decide (a>=9)) (jy0 n g h i a true b c d e f) (if 0<=a/\a<(9:Int) then (jy0 n g h i a (!(j.2.1.getD a.toNat false)) b c d e f) else none)):=by kernel_rfl
def kg5 (n f g i j h a b c d e):jy0 (n+1) f g i j h a b c d e=z9 h (some (((a,b,c,d,e,(),()),()),.inr (2,()))) (gl0 n f g i j a b c d e):=by kernel_rfl
def kg4 (n g f h i a b c d e):gl0 (n+1) g f h i a b c d e=z9 (decide (h<0)) (some (((a,b,c,d,e,(),()),()),.inr (112,()))) (z9 (decide (h>(IntKind.i64.wrap ((f:Int)-i)))) (some (((a,b,c,d,e,(),()),()),.inr (112,()))) (some (((a,b,c,d,e,(),()),()),.inl ()))):=by kernel_rfl
def um3:=okP vj1 func114
def qam_C:Ctx TT:=⟨yk9,[(114,(sP vj1).toCall ((sP qo9).toCall (za8 TT))),(115,(sG kp7).toCall (za8 TT))],5,[(4,1)],zo5,yk6⟩
def wj6:zb4 TT prog qam_C.E:=zn0 (za9 um3 (za9 gk7 (q7 114))) (zn0 (v9 gp0 (q7 115)) (zh9))
def vo9:RfP TT:=⟨2,172,(wq9 3 2),[12,0,3]⟩
def qam (a:List Val) (b:List Int) (c:List Bool) (d:List Int) (e:Int) (f g:Nat) (h i j:Int):Option ((u19×u2×u1×u1×u1×Unit)×u18):=topR TT prog qam_C f116 (w5 f116) ⟨[],[],[],[],[]⟩ [.ptr 0 23 [.b3],.c9,.d1,.b6] [.e5,.a4,.d4,.d5,.b9] [] (.ifc 26 (.val (.int .i64))) vo9 ((((a,b,c,d,e,(),()),f,g),()),(h,()),(i,()),(j,()),())
def jx9 (m k:Nat) (a:Nat) (b:Nat) (c:List Val) (d:List Int) (e:List Bool) (f:List Int) (g:Int) (h:Int) (i:Int) (j:Int) (l:Int) (n:Int):Option ((u19×u2×u1×u1×u1×Unit)×u18):=vy3 TT prog qam_C f116 (w5 f116) ⟨[],[],[],[],[]⟩ [.e5,.a4,.d4,.d5,.b9] [] (.ifc 26 (.val (.int .i64))) vo9 [.ptr 5 0,.ptr 6 0] m k (⟨[(12,.fn (.func 172) [] [.ptr 5 0,.ptr 6 0]),(0,.ptr 0 0),(3,.ptr 4 0)],[.blk 23 [.asl 1 22 1 512 a b],.blk 88 [.arr (.user 8) 11 c,.arr (.int .u8) 512 d,.arr (.bool) 512 e,.cell ⟨.list (.int .u8),f⟩,.cell ⟨.int .i64,g⟩,.raw (.pointer none)],.blk 2 [.cell ⟨.int .i64,h⟩],.blk 3 [.cell ⟨.int .i64,i⟩],.blk 49 [.cell ⟨.int .u64,j⟩],.blk 3 [.cell ⟨.int .i64,l⟩],.blk 2 [.cell ⟨.int .i64,n⟩]]⟩:St TT)
def qu1 (k a b c d e f g h i j l m):jx9 0 k a b c d e f g h i j l m=some ((((a,b),()),(c,d,e,f,g,(),()),(h,()),(i,()),(j,()),()),.inl ()):=by kernel_rfl
def qu0 (m k b c e f g i j l n h d a):jx9 (m+1) k b c e f g i j l n h d a=if IntKind.i64.wrap (8*IntKind.i64.wrap (IntKind.i64.wrap (d-1)-(k:Int)))<0 then none else (if 0<=IntKind.i64.wrap (a+(k:Int))/\IntKind.i64.wrap (a+(k:Int))<(c:Int) then (jx9 m (k+1) b c e (f.set (b+((IntKind.i64.wrap (a+(k:Int))).toNat)) (IntKind.u8.wrap (zb1 .u64 h (IntKind.i64.wrap (8*IntKind.i64.wrap (IntKind.i64.wrap (d-1)-(k:Int))))))) g i j l n h d a) else none):=by kernel_rfl
def ul8 (h i j k l d e b c g):qam h i j k l d e b c g=z6 (qap v3 h i j k l d e b c) fun a=>match a.2 with| .inl n=>(z6 (qda v3 b c) fun f=>match z9 (decide (f.2.1.2.1.1<=8)) (some f.2.1.2.1.1.toNat) none with|some N=>jx9 N 0 d e a.1.1.1 a.1.1.2.1 a.1.1.2.2.1 a.1.1.2.2.2.1 a.1.1.2.2.2.2.1 b c g f.2.1.2.1.1 f.2.1.2.2.1.1|none=>none)| .inr m=>(some ((((d,e),()),(a.1.1.1,a.1.1.2.1,a.1.1.2.2.1,a.1.1.2.2.2.1,a.1.1.2.2.2.2.1,(),()),(b,()),(c,()),(g,()),()),.inr (m.1,()))):=by kernel_rfl
def qam_sp:PSpec TT:=⟨[.ptr 0 23 [.b3],.c9,.d1,.b6],[.e5,.a4,.d4,.d5,.b9],[],.ifc 26 (.val (.int .i64)),fun x=>qam x.1.1.1.1 x.1.1.1.2.1 x.1.1.1.2.2.1 x.1.1.1.2.2.2.1 x.1.1.1.2.2.2.2.1 x.1.1.2.1 x.1.1.2.2 x.2.1.1 x.2.2.1.1 x.2.2.2.1.1⟩
def ul9:POk TT prog 116 qam_sp:=vv6 (C:=qam_C) (D:=vo9) (by kernel_rfl) wj6 func116 (show f116.body=some (w5 f116) by kernel_rfl) (by kernel_rfl) (by kernel_rfl) (by kernel_rfl) qe1 fun x y h=>h
def qbn_C:Ctx TT:=⟨yk9,[(116,qam_sp.toCall (za8 TT))],5,[],zo5,yk6⟩
def wk5:zb4 TT prog qbn_C.E:=zn0 (za9 ul9 (q7 116)) (zh9)
def va0:List (Pos×Cut):= []
def wt6:DefP TT:=⟨1,3,[3,0,2],6,170,[(5,0)],ql2,ql3⟩
def qbn (n:Nat) (a:List Val) (b:List Int) (c:List Bool) (d:List Int) (e:Int) (f g:Nat) (h i j:Int):Option ((u19×u2×u1×u1×u1×Unit)×u1):=vl6 prog qbn_C va0 f112 (w5 f112) ⟨[],[],[],[],[]⟩ [.fn 116 [] [.ptr 0 23 [.b3],.c9,.d1,.b6]] [.e5,.a4,.d4,.d5,.b9] [.a1] wt6 n (((),((((a,b,c,d,e,(),()),f,g),()),(h,()),(i,()),(j,()),())),())
def up5 (n b c d e f g h i j k):qbn n b c d e f g h i j k=z6 (qam b c d e f g h i j k) fun a=>match a.2 with| .inl p=>(z6 (qbx 0) fun l=>some ((((a.1.1.1.1,a.1.1.1.2),()),(a.1.2.1.1,a.1.2.1.2.1,a.1.2.1.2.2.1,a.1.2.1.2.2.2.1,a.1.2.1.2.2.2.2.1,(),()),(a.1.2.2.1.1,()),(a.1.2.2.2.1.1,()),(a.1.2.2.2.2.1.1,()),()),(l.1.1,())))| .inr m=>(z6 (qby 0 m.1) fun o=>some ((((a.1.1.1.1,a.1.1.1.2),()),(a.1.2.1.1,a.1.2.1.2.1,a.1.2.1.2.2.1,a.1.2.1.2.2.2.1,a.1.2.1.2.2.2.2.1,(),()),(a.1.2.2.1.1,()),(a.1.2.2.2.1.1,()),(a.1.2.2.2.2.1.1,()),()),(o.1.1,()))):=by kernel_rfl
def up7:GSpec TT:=⟨[.fn 116 [] [.ptr 0 23 [.b3],.c9,.d1,.b6]],[.e5,.a4,.d4,.d5,.b9],[.a1],fun x=>qbn v3 x.1.2.1.1.1.1 x.1.2.1.1.1.2.1 x.1.2.1.1.1.2.2.1 x.1.2.1.1.1.2.2.2.1 x.1.2.1.1.1.2.2.2.2.1 x.1.2.1.1.2.1 x.1.2.1.1.2.2 x.1.2.2.1.1 x.1.2.2.2.1.1 x.1.2.2.2.2.1.1⟩
def up6:GOk TT prog 112 up7:=ye2 (C:=qbn_C) (cuts:=va0) (D:=wt6) (by kernel_rfl) wk5 func112 (show f112.body=some (w5 f112) by kernel_rfl) (by kernel_rfl) (by kernel_rfl) (by kernel_rfl) vw4 vw5 fun x y h=>⟨v3,h⟩
def ua4:KG:=⟨cE (v9 up6 (v9 gm7 (q7 112))) eN,1,[],[],f89,n0,[.b3,.a1,.a1,.a2],[.a4],[.a1]⟩
def qfs (n:Nat) (a:List Val) (b:List Int) (c:List Bool) (d:List Int) (e:Int) (f g:Nat) (h i j:Int):Option u13:=tG ua4 n (((a,b,c,d,e,(),()),f,g),h,i,j,())
def zae5 (n b c d e f g h i j k):qfs n b c d e f g h i j k=z6 (qbn v3 b c d e f g h i j k) fun a=>some (((a.1.2.1.1,a.1.2.1.2.1,a.1.2.1.2.2.1,a.1.2.1.2.2.2.1,a.1.2.1.2.2.2.2.1,(),()),()),(a.2.1,())):=by kernel_rfl
def zae6:=okG ua4 func89
def ko0:KG:=⟨cE (v9 vr0 (v9 qq7 (q7 83))) (cF gq1 (cG zae6 eN)),1,[(2,1),(17,1)],[([I,I,I,I,O,O,I,I,I],qt [0,3,5,7,34]),([O,I,O,I,I,I,I,I,I],qt [0,3,5,8,54,55])],f59,n0,[.a5,.c5],[.a4],[.a1]⟩
abbrev vo5:=Option u13
def qaj (n:Nat) (a:List Val) (b:List Int) (c:List Bool) (d:List Int) (e:Int) (f:Ins):vo5:=tG ko0 n ((a,b,c,d,e,(),()),f,())
def qp2 (n:Nat) (s:Bool) (a:List Val) (b:List Int) (c:List Bool) (d:List Int) (e f:Int) (g:Bool) (h i:Int) (j:Bool) (k l m o p q r:Int):vo5:=uG ko0 n [I,I,I,I,O,O,I,I,I] ⟨[(0,.ptr 0 0),(3,.ptr 1 0),(5,.ptr 2 0),(7,.ptr 3 0),(34,cb s)],[.k4 a b c d e,.k1 f g h i j k l m,.k7 o p,.k7 q r]⟩
def qp3 (n:Nat) (s q r:Int) (a:List Val) (b:List Int) (c:List Bool) (d:List Int) (e f:Int) (g:Bool) (h i:Int) (j:Bool) (k l m o p:Int):vo5:=uG ko0 n [O,I,O,I,I,I,I,I,I] ⟨[(0,.ptr 0 0),(3,.ptr 1 0),(5,.ptr 2 0),(8,ci s),(54,ci q),(55,ci r)],[.k4 a b c d e,.k1 f g h i j k l m,.k7 o p]⟩
def ul2 (n c d e f g b):qaj n c d e f g b=z6 (qcz v3 c d e f g b ([b.Dst]:List Int)) fun a=>if 0<=b.Dst/\b.Dst<(11:Int) then (z9 (a.2.2.1 != 0) (some (((a.1.1.1,a.1.1.2.1,a.1.1.2.2.1,a.1.1.2.2.2.1,a.1.1.2.2.2.2.1,(),()),()),(a.2.2.1,()))) (z9 (((a.1.1.1.getD b.Dst.toNat zf1).kind)==2) (some (((a.1.1.1,a.1.1.2.1,a.1.1.2.2.1,a.1.1.2.2.2.1,a.1.1.2.2.2.2.1,(),()),()),(114,()))) (z9 (((a.1.1.1.getD b.Dst.toNat zf1).kind)==1) (qp2 n true a.1.1.1 a.1.1.2.1 a.1.1.2.2.1 a.1.1.2.2.2.1 a.1.1.2.2.2.2.1 b.Op b.Narrow b.Dst b.Src b.UseImm b.Off b.Imm b.Size a.2.1.kind a.2.1.n ((a.1.1.1.getD b.Dst.toNat zf1).kind) ((a.1.1.1.getD b.Dst.toNat zf1).n)) (qp2 n (a.2.1.kind != 1) a.1.1.1 a.1.1.2.1 a.1.1.2.2.1 a.1.1.2.2.2.1 a.1.1.2.2.2.2.1 b.Op b.Narrow b.Dst b.Src b.UseImm b.Off b.Imm b.Size a.2.1.kind a.2.1.n ((a.1.1.1.getD b.Dst.toNat zf1).kind) ((a.1.1.1.getD b.Dst.toNat zf1).n))))) else none:=by kernel_rfl
def kg1 (n r a b c d e g h i j k l m f o p s q):qp2 (n+1) r a b c d e g h i j k l m f o p s q=z9 r (some (((a,b,c,d,e,(),()),()),(111,()))) (z6 (qdp v3 q (⟨g,h,i,j,k,l,m,f⟩:Ins)) fun t=>z9 (t.2 != 0) (some (((a,b,c,d,e,(),()),()),(t.2,()))) (qp3 n t.1 f 0 a b c d e g h i j k l m f o p)):=by kernel_rfl
def qe9 (n s r d a b c e f i j k l m o p g q h):qp3 (n+1) s r d a b c e f i j k l m o p g q h=z9 (decide (d<r)) (if 0<=IntKind.i64.wrap (s+d)/\IntKind.i64.wrap (s+d)<(512:Int) then (qp3 n s r (IntKind.i64.wrap (d+1)) a b (c.set ((IntKind.i64.wrap (s+d)).toNat) true) e f i j k l m o p g q h) else none) (z6 (qfs v3 a b c e f 0 512 s g h) fun t=>some (((t.1.1.1,t.1.1.2.1,t.1.1.2.2.1,t.1.1.2.2.2.1,t.1.1.2.2.2.2.1,(),()),()),(t.2.1,()))):=by kernel_rfl
def ul3:=okG ko0 func59
def ub6:KG:=⟨eN,1,[(1,1)],[],f60,n0,[.a5,.c5],[.a4],[.a1]⟩
def qge (n:Nat) (a:List Val) (b:List Int) (c:List Bool) (d:List Int) (e:Int) (f:Ins):Option u13:=tG ub6 n ((a,b,c,d,e,(),()),f,())
def zag9 (n a b c d e f):qge n a b c d e f=some (((a,b,c,d,IntKind.i64.wrap (e+f.Off),(),()),()),(0,())):=by kernel_rfl
def zah0:=okG ub6 func60
def wc1:KG:=⟨cE (zk9 jl8 yt4 (zk9 jl7 yt3 (q7 84))) eN,1,[],[],f61,n0,[.a5,.c5],[.a4],[.a1]⟩
def qeg (n:Nat) (a:List Val) (b:List Int) (c:List Bool) (d:List Int) (e:Int) (f:Ins):Option u13:=tG wc1 n ((a,b,c,d,e,(),()),f,())
def uz5 (n a b c d e g):qeg n a b c d e g=z6 (qh v3 a b c d e ([0]:List Int)) fun f=>z9 (f.2.1 != 0) (some (((a,b,c,d,e,(),()),()),(f.2.1,()))) (z9 (((a.getD 0 zf1).kind) != 1) (some (((a,b,c,d,e,(),()),()),(111,()))) (none)):=by kernel_rfl
def uz6:=okG wc1 func61
def wc2:KG:=⟨cE (zk9 jl8 yt4 (zk9 jl7 yt3 (q7 84))) eN,1,[],[],f61,n0,[.a5,.c5],[.blk 88 [.arr (.user 8) 11,.e6,.e3,.c1,.a1,.ap 0 0 2 11 1]],[.a1]⟩
def qeh (n:Nat) (a:List Val) (b:List Int) (c:List Bool) (d:List Int) (e:Int) (f:Ins):Option (((List Val×List Int×List Bool×List Int×Int×Nat×Unit)×Unit)×u1):=tG wc2 n ((a,b,c,d,e,(),()),f,())
def uz7 (n a b c d e f):qeh n a b c d e f=z6 (qh v3 a b c d e ([0]:List Int)) fun g=>z9 (g.2.1 != 0) (none) (z9 (((a.getD 0 zf1).kind) != 1) (none) (some (((a,b,c,d,e,0,()),()),(0,())))):=by kernel_rfl
def uz8:=okG wc2 func61
def yd8 (a:List Val) (b:List Int) (c:List Bool) (d:List Int) (e:Int) (g:Ins):Bool:=(match qh v3 a b c d e ([0]:List Int) with|some f=>((f.2.1 != 0)||(((a.getD 0 zf1).kind) != 1))|none=>false)
def kn7:KG:=⟨cE (v9 vr0 (v9 qq7 (q7 83))) (cF vq6 eN),1,[],[([I,I,I,I],qt [3,5,7,8]),([O,I,I,I,I,I],qt [3,5,7,54])],f62,n0,[.a5,.c5],[.a4],[.a1]⟩
abbrev vo0:=Option u13
def qae (n:Nat) (a:List Val) (b:List Int) (c:List Bool) (d:List Int) (e:Int) (f:Ins):vo0:=tG kn7 n ((a,b,c,d,e,(),()),f,())
def jx5 (n q:Nat) (r:Bool) (a:List Val) (b:List Int) (c:List Bool) (d:List Int) (e f:Int) (g:Bool) (h i:Int) (j:Bool) (k l m o p:Int):vo0:=uG kn7 n [I,I,I,I] ⟨[(3,.ptr 1 0),(5,.ptr 2 0),(7,.aptr 0 0 2 11 q 0),(8,cb r)],[.k4 a b c d e,.k1 f g h i j k l m,.k7 o p]⟩
def jx6 (n q:Nat) (r:Bool) (a:List Val) (b:List Int) (c:List Bool) (d:List Int) (e f:Int) (g:Bool) (h i:Int) (j:Bool) (k l m o p:Int):vo0:=uG kn7 n [O,I,I,I,I,I] ⟨[(3,.ptr 1 0),(5,.ptr 2 0),(7,.aptr 0 0 2 11 q 0),(54,cb r)],[.k4 a b c d e,.k1 f g h i j k l m,.k7 o p]⟩
def uk5 (n c d e f g a):qae n c d e f g a=z6 (qcz v3 c d e f g a ([a.Dst]:List Int)) fun b=>z9 (b.2.2.1 != 0) (some (((b.1.1.1,b.1.1.2.1,b.1.1.2.2.1,b.1.1.2.2.2.1,b.1.1.2.2.2.2.1,(),()),()),(b.2.2.1,()))) (if 0<=a.Dst/\a.Dst<(11:Int) then (z9 (a.Op==1) (jx5 n a.Dst.toNat (!a.Narrow) b.1.1.1 b.1.1.2.1 b.1.1.2.2.1 b.1.1.2.2.2.1 b.1.1.2.2.2.2.1 a.Op a.Narrow a.Dst a.Src a.UseImm a.Off a.Imm a.Size b.2.1.kind b.2.1.n) (z9 (a.Op==2) (jx5 n a.Dst.toNat (!a.Narrow) b.1.1.1 b.1.1.2.1 b.1.1.2.2.1 b.1.1.2.2.2.1 b.1.1.2.2.2.2.1 a.Op a.Narrow a.Dst a.Src a.UseImm a.Off a.Imm a.Size b.2.1.kind b.2.1.n) (jx5 n a.Dst.toNat false b.1.1.1 b.1.1.2.1 b.1.1.2.2.1 b.1.1.2.2.2.1 b.1.1.2.2.2.2.1 a.Op a.Narrow a.Dst a.Src a.UseImm a.Off a.Imm a.Size b.2.1.kind b.2.1.n))) else none):=by kernel_rfl
def kf5 (n q r a b c e f g h i j k l m o d p):jx5 (n+1) q r a b c e f g h i j k l m o d p=z9 (d != 1) (jx6 n q true a b c e f g h i j k l m o d p) (z9 (((a.getD q zf1).kind) != 1) (jx6 n q (!r) a b c e f g h i j k l m o d p) (jx6 n q false a b c e f g h i j k l m o d p)):=by kernel_rfl
def kf6 (n f j a b c d e g h k l m o p q r i):jx6 (n+1) f j a b c d e g h k l m o p q r i=z9 j (some (((a,b,c,d,e,(),()),()),(114,()))) (z6 (qcb v3 g h ((a.getD f zf1).n) i) fun s=>z9 (s.2==0) (some (((a.set f (⟨(a.getD f zf1).kind,s.1⟩:Val),b,c,d,e,(),()),()),(s.2,()))) (some (((a,b,c,d,e,(),()),()),(s.2,())))):=by kernel_rfl
def uk6:=okG kn7 func62
def gy9:KG:=⟨cE (v9 vr0 (v9 qq7 (q7 83))) (cF zaa6 eN),1,[(2,1),(9,1)],[([I,I,O,O,I,I,I],qt [0,3,5,7,30])],f63,n0,[.a5,.c5],[.a4],[.a1]⟩
abbrev gn1:=Option u13
def qbm (n:Nat) (a:List Val) (b:List Int) (c:List Bool) (d:List Int) (e:Int) (f:Ins):gn1:=tG gy9 n ((a,b,c,d,e,(),()),f,())
def qp7 (n:Nat) (s:Bool) (a:List Val) (b:List Int) (c:List Bool) (d:List Int) (e f:Int) (g:Bool) (h i:Int) (j:Bool) (k l m o p q r:Int):gn1:=uG gy9 n [I,I,O,O,I,I,I] ⟨[(0,.ptr 0 0),(3,.ptr 1 0),(5,.ptr 2 0),(7,.ptr 3 0),(30,cb s)],[.k4 a b c d e,.k1 f g h i j k l m,.k7 o p,.k7 q r]⟩
def up3 (n c d e f g b):qbm n c d e f g b=z6 (qcz v3 c d e f g b ([b.Dst]:List Int)) fun a=>if 0<=b.Dst/\b.Dst<(11:Int) then (z9 (a.2.2.1 != 0) (some (((a.1.1.1,a.1.1.2.1,a.1.1.2.2.1,a.1.1.2.2.2.1,a.1.1.2.2.2.2.1,(),()),()),(a.2.2.1,()))) (z9 (((a.1.1.1.getD b.Dst.toNat zf1).kind) != 1) (qp7 n true a.1.1.1 a.1.1.2.1 a.1.1.2.2.1 a.1.1.2.2.2.1 a.1.1.2.2.2.2.1 b.Op b.Narrow b.Dst b.Src b.UseImm b.Off b.Imm b.Size a.2.1.kind a.2.1.n ((a.1.1.1.getD b.Dst.toNat zf1).kind) ((a.1.1.1.getD b.Dst.toNat zf1).n)) (qp7 n (a.2.1.kind != 1) a.1.1.1 a.1.1.2.1 a.1.1.2.2.1 a.1.1.2.2.2.1 a.1.1.2.2.2.2.1 b.Op b.Narrow b.Dst b.Src b.UseImm b.Off b.Imm b.Size a.2.1.kind a.2.1.n ((a.1.1.1.getD b.Dst.toNat zf1).kind) ((a.1.1.1.getD b.Dst.toNat zf1).n)))) else none:=by kernel_rfl
def ki0 (n k a b c d e f g l m o h p q r i s j):qp7 (n+1) k a b c d e f g l m o h p q r i s j=z9 k (some (((a,b,c,d,e,(),()),()),(111,()))) (z6 (qel v3 f g j i) fun t=>z9 t.1 (some (((a,b,c,d,IntKind.i64.wrap (e+h),(),()),()),(0,()))) (some (((a,b,c,d,e,(),()),()),(0,())))):=by kernel_rfl
def up4:=okG gy9 func63
def ue0:KF:=⟨cF gp1 (cE (cs:=(CallSpec.forkS [.b5] (fun x=>ji1 x.1) ((sG wb3).toCall (za8 TT)) (CallSpec.forkS [.b5] (fun x=>ji2 x.1) ((sG wb4).toCall (za8 TT)) (CallSpec.forkS [.b5] (fun x=>ji3 x.1) ((sG wb5).toCall (za8 TT)) (CallSpec.forkS [.b5] (fun x=>ji4 x.1) ((sG wb6).toCall (za8 TT)) (CallSpec.forkS [.b5] (fun x=>ji5 x.1) ((sG wb7).toCall (za8 TT)) (CallSpec.forkS [.b5] (fun x=>ji6 x.1) ((sG wb8).toCall (za8 TT)) (CallSpec.forkS [.b5] (fun x=>ji7 x.1) ((sG wb9).toCall (za8 TT)) ((sG wc0).toCall (za8 TT)))))))))) (zc5 _ _ (v9 uy0 (q7 29)) (zc5 _ _ (v9 uy2 (q7 29)) (zc5 _ _ (v9 uy4 (q7 29)) (zc5 _ _ (v9 uy6 (q7 29)) (zc5 _ _ (v9 uy8 (q7 29)) (zc5 _ _ (v9 uz0 (q7 29)) (zc5 _ _ (v9 uz2 (q7 29)) (v9 uz4 (q7 29))))))))) (cG um1 (cG zae2 (cG ul1 (cG ul3 (cG zah0 (cE (cs:=(CallSpec.forkS [.a5,.c5] (fun x=>yd8 x.1.1 x.1.2.1 x.1.2.2.1 x.1.2.2.2.1 x.1.2.2.2.2.1 x.2.1) ((sG wc1).toCall (za8 TT)) ((sG wc2).toCall (za8 TT)))) (zc5 _ _ (v9 uz6 (q7 61)) (v9 uz8 (q7 61))) (cG uk6 (cG up4 eN))))))))),0,[(7,1),(10,1),(13,1)],[([O,O,I,I,I,I,I,I],qt [0,4,6])],f14,z0,[.b2,.c1],[.val (.user 7)]⟩
def qr (n:Nat) (a:List Ins) (b:List Int):Option (Outcome):=tF ue0 n (a,b)
def zw9 (n:Nat) (j:List Ins) (d e f g:Int) (a:List Val) (b:List Int) (c:List Bool) (h:List Int) (i:Int):Option (Outcome):=uF ue0 n [O,O,I,I,I,I,I,I] ⟨[(0,.cell ⟨.list (.user 2),j⟩),(4,.ptr 0 0),(6,.ptr 1 0)],[.k15 d e f g,.k4 a b c h i]⟩
def gt8 (n:Nat) (k:List Ins) (e f g h:Int) (a:List Val) (b:List Int) (c:List Bool) (i:List Int) (j:Int) (d:Nat):Option (Outcome):=uF ue0 n [O,O,I,I,I,I,I,I] ⟨[(0,.cell ⟨.list (.user 2),k⟩),(4,.ptr 0 0),(6,.ptr 1 0)],[.k15 e f g h,.blk 88 [.arr (.user 8) 11 a,.arr (.int .u8) 512 b,.arr (.bool) 512 c,.cell ⟨.list (.int .u8),i⟩,ci j,.aptr 1 0 2 11 d 1]]⟩
def zaq0 (n b a):qr n b a=z6 (qdd v3 b) fun c=>z9 (c.Err != 0) (some (⟨c.Err,c.At,0,0⟩:Outcome)) (z9 (decide ((a.length:Int)>65535)) (some (⟨3,0,0,0⟩:Outcome)) (zw9 n b 0 0 0 0 ((((List.replicate 11 (⟨0,0⟩:Val)).set 1 (⟨2,((List.replicate 11 (⟨0,0⟩:Val)).getD 1 zf1).n⟩:Val)).set 10 (⟨3,(((List.replicate 11 (⟨0,0⟩:Val)).set 1 (⟨2,((List.replicate 11 (⟨0,0⟩:Val)).getD 1 zf1).n⟩:Val)).getD 10 zf1).n⟩:Val)).set 2 (⟨1,IntKind.u64.wrap (a.length:Int)⟩:Val)) (List.replicate 512 0) (List.replicate 512 false) a 0)):=by kernel_rfl
def gd1 (n c h i j b d e f g a):zw9 (n+1) c h i j b d e f g a=if 0<=a/\a<(c.length:Int) then (z9 (decide (((c.getD a.toNat v8).Op)=12)) (z6 (qdy v3 ((c.getD a.toNat v8).Op)) fun u=>z6 (qao v3 d e f g (IntKind.i64.wrap (a+1)) (c.getD a.toNat v8)) fun q=>z9 (q.2.1 != 0) (some (⟨q.2.1,a,0,IntKind.i64.wrap (b+1)⟩:Outcome)) (zw9 n c h i j (IntKind.i64.wrap (b+1)) q.1.1.1 q.1.1.2.1 q.1.1.2.2.1 q.1.1.2.2.2.1 q.1.1.2.2.2.2.1)) (z9 ((!(decide (((c.getD a.toNat v8).Op)=12)))&&(decide (((c.getD a.toNat v8).Op)=13))) (z6 (qdz v3 ((c.getD a.toNat v8).Op)) fun y=>z6 (qfq v3 d e f g (IntKind.i64.wrap (a+1)) (c.getD a.toNat v8)) fun r=>z9 (r.2.1 != 0) (some (⟨r.2.1,a,0,IntKind.i64.wrap (b+1)⟩:Outcome)) (zw9 n c h i j (IntKind.i64.wrap (b+1)) r.1.1.1 r.1.1.2.1 r.1.1.2.2.1 r.1.1.2.2.2.1 r.1.1.2.2.2.2.1)) (z9 ((!(decide (((c.getD a.toNat v8).Op)=12)))&&((!(decide (((c.getD a.toNat v8).Op)=13)))&&(decide (((c.getD a.toNat v8).Op)=14)))) (z6 (qea v3 ((c.getD a.toNat v8).Op)) fun z=>z6 (qai v3 d e f g (IntKind.i64.wrap (a+1)) (c.getD a.toNat v8)) fun s=>z9 (s.2.1 != 0) (some (⟨s.2.1,a,0,IntKind.i64.wrap (b+1)⟩:Outcome)) (zw9 n c h i j (IntKind.i64.wrap (b+1)) s.1.1.1 s.1.1.2.1 s.1.1.2.2.1 s.1.1.2.2.2.1 s.1.1.2.2.2.2.1)) (z9 ((!(decide (((c.getD a.toNat v8).Op)=12)))&&((!(decide (((c.getD a.toNat v8).Op)=13)))&&((!(decide (((c.getD a.toNat v8).Op)=14)))&&(decide (((c.getD a.toNat v8).Op)=15))))) (z6 (qeb v3 ((c.getD a.toNat v8).Op)) fun A=>z6 (qaj v3 d e f g (IntKind.i64.wrap (a+1)) (c.getD a.toNat v8)) fun t=>z9 (t.2.1 != 0) (some (⟨t.2.1,a,0,IntKind.i64.wrap (b+1)⟩:Outcome)) (zw9 n c h i j (IntKind.i64.wrap (b+1)) t.1.1.1 t.1.1.2.1 t.1.1.2.2.1 t.1.1.2.2.2.1 t.1.1.2.2.2.2.1)) (z9 ((!(decide (((c.getD a.toNat v8).Op)=12)))&&((!(decide (((c.getD a.toNat v8).Op)=13)))&&((!(decide (((c.getD a.toNat v8).Op)=14)))&&((!(decide (((c.getD a.toNat v8).Op)=15)))&&(decide (((c.getD a.toNat v8).Op)=16)))))) (z6 (qec v3 ((c.getD a.toNat v8).Op)) fun B=>z6 (qge v3 d e f g (IntKind.i64.wrap (a+1)) (c.getD a.toNat v8)) fun l=>z9 (l.2.1 != 0) (some (⟨l.2.1,a,0,IntKind.i64.wrap (b+1)⟩:Outcome)) (zw9 n c h i j (IntKind.i64.wrap (b+1)) l.1.1.1 l.1.1.2.1 l.1.1.2.2.1 l.1.1.2.2.2.1 l.1.1.2.2.2.2.1)) (z9 ((!(decide (((c.getD a.toNat v8).Op)=12)))&&((!(decide (((c.getD a.toNat v8).Op)=13)))&&((!(decide (((c.getD a.toNat v8).Op)=14)))&&((!(decide (((c.getD a.toNat v8).Op)=15)))&&((!(decide (((c.getD a.toNat v8).Op)=16)))&&(decide (((c.getD a.toNat v8).Op)=28))))))) (z6 (qed v3 ((c.getD a.toNat v8).Op)) fun v=>z9 (match qh v3 d e f g (IntKind.i64.wrap (a+1)) ([0]:List Int) with|some u=>((u.2.1 != 0)||(((d.getD 0 zf1).kind) != 1))|none=>false) (z6 (qeg v3 d e f g (IntKind.i64.wrap (a+1)) (c.getD a.toNat v8)) fun m=>z9 (m.2.1 != 0) (some (⟨m.2.1,a,0,IntKind.i64.wrap (b+1)⟩:Outcome)) (zw9 n c h i j (IntKind.i64.wrap (b+1)) m.1.1.1 m.1.1.2.1 m.1.1.2.2.1 m.1.1.2.2.2.1 m.1.1.2.2.2.2.1)) (z6 (qeh v3 d e f g (IntKind.i64.wrap (a+1)) (c.getD a.toNat v8)) fun k=>z9 (k.2.1 != 0) (some (⟨k.2.1,a,0,IntKind.i64.wrap (b+1)⟩:Outcome)) (gt8 n c h i j (IntKind.i64.wrap (b+1)) k.1.1.1 k.1.1.2.1 k.1.1.2.2.1 k.1.1.2.2.2.1 k.1.1.2.2.2.2.1 k.1.1.2.2.2.2.2.1))) (z9 ((!(decide (((c.getD a.toNat v8).Op)=12)))&&((!(decide (((c.getD a.toNat v8).Op)=13)))&&((!(decide (((c.getD a.toNat v8).Op)=14)))&&((!(decide (((c.getD a.toNat v8).Op)=15)))&&((!(decide (((c.getD a.toNat v8).Op)=16)))&&((!(decide (((c.getD a.toNat v8).Op)=28)))&&(decide (((c.getD a.toNat v8).Op)<12)))))))) (z6 (qee v3 ((c.getD a.toNat v8).Op)) fun w=>z6 (qae v3 d e f g (IntKind.i64.wrap (a+1)) (c.getD a.toNat v8)) fun o=>z9 (o.2.1 != 0) (some (⟨o.2.1,a,0,IntKind.i64.wrap (b+1)⟩:Outcome)) (zw9 n c h i j (IntKind.i64.wrap (b+1)) o.1.1.1 o.1.1.2.1 o.1.1.2.2.1 o.1.1.2.2.2.1 o.1.1.2.2.2.2.1)) (z6 (qef v3 ((c.getD a.toNat v8).Op)) fun x=>z6 (qbm v3 d e f g (IntKind.i64.wrap (a+1)) (c.getD a.toNat v8)) fun p=>z9 (p.2.1 != 0) (some (⟨p.2.1,a,0,IntKind.i64.wrap (b+1)⟩:Outcome)) (zw9 n c h i j (IntKind.i64.wrap (b+1)) p.1.1.1 p.1.1.2.1 p.1.1.2.2.1 p.1.1.2.2.2.1 p.1.1.2.2.2.2.1))))))))) else none:=by kernel_rfl
def kj0 (n k c d h e a f g i j b):gt8 (n+1) k c d h e a f g i j b=some (⟨c,d,(a.getD b zf1).n,e⟩:Outcome):=by kernel_rfl
def zaq1:=okF ue0 func14
end
end Go.X
