import Derived.Test.YtnhnejjdokeikaaGreatIb
set_option linter.defProp false
namespace Go.X
open Go.RowKit Go.V Go.Proofs Tryz
noncomputable def go2:KG:=⟨eN,0,[],[],f158,n0,[],[],[.arr (.bool) 9]⟩
noncomputable def qcq (n:Nat):Option (Unit×(List Bool×Unit)):=tG go2 n ()
def wn4 (n:Nat):qcq n=some ((),(([O,I,I,O,I,O,O,O,I]:List Bool),())):=by kernel_rfl
def ko1:=okG go2 func158
noncomputable def kp4:KP:=⟨⟨cG ko1 eN,0,[],[([I],qt [0,1,2]),([O,I],qt [0,1,2,19])],f125,n0,[.b1,.a1,.a1],[],[]⟩,.ifc 25 (.val (.int .i64))⟩
abbrev ky6:=Option (Unit×(Unit⊕u4))
noncomputable def qy (n:Nat) (x0:List Int) (x1 x2:Int):ky6:=tP kp4 n (x0,x1,x2,())
noncomputable def qv6 (n:Nat) (s0:List Int) (s1 s2:Int) (s19:Bool):ky6:=uP kp4 n [O,I] ⟨[(0,.cell ⟨.list (.int .u8),s0⟩),(1,ci s1),(2,ci s2),(19,cb s19)],[]⟩
noncomputable def gy7 (n:Nat) (s0:List Int) (s1 s2:Int):ky6:=uP kp4 n [I] ⟨[(0,.cell ⟨.list (.int .u8),s0⟩),(1,ci s1),(2,ci s2)],[]⟩
def uk6 (n:Nat) (x0 x1 x2):qy n x0 x1 x2=j7 (qcq v7) fun y1=>j8 (decide (x2<(0:Int))) (qv6 n x0 x1 x2 true) (j8 (decide (x2>=(9:Int))) (qv6 n x0 x1 x2 true) (if 0<=x2/\x2<((9:Nat):Int) then (qv6 n x0 x1 x2 (!(y1.2.1.getD x2.toNat false))) else none)):=by kernel_rfl
def kf5 (n:Nat) (s0 s1 s2 s19):qv6 (n+1) s0 s1 s2 s19=j8 s19 (some ((),.inr ((2:Int),()))) (gy7 n s0 s1 s2):=by kernel_rfl
def kf4 (n:Nat) (s0 s1 s2):gy7 (n+1) s0 s1 s2=j8 (decide (s1<(0:Int))) (some ((),.inr ((112:Int),()))) (j8 (decide (s1>(IntKind.i64.wrap (((s0.length:Nat):Int)-s2)))) (some ((),.inr ((112:Int),()))) (some ((),.inl ()))):=by kernel_rfl
def gy8:=okP kp4 func125
noncomputable def vv4:KG:=⟨eN,0,[],[],f126,n0,[.a1,.a1],[],[.fn 159 [] [.d7,.e8]]⟩
noncomputable def qce (n:Nat) (x0 x1:Int):Option (Unit×((Unit×(u4×u4×Unit))×Unit)):=tG vv4 n (x0,x1,())
def kn0 (n:Nat) (x0 x1):qce n x0 x1=some ((),(((),((x1,()),(x0,()),())),())):=by kernel_rfl
def kn1:=okG vv4 func126
noncomputable def qac_C:Ctx TT:=⟨yu0,[(125,(sP kp4).toCall (zc0 TT)),(126,(sG vv4).toCall (zc0 TT))],4,[(4,1)],zt9,yt1,yt7⟩
def ge0:zc5 TT prog qac_C.E:=jl6 (ze9 gy8 (q9 125)) (jl6 (q8 kn1 (q9 126)) (zl7))
noncomputable def qz3:RfP TT:=⟨2,159,(gj7 3 2),[12,0,3]⟩
noncomputable def qac (x0:List Int) (x1 x2 x3:Int):Option ((u11×u4×u4×u4×Unit)×(Unit⊕u4)):=ue9 TT prog qac_C f124 (zb1 f124) ⟨[],[],[],[],[]⟩ [.ptr 0 34 [.b1],.e8,.d7,.b7] [.blk 34 [.b1],.f2,.e2,.c1] [] (.ifc 25 (.val (.int .i64))) qz3 ((x0,()),(x1,()),(x2,()),(x3,()),())
noncomputable def jm5 (m k:Nat) (b0_0:List Int) (b1_0:Int) (b2_0:Int) (b3_0:Int) (b4_0:Int) (b5_0:Int):Option ((u11×u4×u4×u4×Unit)×(Unit⊕u4)):=vj4 TT prog qac_C f124 (zb1 f124) ⟨[],[],[],[],[]⟩ [.blk 34 [.b1],.f2,.e2,.c1] [] (.ifc 25 (.val (.int .i64))) qz3 [.ptr 4 0,.ptr 5 0] m k (⟨[(12,.fn (.func 159) [] [.ptr 4 0,.ptr 5 0]),(0,.ptr 0 0),(3,.ptr 3 0)],[.blk 34 [.cell ⟨.list (.int .u8),b0_0⟩],.blk 2 [.cell ⟨.int .i64,b1_0⟩],.blk 3 [.cell ⟨.int .i64,b2_0⟩],.blk 37 [.cell ⟨.int .u64,b3_0⟩],.blk 3 [.cell ⟨.int .i64,b4_0⟩],.blk 2 [.cell ⟨.int .i64,b5_0⟩]]⟩:St TT)
def qh0 (k:Nat) (b0_0:List Int) (b1_0:Int) (b2_0:Int) (b3_0:Int) (b4_0:Int) (b5_0:Int):jm5 0 k b0_0 b1_0 b2_0 b3_0 b4_0 b5_0=some (((b0_0,()),(b1_0,()),(b2_0,()),(b3_0,()),()),.inl ()):=by kernel_rfl
def qg9 (m k:Nat) (b0_0:List Int) (b1_0:Int) (b2_0:Int) (b3_0:Int) (b4_0:Int) (b5_0:Int):jm5 (m+1) k b0_0 b1_0 b2_0 b3_0 b4_0 b5_0=if 0<=IntKind.i64.wrap (b5_0+(k:Int))/\IntKind.i64.wrap (b5_0+(k:Int))<((b0_0.length:Nat):Int) then (if IntKind.i64.wrap (8*IntKind.i64.wrap (IntKind.i64.wrap (b4_0-1)-(k:Int)))<0 then none else (jm5 m (k+1) b0_0 b1_0 b2_0 (bOr .u64 b3_0 (zm3 .u64 (IntKind.u64.wrap (b0_0.getD ((IntKind.i64.wrap (b5_0+(k:Int))).toNat) (0:Int))) (IntKind.i64.wrap (8*IntKind.i64.wrap (IntKind.i64.wrap (b4_0-1)-(k:Int)))))) b4_0 b5_0)) else none:=by kernel_rfl
def wf0 (x0:List Int) (x1 x2 x3):qac x0 x1 x2 x3=j7 (qy v7 x0 x1 x2) fun y1=>match y1.2 with| .inl z1=>(j7 (qce v7 x1 x2) fun y2=>match j8 (decide (y2.2.1.2.1.1<=8)) (some y2.2.1.2.1.1.toNat) none with|some N=>jm5 N 0 x0 x1 x2 x3 y2.2.1.2.1.1 y2.2.1.2.2.1.1|none=>none)| .inr e1=>(some (((x0,()),(x1,()),(x2,()),(x3,()),()),.inr (e1.1,()))):=by kernel_rfl
noncomputable def qac_sp:PSpec TT:=⟨[.ptr 0 34 [.b1],.e8,.d7,.b7],[.blk 34 [.b1],.f2,.e2,.c1],[],.ifc 25 (.val (.int .i64)),fun x=>qac x.1.1 x.2.1.1 x.2.2.1.1 x.2.2.2.1.1⟩
def wf1:POk TT prog 124 qac_sp:=vh1 (C:=qac_C) (D:=qz3) (by kernel_rfl) ge0 func124 (show f124.body=some (zb1 f124) by kernel_rfl) (by kernel_rfl) (by kernel_rfl) (by kernel_rfl) jt3 fun x y h=>h
noncomputable def qbi_C:Ctx TT:=⟨yu0,[],1,[],zt9,yt1,yt7⟩
def gf0:zc5 TT prog qbi_C.E:=zl7
noncomputable def qbi (x0:Int):Option (u4×Unit):=ys4 prog qbi_C f157 (zb1 f157) [.f1] (.rw 1) [.blk 25 [.a1]] ((x0,()),(),())
def km4 (x0:Int):qbi x0=some ((x0,()),()):=by kernel_rfl
noncomputable def jz6:DSpec TT:=⟨[.f1],.rw 1,[.blk 25 [.a1]],fun x=>qbi x.1.1⟩
def vh6:DOk TT prog 157 jz6:=yk2 (C:=qbi_C) (by kernel_rfl) gf0 func157 (show f157.body=some (zb1 f157) by kernel_rfl) (by kernel_rfl) (by kernel_rfl) (by kernel_rfl) (by kernel_rfl) fun x y h=>h
noncomputable def qbj_C:Ctx TT:=⟨yu0,[],1,[],zt9,yt1,yt7⟩
def gf1:zc5 TT prog qbj_C.E:=zl7
noncomputable def qbj (x0 x1:Int):Option (u4×Unit):=ys4 prog qbj_C f157 (zb1 f157) [.f1] (.ifc 25 (.val (.int .i64))) [.blk 25 [.a1]] ((x0,()),x1,())
def km5 (x0:Int) (x1):qbj x0 x1=some ((x1,()),()):=by kernel_rfl
noncomputable def jz7:DSpec TT:=⟨[.f1],.ifc 25 (.val (.int .i64)),[.blk 25 [.a1]],fun x=>qbj x.1.1 x.2.1⟩
def vh7:DOk TT prog 157 jz7:=yk2 (C:=qbj_C) (by kernel_rfl) gf1 func157 (show f157.body=some (zb1 f157) by kernel_rfl) (by kernel_rfl) (by kernel_rfl) (by kernel_rfl) (by kernel_rfl) fun x y h=>h
noncomputable def qaw_C:Ctx TT:=⟨yu0,[(124,qac_sp.toCall (zc0 TT))],4,[],zt9,yt1,yt7⟩
def ge3:zc5 TT prog qaw_C.E:=jl6 (ze9 wf1 (q9 124)) (zl7)
def qm2:List (Pos×Cut):= []
noncomputable def gl6:DefP TT:=⟨1,3,[3,0,2],5,157,[(4,0)],jz6,jz7⟩
noncomputable def qaw (n:Nat) (x0:List Int) (x1 x2 x3:Int):Option ((u11×u4×u4×u4×Unit)×u4):=vy4 prog qaw_C qm2 f123 (zb1 f123) ⟨[],[],[],[],[]⟩ [.fn 124 [] [.ptr 0 34 [.b1],.e8,.d7,.b7]] [.blk 34 [.b1],.f2,.e2,.c1] [.a1] gl6 n (((),((x0,()),(x1,()),(x2,()),(x3,()),())),())
def wi3 (n:Nat) (x0 x1 x2 x3):qaw n x0 x1 x2 x3=j7 (qac x0 x1 x2 x3) fun y1=>match y1.2 with| .inl z1=>(j7 (qbi (0:Int)) fun y2=>some (((y1.1.1.1,()),(y1.1.2.1.1,()),(y1.1.2.2.1.1,()),(y1.1.2.2.2.1.1,()),()),(y2.1.1,())))| .inr e1=>(j7 (qbj (0:Int) e1.1) fun y3=>some (((y1.1.1.1,()),(y1.1.2.1.1,()),(y1.1.2.2.1.1,()),(y1.1.2.2.2.1.1,()),()),(y3.1.1,()))):=by kernel_rfl
noncomputable def wi4:GSpec TT:=⟨[.fn 124 [] [.ptr 0 34 [.b1],.e8,.d7,.b7]],[.blk 34 [.b1],.f2,.e2,.c1],[.a1],fun x=>qaw v7 x.1.2.1.1 x.1.2.2.1.1 x.1.2.2.2.1.1 x.1.2.2.2.2.1.1⟩
def kl7:GOk TT prog 123 wi4:=yk6 (C:=qaw_C) (cuts:=qm2) (D:=gl6) (by kernel_rfl) ge3 func123 (show f123.body=some (zb1 f123) by kernel_rfl) (by kernel_rfl) (by kernel_rfl) (by kernel_rfl) vh6 vh7 fun x y h=>⟨v7,h⟩
noncomputable def gp1:KF:=⟨cG kl7 eN,0,[],[],f110,z0,[.b1,.a1,.a1],[.a6,.a1]⟩
noncomputable def qdj (n:Nat) (x0:List Int) (x1 x2:Int):Option (Int×Int):=tF gp1 n (x0,x1,x2)
def wq7 (n:Nat) (x0 x1 x2):qdj n x0 x1 x2=j7 (qaw v7 x0 x1 x2 (0:Int)) fun y1=>some (y1.1.2.2.2.1.1,y1.2.1):=by kernel_rfl
def wq8:=okF gp1 func110
noncomputable def kv1:KG:=⟨eN,0,[],[],f59,n0,[.b2],[],[.fn 83 [] []]⟩
noncomputable def qcx (n:Nat) (x0:Int):Option u14:=tG kv1 n (x0,())
def wo2 (n:Nat) (x0):qcx n x0=if x0=(12:Int) then (some ((),(((),()),()))) else (if x0=(13:Int) then (none) else (if x0=(14:Int) then (none) else (if x0=(15:Int) then (none) else (if x0=(16:Int) then (none) else (if x0=(28:Int) then (none) else (j8 (decide (x0<(12:Int))) (none) (none))))))):=by kernel_rfl
def wo3:=okG kv1 func59
noncomputable def kv2:KG:=⟨eN,0,[],[],f59,n0,[.b2],[],[.fn 84 [] []]⟩
noncomputable def qcy (n:Nat) (x0:Int):Option u14:=tG kv2 n (x0,())
def wo4 (n:Nat) (x0):qcy n x0=if x0=(12:Int) then (none) else (if x0=(13:Int) then (some ((),(((),()),()))) else (if x0=(14:Int) then (none) else (if x0=(15:Int) then (none) else (if x0=(16:Int) then (none) else (if x0=(28:Int) then (none) else (j8 (decide (x0<(12:Int))) (none) (none))))))):=by kernel_rfl
def wo5:=okG kv2 func59
noncomputable def kv3:KG:=⟨eN,0,[],[],f59,n0,[.b2],[],[.fn 85 [] []]⟩
noncomputable def qcz (n:Nat) (x0:Int):Option u14:=tG kv3 n (x0,())
def wo6 (n:Nat) (x0):qcz n x0=if x0=(12:Int) then (none) else (if x0=(13:Int) then (none) else (if x0=(14:Int) then (some ((),(((),()),()))) else (if x0=(15:Int) then (none) else (if x0=(16:Int) then (none) else (if x0=(28:Int) then (none) else (j8 (decide (x0<(12:Int))) (none) (none))))))):=by kernel_rfl
def wo7:=okG kv3 func59
noncomputable def kv4:KG:=⟨eN,0,[],[],f59,n0,[.b2],[],[.fn 86 [] []]⟩
noncomputable def qda (n:Nat) (x0:Int):Option u14:=tG kv4 n (x0,())
def wo9 (n:Nat) (x0):qda n x0=if x0=(12:Int) then (none) else (if x0=(13:Int) then (none) else (if x0=(14:Int) then (none) else (if x0=(15:Int) then (some ((),(((),()),()))) else (if x0=(16:Int) then (none) else (if x0=(28:Int) then (none) else (j8 (decide (x0<(12:Int))) (none) (none))))))):=by kernel_rfl
def wp0:=okG kv4 func59
noncomputable def kv5:KG:=⟨eN,0,[],[],f59,n0,[.b2],[],[.fn 87 [] []]⟩
noncomputable def qdb (n:Nat) (x0:Int):Option u14:=tG kv5 n (x0,())
def wp1 (n:Nat) (x0):qdb n x0=if x0=(12:Int) then (none) else (if x0=(13:Int) then (none) else (if x0=(14:Int) then (none) else (if x0=(15:Int) then (none) else (if x0=(16:Int) then (some ((),(((),()),()))) else (if x0=(28:Int) then (none) else (j8 (decide (x0<(12:Int))) (none) (none))))))):=by kernel_rfl
def wp2:=okG kv5 func59
noncomputable def kv6:KG:=⟨eN,0,[],[],f59,n0,[.b2],[],[.fn 88 [] []]⟩
noncomputable def qdc (n:Nat) (x0:Int):Option u14:=tG kv6 n (x0,())
def wp3 (n:Nat) (x0):qdc n x0=if x0=(12:Int) then (none) else (if x0=(13:Int) then (none) else (if x0=(14:Int) then (none) else (if x0=(15:Int) then (none) else (if x0=(16:Int) then (none) else (if x0=(28:Int) then (some ((),(((),()),()))) else (j8 (decide (x0<(12:Int))) (none) (none))))))):=by kernel_rfl
def wp4:=okG kv6 func59
noncomputable def kv7:KG:=⟨eN,0,[],[],f59,n0,[.b2],[],[.fn 89 [] []]⟩
noncomputable def qdd (n:Nat) (x0:Int):Option u14:=tG kv7 n (x0,())
def wp5 (n:Nat) (x0):qdd n x0=if x0=(12:Int) then (none) else (if x0=(13:Int) then (none) else (if x0=(14:Int) then (none) else (if x0=(15:Int) then (none) else (if x0=(16:Int) then (none) else (if x0=(28:Int) then (none) else (j8 (decide (x0<(12:Int))) (some ((),(((),()),()))) (none))))))):=by kernel_rfl
def wp6:=okG kv7 func59
noncomputable def kv8:KG:=⟨eN,0,[],[],f59,n0,[.b2],[],[.fn 90 [] []]⟩
noncomputable def qde (n:Nat) (x0:Int):Option u14:=tG kv8 n (x0,())
def wp7 (n:Nat) (x0):qde n x0=if x0=(12:Int) then (none) else (if x0=(13:Int) then (none) else (if x0=(14:Int) then (none) else (if x0=(15:Int) then (none) else (if x0=(16:Int) then (none) else (if x0=(28:Int) then (none) else (j8 (decide (x0<(12:Int))) (none) (some ((),(((),()),()))))))))):=by kernel_rfl
def wp8:=okG kv8 func59
noncomputable def ja0 (x0:Int):Bool:=(decide (x0=(12:Int)))
noncomputable def ja1 (x0:Int):Bool:=((!(decide (x0=(12:Int))))&&(decide (x0=(13:Int))))
noncomputable def ja2 (x0:Int):Bool:=((!(decide (x0=(12:Int))))&&((!(decide (x0=(13:Int))))&&(decide (x0=(14:Int)))))
noncomputable def ja3 (x0:Int):Bool:=((!(decide (x0=(12:Int))))&&((!(decide (x0=(13:Int))))&&((!(decide (x0=(14:Int))))&&(decide (x0=(15:Int))))))
noncomputable def ja4 (x0:Int):Bool:=((!(decide (x0=(12:Int))))&&((!(decide (x0=(13:Int))))&&((!(decide (x0=(14:Int))))&&((!(decide (x0=(15:Int))))&&(decide (x0=(16:Int)))))))
noncomputable def ja5 (x0:Int):Bool:=((!(decide (x0=(12:Int))))&&((!(decide (x0=(13:Int))))&&((!(decide (x0=(14:Int))))&&((!(decide (x0=(15:Int))))&&((!(decide (x0=(16:Int))))&&(decide (x0=(28:Int))))))))
noncomputable def ja6 (x0:Int):Bool:=((!(decide (x0=(12:Int))))&&((!(decide (x0=(13:Int))))&&((!(decide (x0=(14:Int))))&&((!(decide (x0=(15:Int))))&&((!(decide (x0=(16:Int))))&&((!(decide (x0=(28:Int))))&&(decide (x0<(12:Int)))))))))
noncomputable def gg0:KG:=⟨eN,2,[],[([O,I,O,I],qt [0,7,8,9])],f108,n0,[.a5,.d3],[.a3,.d3],[.a1]⟩
abbrev go8:=Option ((u5×List Int×Unit)×u4)
noncomputable def qd (n:Nat) (x0:List Val) (x1:List Int) (x2:List Bool) (x3:List Int) (x4:Int) (x5:List Int):go8:=tG gg0 n ((x0,x1,x2,x3,x4,(),()),x5,())
noncomputable def vv7 (n:Nat) (s8 s9:Int) (b0_0l:List Val) (b0_1l:List Int) (b0_2l:List Bool) (b0_3:List Int) (b0_4:Int) (r1:List Int):go8:=uG gg0 n [O,I,O,I] ⟨[(0,.ptr 0 0),(7,.own 1),(8,ci s8),(9,ci s9)],[.k2 b0_0l b0_1l b0_2l b0_3 b0_4,.k39 r1]⟩
def ui1 (n:Nat) (x0 x1 x2 x3 x4 x5):qd n x0 x1 x2 x3 x4 x5=vv7 n ((x5.length:Nat):Int) (0:Int) x0 x1 x2 x3 x4 x5:=by kernel_rfl
def kd8 (n:Nat) (s8 s9 b0_0l b0_1l b0_2l b0_3 b0_4 r1):vv7 (n+1) s8 s9 b0_0l b0_1l b0_2l b0_3 b0_4 r1=j8 (decide (s9<s8)) (if 0<=s9/\s9<((r1.length:Nat):Int) then (if 0<=r1.getD s9.toNat (0:Int)/\r1.getD s9.toNat (0:Int)<((11:Nat):Int) then (j8 (((b0_0l.getD ((r1.getD s9.toNat (0:Int)).toNat) zl6).kind)==(0:Int)) (some (((b0_0l,b0_1l,b0_2l,b0_3,b0_4,(),()),r1,()),((110:Int),()))) (vv7 n s8 (IntKind.i64.wrap (s9+(1:Int))) b0_0l b0_1l b0_2l b0_3 b0_4 r1)) else none) else none) (some (((b0_0l,b0_1l,b0_2l,b0_3,b0_4,(),()),r1,()),((0:Int),()))):=by kernel_rfl
def ui2:=okG gg0 func108
def qh3: ∀(n:Nat) (s8:Int) (s9:Int) (b0_0l:List Val) (b0_1l:List Int) (b0_2l:List Bool) (b0_3:List Int) (b0_4:Int) (r1:List Int) (y),vv7 n s8 s9 b0_0l b0_1l b0_2l b0_3 b0_4 r1=some y->y.1.1=(b0_0l,b0_1l,b0_2l,b0_3,b0_4,(),()):=by
 intro n;induction n with
 |zero=>
  intro s8 s9 b0_0l b0_1l b0_2l b0_3 b0_4 r1 y h;exact absurd h (by intro h;cases h)
 |succ n ih=>
  intro s8 s9 b0_0l b0_1l b0_2l b0_3 b0_4 r1 y h;rw [kd8] at h
  try simp only [j8] at h
  repeat' split at h
  all_goals first|(cases h;done)|(cases h;rfl)|exact ih _ _ _ _ _ _ _ _ _ h
def kd9 (n:Nat) (x0:List Val) (x1:List Int) (x2:List Bool) (x3:List Int) (x4:Int) (x5:List Int) (y) (h:qd n x0 x1 x2 x3 x4 x5=some y):y.1.1=(x0,x1,x2,x3,x4,(),()):=by
 rw [ui1] at h
 try simp only [j8] at h
 repeat' split at h
 all_goals first|(cases h;done)|(cases h;rfl)|exact qh3 _ _ _ _ _ _ _ _ _ _ h
noncomputable def qd_ksp:KSpec TT:=⟨0,127,[.arr (.user 8) 11,.f4,.arr (.bool) 512,.b1,.a1,.nilp],[.d3],[.d3],[.a1],(sG gg0).g⟩
def yl4: ∀x y,qd_ksp.g x=some y->y.1.1=x.1:=by
 intro x y h;have e:qd_ksp.g x=qd v7 x.1.1 x.1.2.1 x.1.2.2.1 x.1.2.2.2.1 x.1.2.2.2.2.1 x.2.1:=by kernel_rfl
 exact kd9 v7 x.1.1 x.1.2.1 x.1.2.2.1 x.1.2.2.2.1 x.1.2.2.2.2.1 x.2.1 y (e.symm.trans h)
def wo8:qd_ksp.toG=(sG gg0):=by kernel_rfl
def jc3:GOk TT prog 108 qd_ksp.toG:=wo8▸ui2
noncomputable def gm2:KF:=⟨eN,0,[],[],f111,z0,[.a1],[.a6]⟩
noncomputable def qbn (n:Nat) (x0:Int):Option (Int):=tF gm2 n x0
def qe0 (n:Nat) (x0):qbn n x0=some (IntKind.u64.wrap x0):=by kernel_rfl
def qe1:=okF gm2 func111
noncomputable def gg1:KG:=⟨eN,1,[],[([O,I,O,I],⟨[0,7,8,9],[(7,3,.int .i64)],false,[],0,false⟩)],f108,n0,[.a5,.nils],[.a3],[.a1]⟩
abbrev gw0:=Option u16
noncomputable def qh (n:Nat) (x0:List Val) (x1:List Int) (x2:List Bool) (x3:List Int) (x4:Int):gw0:=tG gg1 n ((x0,x1,x2,x3,x4,(),()),(),())
noncomputable def vv8 (n:Nat) (s8 s9:Int) (b0_0l:List Val) (b0_1l:List Int) (b0_2l:List Bool) (b0_3:List Int) (b0_4:Int) (r1:List Int):gw0:=uG gg1 n [O,I,O,I] ⟨[(0,.ptr 0 0),(7,.own 1),(8,ci s8),(9,ci s9)],[.k2 b0_0l b0_1l b0_2l b0_3 b0_4,.k39 r1]⟩
def ui5 (n:Nat) (x0 x1 x2 x3 x4):qh n x0 x1 x2 x3 x4=vv8 n (0:Int) (0:Int) x0 x1 x2 x3 x4 ([]:List Int):=by kernel_rfl
def ke1 (n:Nat) (s8 s9 b0_0l b0_1l b0_2l b0_3 b0_4 r1):vv8 (n+1) s8 s9 b0_0l b0_1l b0_2l b0_3 b0_4 r1=j8 (decide (s9<s8)) (if 0<=s9/\s9<((r1.length:Nat):Int) then (if 0<=r1.getD s9.toNat (0:Int)/\r1.getD s9.toNat (0:Int)<((11:Nat):Int) then (j8 (((b0_0l.getD ((r1.getD s9.toNat (0:Int)).toNat) zl6).kind)==(0:Int)) (some (((b0_0l,b0_1l,b0_2l,b0_3,b0_4,(),()),()),((110:Int),()))) (vv8 n s8 (IntKind.i64.wrap (s9+(1:Int))) b0_0l b0_1l b0_2l b0_3 b0_4 r1)) else none) else none) (some (((b0_0l,b0_1l,b0_2l,b0_3,b0_4,(),()),()),((0:Int),()))):=by kernel_rfl
def ui6:=okG gg1 func108
def qh4: ∀(n:Nat) (s8:Int) (s9:Int) (b0_0l:List Val) (b0_1l:List Int) (b0_2l:List Bool) (b0_3:List Int) (b0_4:Int) (r1:List Int) (y),vv8 n s8 s9 b0_0l b0_1l b0_2l b0_3 b0_4 r1=some y->y.1.1=(b0_0l,b0_1l,b0_2l,b0_3,b0_4,(),()):=by
 intro n;induction n with
 |zero=>
  intro s8 s9 b0_0l b0_1l b0_2l b0_3 b0_4 r1 y h;exact absurd h (by intro h;cases h)
 |succ n ih=>
  intro s8 s9 b0_0l b0_1l b0_2l b0_3 b0_4 r1 y h;rw [ke1] at h
  try simp only [j8] at h
  repeat' split at h
  all_goals first|(cases h;done)|(cases h;rfl)|exact ih _ _ _ _ _ _ _ _ _ h
def ke2 (n:Nat) (x0:List Val) (x1:List Int) (x2:List Bool) (x3:List Int) (x4:Int) (y) (h:qh n x0 x1 x2 x3 x4=some y):y.1.1=(x0,x1,x2,x3,x4,(),()):=by
 rw [ui5] at h
 try simp only [j8] at h
 repeat' split at h
 all_goals first|(cases h;done)|(cases h;rfl)|exact qh4 _ _ _ _ _ _ _ _ _ _ h
noncomputable def qh_ksp:KSpec TT:=⟨0,127,[.arr (.user 8) 11,.f4,.arr (.bool) 512,.b1,.a1,.nilp],[.nils],[],[.a1],(sG gg1).g⟩
def yl5: ∀x y,qh_ksp.g x=some y->y.1.1=x.1:=by
 intro x y h;have e:qh_ksp.g x=qh v7 x.1.1 x.1.2.1 x.1.2.2.1 x.1.2.2.2.1 x.1.2.2.2.2.1:=by kernel_rfl
 exact ke2 v7 x.1.1 x.1.2.1 x.1.2.2.1 x.1.2.2.2.1 x.1.2.2.2.2.1 y (e.symm.trans h)
def uc6:qh_ksp.toG=(sG gg1):=by kernel_rfl
def jc4:GOk TT prog 108 qh_ksp.toG:=uc6▸ui6
noncomputable def gn5:KG:=⟨cE (zj8 jc4 yl5 (zj8 jc3 yl4 (q9 108))) (cF qe1 eN),1,[(2,1)],[],f107,n0,[.a5,.d1,.nils],[.a3],[.val (.user 8),.a1]⟩
noncomputable def qch (n:Nat) (x0:List Val) (x1:List Int) (x2:List Bool) (x3:List Int) (x4:Int) (x5:Ins):Option ((u5×Unit)×(Val×Int×Unit)):=tG gn5 n ((x0,x1,x2,x3,x4,(),()),x5,(),())
def wm6 (n:Nat) (x0 x1 x2 x3 x4 x5):qch n x0 x1 x2 x3 x4 x5=j8 (!x5.UseImm) (if 0<=x5.Src/\x5.Src<((11:Nat):Int) then (j7 (qd v7 x0 x1 x2 x3 x4 ([x5.Src]:List Int)) fun y1=>some (((x0,x1,x2,x3,x4,(),()),()),(x0.getD x5.Src.toNat zl6,y1.2.1,()))) else none) (j7 (qbn v7 x5.Imm) fun y2=>j7 (qh v7 x0 x1 x2 x3 x4) fun y3=>some (((x0,x1,x2,x3,x4,(),()),()),((⟨(1:Int),y2⟩:Val),y3.2.1,()))):=by kernel_rfl
def qe5:=okG gn5 func107
noncomputable def vu9:KG:=⟨cG qe5 eN,1,[(8,1)],[([I,I],qt [0,3,5]),([I,I,O,O,I,I],qt [0,3,5,17])],f83,n0,[.a5,.d1],[.a3],[.a1]⟩
abbrev va2:=Option u16
noncomputable def qag (n:Nat) (x0:List Val) (x1:List Int) (x2:List Bool) (x3:List Int) (x4:Int) (x5:Ins):va2:=tG vu9 n ((x0,x1,x2,x3,x4,(),()),x5,())
noncomputable def va1 (n:Nat) (s17:Bool) (b0_0l:List Val) (b0_1l:List Int) (b0_2l:List Bool) (b0_3:List Int) (b0_4 b1_0:Int) (b1_1:Bool) (b1_2 b1_3:Int) (b1_4:Bool) (b1_5 b1_6 b1_7 b2_0 b2_1:Int):va2:=uG vu9 n [I,I,O,O,I,I] ⟨[(0,.ptr 0 0),(3,.ptr 1 0),(5,.ptr 2 0),(17,cb s17)],[.k2 b0_0l b0_1l b0_2l b0_3 b0_4,.k1 b1_0 b1_1 b1_2 b1_3 b1_4 b1_5 b1_6 b1_7,.k13 b2_0 b2_1]⟩
noncomputable def va0 (n:Nat) (b0_0l:List Val) (b0_1l:List Int) (b0_2l:List Bool) (b0_3:List Int) (b0_4 b1_0:Int) (b1_1:Bool) (b1_2 b1_3:Int) (b1_4:Bool) (b1_5 b1_6 b1_7 b2_0 b2_1:Int):va2:=uG vu9 n [I,I] ⟨[(0,.ptr 0 0),(3,.ptr 1 0),(5,.ptr 2 0)],[.k2 b0_0l b0_1l b0_2l b0_3 b0_4,.k1 b1_0 b1_1 b1_2 b1_3 b1_4 b1_5 b1_6 b1_7,.k13 b2_0 b2_1]⟩
def wf6 (n:Nat) (x0 x1 x2 x3 x4 x5):qag n x0 x1 x2 x3 x4 x5=j7 (qch v7 x0 x1 x2 x3 x4 x5) fun y1=>j8 (y1.2.2.1 != (0:Int)) (some (((y1.1.1.1,y1.1.1.2.1,y1.1.1.2.2.1,y1.1.1.2.2.2.1,y1.1.1.2.2.2.2.1,(),()),()),(y1.2.2.1,()))) (j8 x5.Narrow (va1 n (y1.2.1.kind != (1:Int)) y1.1.1.1 y1.1.1.2.1 y1.1.1.2.2.1 y1.1.1.2.2.2.1 y1.1.1.2.2.2.2.1 x5.Op x5.Narrow x5.Dst x5.Src x5.UseImm x5.Off x5.Imm x5.Size y1.2.1.kind y1.2.1.n) (va1 n false y1.1.1.1 y1.1.1.2.1 y1.1.1.2.2.1 y1.1.1.2.2.2.1 y1.1.1.2.2.2.2.1 x5.Op x5.Narrow x5.Dst x5.Src x5.UseImm x5.Off x5.Imm x5.Size y1.2.1.kind y1.2.1.n)):=by kernel_rfl
def ju0 (n:Nat) (s17 b0_0l b0_1l b0_2l b0_3 b0_4 b1_0 b1_1 b1_2 b1_3 b1_4 b1_5 b1_6 b1_7 b2_0 b2_1):va1 (n+1) s17 b0_0l b0_1l b0_2l b0_3 b0_4 b1_0 b1_1 b1_2 b1_3 b1_4 b1_5 b1_6 b1_7 b2_0 b2_1=j8 s17 (some (((b0_0l,b0_1l,b0_2l,b0_3,b0_4,(),()),()),((114:Int),()))) (j8 b1_1 (va0 n b0_0l b0_1l b0_2l b0_3 b0_4 b1_0 b1_1 b1_2 b1_3 b1_4 b1_5 b1_6 b1_7 b2_0 (IntKind.u64.wrap (IntKind.u32.wrap b2_1))) (va0 n b0_0l b0_1l b0_2l b0_3 b0_4 b1_0 b1_1 b1_2 b1_3 b1_4 b1_5 b1_6 b1_7 b2_0 b2_1)):=by kernel_rfl
def jt9 (n:Nat) (b0_0l b0_1l b0_2l b0_3 b0_4 b1_0 b1_1 b1_2 b1_3 b1_4 b1_5 b1_6 b1_7 b2_0 b2_1):va0 (n+1) b0_0l b0_1l b0_2l b0_3 b0_4 b1_0 b1_1 b1_2 b1_3 b1_4 b1_5 b1_6 b1_7 b2_0 b2_1=if 0<=b1_2/\b1_2<((11:Nat):Int) then (some (((b0_0l.set b1_2.toNat (⟨b2_0,b2_1⟩:Val),b0_1l,b0_2l,b0_3,b0_4,(),()),()),((0:Int),()))) else none:=by kernel_rfl
def wf7:=okG vu9 func83
noncomputable def gp6:KG:=⟨cE (zj8 jc4 yl5 (zj8 jc3 yl4 (q9 108))) (cF kn6 eN),1,[],[],f84,n0,[.a5,.d1],[.a3],[.a1]⟩
noncomputable def qdp (n:Nat) (x0:List Val) (x1:List Int) (x2:List Bool) (x3:List Int) (x4:Int) (x5:Ins):Option u16:=tG gp6 n ((x0,x1,x2,x3,x4,(),()),x5,())
def wr9 (n:Nat) (x0 x1 x2 x3 x4 x5):qdp n x0 x1 x2 x3 x4 x5=j7 (qd v7 x0 x1 x2 x3 x4 ([x5.Dst]:List Int)) fun y1=>j8 (y1.2.1 != (0:Int)) (some (((x0,x1,x2,x3,x4,(),()),()),(y1.2.1,()))) (if 0<=x5.Dst/\x5.Dst<((11:Nat):Int) then (j8 (((x0.getD x5.Dst.toNat zl6).kind) != (1:Int)) (some (((x0,x1,x2,x3,x4,(),()),()),((114:Int),()))) (j7 (qcl v7 x5.Op x5.Narrow ((x0.getD x5.Dst.toNat zl6).n) (0:Int)) fun y2=>some (((x0.set x5.Dst.toNat (⟨(x0.getD x5.Dst.toNat zl6).kind,y2.1⟩:Val),x1,x2,x3,x4,(),()),()),(y2.2,())))) else none):=by kernel_rfl
def ws0:=okG gp6 func84
noncomputable def gn8:KF:=⟨cF qe1 eN,0,[],[],f112,z0,[.a6,.d1],[.a1,.a1]⟩
noncomputable def qcm (n:Nat) (x0:Int) (x1:Ins):Option (Int×Int):=tF gn8 n (x0,x1)
def wn0 (n:Nat) (x0 x1):qcm n x0 x1=j7 (qbn v7 x1.Off) fun y1=>j8 (decide ((IntKind.i64.wrap ((IntKind.i64.wrap (IntKind.u64.wrap (x0+y1)))+(512:Int)))<(0:Int))) (some ((0:Int),(112:Int))) (j8 (decide ((IntKind.i64.wrap ((IntKind.i64.wrap (IntKind.u64.wrap (x0+y1)))+(512:Int)))>(IntKind.i64.wrap ((512:Int)-x1.Size)))) (some ((0:Int),(112:Int))) (some (IntKind.i64.wrap ((IntKind.i64.wrap (IntKind.u64.wrap (x0+y1)))+(512:Int)),(0:Int)))):=by kernel_rfl
def kn7:=okF gn8 func112
noncomputable def gy9:KG:=⟨cE (zj8 jc4 yl5 (zj8 jc3 yl4 (q9 108))) (cF qe1 (cF wq8 (cF kn7 eN))),1,[(4,1),(24,1)],[([I,I,I,I],qt [0,3,7]),([O,I,O,I,I,I,I,I,I,O,I,O,I,I,I,I],qt [0,3,10,41,42])],f85,n0,[.a5,.d1],[.a3],[.a1]⟩
abbrev ky8:=Option u16
noncomputable def qz (n:Nat) (x0:List Val) (x1:List Int) (x2:List Bool) (x3:List Int) (x4:Int) (x5:Ins):ky8:=tG gy9 n ((x0,x1,x2,x3,x4,(),()),x5,())
noncomputable def ky7 (n:Nat) (s7:Int) (b0_0l:List Val) (b0_1l:List Int) (b0_2l:List Bool) (b0_3:List Int) (b0_4 b1_0:Int) (b1_1:Bool) (b1_2 b1_3:Int) (b1_4:Bool) (b1_5 b1_6 b1_7:Int):ky8:=uG gy9 n [I,I,I,I] ⟨[(0,.ptr 0 0),(3,.ptr 1 0),(7,qr9 s7)],[.k2 b0_0l b0_1l b0_2l b0_3 b0_4,.k1 b1_0 b1_1 b1_2 b1_3 b1_4 b1_5 b1_6 b1_7]⟩
noncomputable def vw2 (n:Nat) (s10 s41 s42:Int) (b0_0l:List Val) (b0_1l:List Int) (b0_2l:List Bool) (b0_3:List Int) (b0_4 b1_0:Int) (b1_1:Bool) (b1_2 b1_3:Int) (b1_4:Bool) (b1_5 b1_6 b1_7:Int):ky8:=uG gy9 n [O,I,O,I,I,I,I,I,I,O,I,O,I,I,I,I] ⟨[(0,.ptr 0 0),(3,.ptr 1 0),(10,ci s10),(41,ci s41),(42,ci s42)],[.k2 b0_0l b0_1l b0_2l b0_3 b0_4,.k1 b1_0 b1_1 b1_2 b1_3 b1_4 b1_5 b1_6 b1_7]⟩
def uk7 (n:Nat) (x0 x1 x2 x3 x4 x5):qz n x0 x1 x2 x3 x4 x5=j7 (qd v7 x0 x1 x2 x3 x4 ([x5.Src]:List Int)) fun y1=>j8 (y1.2.1 != (0:Int)) (some (((x0,x1,x2,x3,x4,(),()),()),(y1.2.1,()))) (if 0<=x5.Src/\x5.Src<((11:Nat):Int) then (j8 (((x0.getD x5.Src.toNat zl6).kind)==(1:Int)) (some (((x0,x1,x2,x3,x4,(),()),()),((111:Int),()))) (j8 (((x0.getD x5.Src.toNat zl6).kind)==(2:Int)) (j7 (qbn v7 x5.Off) fun y2=>j7 (qdj v7 x3 (IntKind.i64.wrap (IntKind.u64.wrap (((x0.getD x5.Src.toNat zl6).n)+y2))) x5.Size) fun y3=>j8 (y3.2 != (0:Int)) (some (((x0,x1,x2,x3,x4,(),()),()),(y3.2,()))) (ky7 n y3.1 x0 x1 x2 x3 x4 x5.Op x5.Narrow x5.Dst x5.Src x5.UseImm x5.Off x5.Imm x5.Size)) (j7 (qcm v7 ((x0.getD x5.Src.toNat zl6).n) x5) fun y4=>j8 (y4.2 != (0:Int)) (some (((x0,x1,x2,x3,x4,(),()),()),(y4.2,()))) (vw2 n y4.1 x5.Size (0:Int) x0 x1 x2 x3 x4 x5.Op x5.Narrow x5.Dst x5.Src x5.UseImm x5.Off x5.Imm x5.Size)))) else none):=by kernel_rfl
def qn5 (n:Nat) (s7 b0_0l b0_1l b0_2l b0_3 b0_4 b1_0 b1_1 b1_2 b1_3 b1_4 b1_5 b1_6 b1_7):ky7 (n+1) s7 b0_0l b0_1l b0_2l b0_3 b0_4 b1_0 b1_1 b1_2 b1_3 b1_4 b1_5 b1_6 b1_7=if 0<=b1_2/\b1_2<((11:Nat):Int) then (some (((b0_0l.set b1_2.toNat (⟨(1:Int),s7⟩:Val),b0_1l,b0_2l,b0_3,b0_4,(),()),()),((0:Int),()))) else none:=by kernel_rfl
def qn6 (n:Nat) (s10 s41 s42 b0_0l b0_1l b0_2l b0_3 b0_4 b1_0 b1_1 b1_2 b1_3 b1_4 b1_5 b1_6 b1_7):vw2 (n+1) s10 s41 s42 b0_0l b0_1l b0_2l b0_3 b0_4 b1_0 b1_1 b1_2 b1_3 b1_4 b1_5 b1_6 b1_7=j8 (decide (s42<s41)) (if 0<=IntKind.i64.wrap (s10+s42)/\IntKind.i64.wrap (s10+s42)<((512:Nat):Int) then (j8 (!(b0_2l.getD ((IntKind.i64.wrap (s10+s42)).toNat) false)) (some (((b0_0l,b0_1l,b0_2l,b0_3,b0_4,(),()),()),((110:Int),()))) (vw2 n s10 s41 (IntKind.i64.wrap (s42+(1:Int))) b0_0l b0_1l b0_2l b0_3 b0_4 b1_0 b1_1 b1_2 b1_3 b1_4 b1_5 b1_6 b1_7)) else none) (j7 (qdj v7 (List.take 512 (List.drop 0 b0_1l)) s10 b1_7) fun y1=>ky7 n y1.1 b0_0l b0_1l b0_2l b0_3 b0_4 b1_0 b1_1 b1_2 b1_3 b1_4 b1_5 b1_6 b1_7):=by kernel_rfl
def uk8:=okG gy9 func85
noncomputable def gn2:KG:=⟨cE (zj8 jc4 yl5 (zj8 jc3 yl4 (q9 108))) (cF qe1 eN),2,[(2,1)],[],f107,n0,[.a5,.d1,.d3],[.a3,.gone],[.val (.user 8),.a1]⟩
noncomputable def qcc (n:Nat) (x0:List Val) (x1:List Int) (x2:List Bool) (x3:List Int) (x4:Int) (x5:Ins) (x6:List Int):Option ((u5×Unit×Unit)×(Val×Int×Unit)):=tG gn2 n ((x0,x1,x2,x3,x4,(),()),x5,x6,())
def wm3 (n:Nat) (x0 x1 x2 x3 x4 x5 x6):qcc n x0 x1 x2 x3 x4 x5 x6=j8 (!x5.UseImm) (if 0<=x5.Src/\x5.Src<((11:Nat):Int) then (if (x6.length+1)*8<=140737488355328 then (j7 (qd v7 x0 x1 x2 x3 x4 (x6++([x5.Src]:List Int))) fun y1=>some (((x0,x1,x2,x3,x4,(),()),(),()),(x0.getD x5.Src.toNat zl6,y1.2.1,()))) else none) else none) (j7 (qbn v7 x5.Imm) fun y2=>j7 (qd v7 x0 x1 x2 x3 x4 x6) fun y3=>some (((x0,x1,x2,x3,x4,(),()),(),()),((⟨(1:Int),y2⟩:Val),y3.2.1,()))):=by kernel_rfl
def vb9:=okG gn2 func107
noncomputable def qv0:KP:=⟨⟨cG ko1 eN,1,[],[([I],qt [0,1,2]),([O,I],qt [0,1,2,19])],f125,n0,[.b6,.a1,.a1],[.a3],[]⟩,.ifc 25 (.val (.int .i64))⟩
abbrev va4:=Option ((u5×Unit)×(Unit⊕u4))
noncomputable def qai (n:Nat) (x0:List Val) (x1:List Int) (x2:List Bool) (x3:List Int) (x4:Int) (x5 x6:Nat) (x7 x8:Int):va4:=tP qv0 n (((x0,x1,x2,x3,x4,(),()),x5,x6),x7,x8,())
noncomputable def jm7 (n s0o s0n:Nat) (s1 s2:Int) (s19:Bool) (b0_0l:List Val) (b0_1l:List Int) (b0_2l:List Bool) (b0_3:List Int) (b0_4:Int):va4:=uP qv0 n [O,I] ⟨[(0,.asl 0 22 1 512 s0o s0n),(1,ci s1),(2,ci s2),(19,cb s19)],[.k2 b0_0l b0_1l b0_2l b0_3 b0_4]⟩
noncomputable def kk6 (n s0o s0n:Nat) (s1 s2:Int) (b0_0l:List Val) (b0_1l:List Int) (b0_2l:List Bool) (b0_3:List Int) (b0_4:Int):va4:=uP qv0 n [I] ⟨[(0,.asl 0 22 1 512 s0o s0n),(1,ci s1),(2,ci s2)],[.k2 b0_0l b0_1l b0_2l b0_3 b0_4]⟩
def wg0 (n:Nat) (x0 x1 x2 x3 x4 x5 x6 x7 x8):qai n x0 x1 x2 x3 x4 x5 x6 x7 x8=j7 (qcq v7) fun y1=>j8 (decide (x8<(0:Int))) (jm7 n x5 x6 x7 x8 true x0 x1 x2 x3 x4) (j8 (decide (x8>=(9:Int))) (jm7 n x5 x6 x7 x8 true x0 x1 x2 x3 x4) (if 0<=x8/\x8<((9:Nat):Int) then (jm7 n x5 x6 x7 x8 (!(y1.2.1.getD x8.toNat false)) x0 x1 x2 x3 x4) else none)):=by kernel_rfl
def vp5 (n:Nat) (s0o s0n s1 s2 s19 b0_0l b0_1l b0_2l b0_3 b0_4):jm7 (n+1) s0o s0n s1 s2 s19 b0_0l b0_1l b0_2l b0_3 b0_4=j8 s19 (some (((b0_0l,b0_1l,b0_2l,b0_3,b0_4,(),()),()),.inr ((2:Int),()))) (kk6 n s0o s0n s1 s2 b0_0l b0_1l b0_2l b0_3 b0_4):=by kernel_rfl
def vp4 (n:Nat) (s0o s0n s1 s2 b0_0l b0_1l b0_2l b0_3 b0_4):kk6 (n+1) s0o s0n s1 s2 b0_0l b0_1l b0_2l b0_3 b0_4=j8 (decide (s1<(0:Int))) (some (((b0_0l,b0_1l,b0_2l,b0_3,b0_4,(),()),()),.inr ((112:Int),()))) (j8 (decide (s1>(IntKind.i64.wrap (((s0n:Nat):Int)-s2)))) (some (((b0_0l,b0_1l,b0_2l,b0_3,b0_4,(),()),()),.inr ((112:Int),()))) (some (((b0_0l,b0_1l,b0_2l,b0_3,b0_4,(),()),()),.inl ()))):=by kernel_rfl
def wg1:=okP qv0 func125
noncomputable def qad_C:Ctx TT:=⟨yu0,[(125,(sP qv0).toCall ((sP kp4).toCall (zc0 TT))),(126,(sG vv4).toCall (zc0 TT))],5,[(4,1)],zt9,yt1,yt7⟩
def ge1:zc5 TT prog qad_C.E:=jl6 (ze9 wg1 (ze9 gy8 (q9 125))) (jl6 (q8 kn1 (q9 126)) (zl7))
noncomputable def qz4:RfP TT:=⟨2,159,(gj7 3 2),[12,0,3]⟩
noncomputable def qad (x0:List Val) (x1:List Int) (x2:List Bool) (x3:List Int) (x4:Int) (x5 x6:Nat) (x7 x8 x9:Int):Option ((u18×u5×u4×u4×u4×Unit)×(Unit⊕u4)):=ue9 TT prog qad_C f127 (zb1 f127) ⟨[],[],[],[],[]⟩ [.ptr 0 34 [.b6],.e8,.d7,.b7] [.e9,.a3,.f2,.e2,.c1] [] (.ifc 25 (.val (.int .i64))) qz4 ((((x0,x1,x2,x3,x4,(),()),x5,x6),()),(x7,()),(x8,()),(x9,()),())
noncomputable def jm6 (m k:Nat) (b0_0o:Nat) (b0_0n:Nat) (b1_0l:List Val) (b1_1l:List Int) (b1_2l:List Bool) (b1_3:List Int) (b1_4:Int) (b2_0:Int) (b3_0:Int) (b4_0:Int) (b5_0:Int) (b6_0:Int):Option ((u18×u5×u4×u4×u4×Unit)×(Unit⊕u4)):=vj4 TT prog qad_C f127 (zb1 f127) ⟨[],[],[],[],[]⟩ [.e9,.a3,.f2,.e2,.c1] [] (.ifc 25 (.val (.int .i64))) qz4 [.ptr 5 0,.ptr 6 0] m k (⟨[(12,.fn (.func 159) [] [.ptr 5 0,.ptr 6 0]),(0,.ptr 0 0),(3,.ptr 4 0)],[.blk 34 [.asl 1 22 1 512 b0_0o b0_0n],.blk 127 [.arr (.user 8) 11 b1_0l,.arr (.int .u8) 512 b1_1l,.arr (.bool) 512 b1_2l,.cell ⟨.list (.int .u8),b1_3⟩,.cell ⟨.int .i64,b1_4⟩,.raw (.pointer none)],.blk 2 [.cell ⟨.int .i64,b2_0⟩],.blk 3 [.cell ⟨.int .i64,b3_0⟩],.blk 37 [.cell ⟨.int .u64,b4_0⟩],.blk 3 [.cell ⟨.int .i64,b5_0⟩],.blk 2 [.cell ⟨.int .i64,b6_0⟩]]⟩:St TT)
def qh2 (k:Nat) (b0_0o:Nat) (b0_0n:Nat) (b1_0l:List Val) (b1_1l:List Int) (b1_2l:List Bool) (b1_3:List Int) (b1_4:Int) (b2_0:Int) (b3_0:Int) (b4_0:Int) (b5_0:Int) (b6_0:Int):jm6 0 k b0_0o b0_0n b1_0l b1_1l b1_2l b1_3 b1_4 b2_0 b3_0 b4_0 b5_0 b6_0=some ((((b0_0o,b0_0n),()),(b1_0l,b1_1l,b1_2l,b1_3,b1_4,(),()),(b2_0,()),(b3_0,()),(b4_0,()),()),.inl ()):=by kernel_rfl
def qh1 (m k:Nat) (b0_0o:Nat) (b0_0n:Nat) (b1_0l:List Val) (b1_1l:List Int) (b1_2l:List Bool) (b1_3:List Int) (b1_4:Int) (b2_0:Int) (b3_0:Int) (b4_0:Int) (b5_0:Int) (b6_0:Int):jm6 (m+1) k b0_0o b0_0n b1_0l b1_1l b1_2l b1_3 b1_4 b2_0 b3_0 b4_0 b5_0 b6_0=if IntKind.i64.wrap (8*IntKind.i64.wrap (IntKind.i64.wrap (b5_0-1)-(k:Int)))<0 then none else (if 0<=IntKind.i64.wrap (b6_0+(k:Int))/\IntKind.i64.wrap (b6_0+(k:Int))<((b0_0n:Nat):Int) then (jm6 m (k+1) b0_0o b0_0n b1_0l (b1_1l.set (b0_0o+((IntKind.i64.wrap (b6_0+(k:Int))).toNat)) (IntKind.u8.wrap (zr2 .u64 b4_0 (IntKind.i64.wrap (8*IntKind.i64.wrap (IntKind.i64.wrap (b5_0-1)-(k:Int))))))) b1_2l b1_3 b1_4 b2_0 b3_0 b4_0 b5_0 b6_0) else none):=by kernel_rfl
def wf2 (x0:List Val) (x1 x2 x3 x4 x5 x6 x7 x8 x9):qad x0 x1 x2 x3 x4 x5 x6 x7 x8 x9=j7 (qai v7 x0 x1 x2 x3 x4 x5 x6 x7 x8) fun y1=>match y1.2 with| .inl z1=>(j7 (qce v7 x7 x8) fun y2=>match j8 (decide (y2.2.1.2.1.1<=8)) (some y2.2.1.2.1.1.toNat) none with|some N=>jm6 N 0 x5 x6 y1.1.1.1 y1.1.1.2.1 y1.1.1.2.2.1 y1.1.1.2.2.2.1 y1.1.1.2.2.2.2.1 x7 x8 x9 y2.2.1.2.1.1 y2.2.1.2.2.1.1|none=>none)| .inr e1=>(some ((((x5,x6),()),(y1.1.1.1,y1.1.1.2.1,y1.1.1.2.2.1,y1.1.1.2.2.2.1,y1.1.1.2.2.2.2.1,(),()),(x7,()),(x8,()),(x9,()),()),.inr (e1.1,()))):=by kernel_rfl
noncomputable def qad_sp:PSpec TT:=⟨[.ptr 0 34 [.b6],.e8,.d7,.b7],[.e9,.a3,.f2,.e2,.c1],[],.ifc 25 (.val (.int .i64)),fun x=>qad x.1.1.1.1 x.1.1.1.2.1 x.1.1.1.2.2.1 x.1.1.1.2.2.2.1 x.1.1.1.2.2.2.2.1 x.1.1.2.1 x.1.1.2.2 x.2.1.1 x.2.2.1.1 x.2.2.2.1.1⟩
def wf3:POk TT prog 127 qad_sp:=vh1 (C:=qad_C) (D:=qz4) (by kernel_rfl) ge1 func127 (show f127.body=some (zb1 f127) by kernel_rfl) (by kernel_rfl) (by kernel_rfl) (by kernel_rfl) jt3 fun x y h=>h
noncomputable def qba_C:Ctx TT:=⟨yu0,[(127,qad_sp.toCall (zc0 TT))],5,[],zt9,yt1,yt7⟩
def ge5:zc5 TT prog qba_C.E:=jl6 (ze9 wf3 (q9 127)) (zl7)
def qm4:List (Pos×Cut):= []
noncomputable def gl8:DefP TT:=⟨1,3,[3,0,2],6,157,[(5,0)],jz6,jz7⟩
noncomputable def qba (n:Nat) (x0:List Val) (x1:List Int) (x2:List Bool) (x3:List Int) (x4:Int) (x5 x6:Nat) (x7 x8 x9:Int):Option ((u18×u5×u4×u4×u4×Unit)×u4):=vy4 prog qba_C qm4 f123 (zb1 f123) ⟨[],[],[],[],[]⟩ [.fn 127 [] [.ptr 0 34 [.b6],.e8,.d7,.b7]] [.e9,.a3,.f2,.e2,.c1] [.a1] gl8 n (((),((((x0,x1,x2,x3,x4,(),()),x5,x6),()),(x7,()),(x8,()),(x9,()),())),())
def wj2 (n:Nat) (x0 x1 x2 x3 x4 x5 x6 x7 x8 x9):qba n x0 x1 x2 x3 x4 x5 x6 x7 x8 x9=j7 (qad x0 x1 x2 x3 x4 x5 x6 x7 x8 x9) fun y1=>match y1.2 with| .inl z1=>(j7 (qbi (0:Int)) fun y2=>some ((((y1.1.1.1.1,y1.1.1.1.2),()),(y1.1.2.1.1,y1.1.2.1.2.1,y1.1.2.1.2.2.1,y1.1.2.1.2.2.2.1,y1.1.2.1.2.2.2.2.1,(),()),(y1.1.2.2.1.1,()),(y1.1.2.2.2.1.1,()),(y1.1.2.2.2.2.1.1,()),()),(y2.1.1,())))| .inr e1=>(j7 (qbj (0:Int) e1.1) fun y3=>some ((((y1.1.1.1.1,y1.1.1.1.2),()),(y1.1.2.1.1,y1.1.2.1.2.1,y1.1.2.1.2.2.1,y1.1.2.1.2.2.2.1,y1.1.2.1.2.2.2.2.1,(),()),(y1.1.2.2.1.1,()),(y1.1.2.2.2.1.1,()),(y1.1.2.2.2.2.1.1,()),()),(y3.1.1,()))):=by kernel_rfl
noncomputable def wj4:GSpec TT:=⟨[.fn 127 [] [.ptr 0 34 [.b6],.e8,.d7,.b7]],[.e9,.a3,.f2,.e2,.c1],[.a1],fun x=>qba v7 x.1.2.1.1.1.1 x.1.2.1.1.1.2.1 x.1.2.1.1.1.2.2.1 x.1.2.1.1.1.2.2.2.1 x.1.2.1.1.1.2.2.2.2.1 x.1.2.1.1.2.1 x.1.2.1.1.2.2 x.1.2.2.1.1 x.1.2.2.2.1.1 x.1.2.2.2.2.1.1⟩
def wj3:GOk TT prog 123 wj4:=yk6 (C:=qba_C) (cuts:=qm4) (D:=gl8) (by kernel_rfl) ge5 func123 (show f123.body=some (zb1 f123) by kernel_rfl) (by kernel_rfl) (by kernel_rfl) (by kernel_rfl) vh6 vh7 fun x y h=>⟨v7,h⟩
noncomputable def gq1:KG:=⟨cE (q8 wj3 (q8 kl7 (q9 123))) eN,1,[],[],f113,n0,[.b6,.a1,.a1,.a6],[.a3],[.a1]⟩
noncomputable def qdu (n:Nat) (x0:List Val) (x1:List Int) (x2:List Bool) (x3:List Int) (x4:Int) (x5 x6:Nat) (x7 x8 x9:Int):Option u16:=tG gq1 n (((x0,x1,x2,x3,x4,(),()),x5,x6),x7,x8,x9,())
def ws9 (n:Nat) (x0 x1 x2 x3 x4 x5 x6 x7 x8 x9):qdu n x0 x1 x2 x3 x4 x5 x6 x7 x8 x9=j7 (qba v7 x0 x1 x2 x3 x4 x5 x6 x7 x8 x9) fun y1=>some (((y1.1.2.1.1,y1.1.2.1.2.1,y1.1.2.1.2.2.1,y1.1.2.1.2.2.2.1,y1.1.2.1.2.2.2.2.1,(),()),()),(y1.2.1,())):=by kernel_rfl
def wt0:=okG gq1 func113
noncomputable def vu5:KG:=⟨cE (q8 vb9 (q8 qe5 (q9 107))) (cF kn7 (cG wt0 eN)),1,[(2,1),(17,1)],[([I,I,I,I,O,O,I,I,I],qt [0,3,5,7,34]),([O,I,O,I,I,I,I,I,I],qt [0,3,5,8,54,55])],f86,n0,[.a5,.d1],[.a3],[.a1]⟩
abbrev qz0:=Option u16
noncomputable def qaa (n:Nat) (x0:List Val) (x1:List Int) (x2:List Bool) (x3:List Int) (x4:Int) (x5:Ins):qz0:=tG vu5 n ((x0,x1,x2,x3,x4,(),()),x5,())
noncomputable def qc9 (n:Nat) (s34:Bool) (b0_0l:List Val) (b0_1l:List Int) (b0_2l:List Bool) (b0_3:List Int) (b0_4 b1_0:Int) (b1_1:Bool) (b1_2 b1_3:Int) (b1_4:Bool) (b1_5 b1_6 b1_7 b2_0 b2_1 b3_0 b3_1:Int):qz0:=uG vu5 n [I,I,I,I,O,O,I,I,I] ⟨[(0,.ptr 0 0),(3,.ptr 1 0),(5,.ptr 2 0),(7,.ptr 3 0),(34,cb s34)],[.k2 b0_0l b0_1l b0_2l b0_3 b0_4,.k1 b1_0 b1_1 b1_2 b1_3 b1_4 b1_5 b1_6 b1_7,.k13 b2_0 b2_1,.k13 b3_0 b3_1]⟩
noncomputable def qd0 (n:Nat) (s8 s54 s55:Int) (b0_0l:List Val) (b0_1l:List Int) (b0_2l:List Bool) (b0_3:List Int) (b0_4 b1_0:Int) (b1_1:Bool) (b1_2 b1_3:Int) (b1_4:Bool) (b1_5 b1_6 b1_7 b2_0 b2_1:Int):qz0:=uG vu5 n [O,I,O,I,I,I,I,I,I] ⟨[(0,.ptr 0 0),(3,.ptr 1 0),(5,.ptr 2 0),(8,ci s8),(54,ci s54),(55,ci s55)],[.k2 b0_0l b0_1l b0_2l b0_3 b0_4,.k1 b1_0 b1_1 b1_2 b1_3 b1_4 b1_5 b1_6 b1_7,.k13 b2_0 b2_1]⟩
def we6 (n:Nat) (x0 x1 x2 x3 x4 x5):qaa n x0 x1 x2 x3 x4 x5=j7 (qcc v7 x0 x1 x2 x3 x4 x5 ([x5.Dst]:List Int)) fun y1=>if 0<=x5.Dst/\x5.Dst<((11:Nat):Int) then (j8 (y1.2.2.1 != (0:Int)) (some (((y1.1.1.1,y1.1.1.2.1,y1.1.1.2.2.1,y1.1.1.2.2.2.1,y1.1.1.2.2.2.2.1,(),()),()),(y1.2.2.1,()))) (j8 (((y1.1.1.1.getD x5.Dst.toNat zl6).kind)==(2:Int)) (some (((y1.1.1.1,y1.1.1.2.1,y1.1.1.2.2.1,y1.1.1.2.2.2.1,y1.1.1.2.2.2.2.1,(),()),()),((114:Int),()))) (j8 (((y1.1.1.1.getD x5.Dst.toNat zl6).kind)==(1:Int)) (qc9 n true y1.1.1.1 y1.1.1.2.1 y1.1.1.2.2.1 y1.1.1.2.2.2.1 y1.1.1.2.2.2.2.1 x5.Op x5.Narrow x5.Dst x5.Src x5.UseImm x5.Off x5.Imm x5.Size y1.2.1.kind y1.2.1.n ((y1.1.1.1.getD x5.Dst.toNat zl6).kind) ((y1.1.1.1.getD x5.Dst.toNat zl6).n)) (qc9 n (y1.2.1.kind != (1:Int)) y1.1.1.1 y1.1.1.2.1 y1.1.1.2.2.1 y1.1.1.2.2.2.1 y1.1.1.2.2.2.2.1 x5.Op x5.Narrow x5.Dst x5.Src x5.UseImm x5.Off x5.Imm x5.Size y1.2.1.kind y1.2.1.n ((y1.1.1.1.getD x5.Dst.toNat zl6).kind) ((y1.1.1.1.getD x5.Dst.toNat zl6).n))))) else none:=by kernel_rfl
def vo7 (n:Nat) (s34 b0_0l b0_1l b0_2l b0_3 b0_4 b1_0 b1_1 b1_2 b1_3 b1_4 b1_5 b1_6 b1_7 b2_0 b2_1 b3_0 b3_1):qc9 (n+1) s34 b0_0l b0_1l b0_2l b0_3 b0_4 b1_0 b1_1 b1_2 b1_3 b1_4 b1_5 b1_6 b1_7 b2_0 b2_1 b3_0 b3_1=j8 s34 (some (((b0_0l,b0_1l,b0_2l,b0_3,b0_4,(),()),()),((111:Int),()))) (j7 (qcm v7 b3_1 (⟨b1_0,b1_1,b1_2,b1_3,b1_4,b1_5,b1_6,b1_7⟩:Ins)) fun y1=>j8 (y1.2 != (0:Int)) (some (((b0_0l,b0_1l,b0_2l,b0_3,b0_4,(),()),()),(y1.2,()))) (qd0 n y1.1 b1_7 (0:Int) b0_0l b0_1l b0_2l b0_3 b0_4 b1_0 b1_1 b1_2 b1_3 b1_4 b1_5 b1_6 b1_7 b2_0 b2_1)):=by kernel_rfl
def jt8 (n:Nat) (s8 s54 s55 b0_0l b0_1l b0_2l b0_3 b0_4 b1_0 b1_1 b1_2 b1_3 b1_4 b1_5 b1_6 b1_7 b2_0 b2_1):qd0 (n+1) s8 s54 s55 b0_0l b0_1l b0_2l b0_3 b0_4 b1_0 b1_1 b1_2 b1_3 b1_4 b1_5 b1_6 b1_7 b2_0 b2_1=j8 (decide (s55<s54)) (if 0<=IntKind.i64.wrap (s8+s55)/\IntKind.i64.wrap (s8+s55)<((512:Nat):Int) then (qd0 n s8 s54 (IntKind.i64.wrap (s55+(1:Int))) b0_0l b0_1l (b0_2l.set ((IntKind.i64.wrap (s8+s55)).toNat) true) b0_3 b0_4 b1_0 b1_1 b1_2 b1_3 b1_4 b1_5 b1_6 b1_7 b2_0 b2_1) else none) (j7 (qdu v7 b0_0l b0_1l b0_2l b0_3 b0_4 0 512 s8 b1_7 b2_1) fun y1=>some (((y1.1.1.1,y1.1.1.2.1,y1.1.1.2.2.1,y1.1.1.2.2.2.1,y1.1.1.2.2.2.2.1,(),()),()),(y1.2.1,()))):=by kernel_rfl
def we7:=okG vu5 func86
noncomputable def gu3:KG:=⟨eN,1,[(1,1)],[],f87,n0,[.a5,.d1],[.a3],[.a1]⟩
noncomputable def qfi (n:Nat) (x0:List Val) (x1:List Int) (x2:List Bool) (x3:List Int) (x4:Int) (x5:Ins):Option u16:=tG gu3 n ((x0,x1,x2,x3,x4,(),()),x5,())
def ua7 (n:Nat) (x0 x1 x2 x3 x4 x5):qfi n x0 x1 x2 x3 x4 x5=some (((x0,x1,x2,x3,IntKind.i64.wrap (x4+x5.Off),(),()),()),((0:Int),())):=by kernel_rfl
def ua8:=okG gu3 func87
noncomputable def kv9:KG:=⟨cE (zj8 jc4 yl5 (zj8 jc3 yl4 (q9 108))) eN,1,[],[],f88,n0,[.a5,.d1],[.a3],[.a1]⟩
noncomputable def qdf (n:Nat) (x0:List Val) (x1:List Int) (x2:List Bool) (x3:List Int) (x4:Int) (x5:Ins):Option u16:=tG kv9 n ((x0,x1,x2,x3,x4,(),()),x5,())
def wp9 (n:Nat) (x0 x1 x2 x3 x4 x5):qdf n x0 x1 x2 x3 x4 x5=j7 (qd v7 x0 x1 x2 x3 x4 ([(0:Int)]:List Int)) fun y1=>j8 (y1.2.1 != (0:Int)) (some (((x0,x1,x2,x3,x4,(),()),()),(y1.2.1,()))) (j8 (((x0.getD 0 zl6).kind) != (1:Int)) (some (((x0,x1,x2,x3,x4,(),()),()),((111:Int),()))) (none)):=by kernel_rfl
def wq0:=okG kv9 func88
noncomputable def kw0:KG:=⟨cE (zj8 jc4 yl5 (zj8 jc3 yl4 (q9 108))) eN,1,[],[],f88,n0,[.a5,.d1],[.blk 127 [.arr (.user 8) 11,.f4,.arr (.bool) 512,.b1,.a1,.ap 0 0 2 11 1]],[.a1]⟩
noncomputable def qdg (n:Nat) (x0:List Val) (x1:List Int) (x2:List Bool) (x3:List Int) (x4:Int) (x5:Ins):Option (((List Val×List Int×List Bool×List Int×Int×Nat×Unit)×Unit)×u4):=tG kw0 n ((x0,x1,x2,x3,x4,(),()),x5,())
def wq1 (n:Nat) (x0 x1 x2 x3 x4 x5):qdg n x0 x1 x2 x3 x4 x5=j7 (qd v7 x0 x1 x2 x3 x4 ([(0:Int)]:List Int)) fun y1=>j8 (y1.2.1 != (0:Int)) (none) (j8 (((x0.getD 0 zl6).kind) != (1:Int)) (none) (some (((x0,x1,x2,x3,x4,0,()),()),((0:Int),())))):=by kernel_rfl
def wq2:=okG kw0 func88
noncomputable def zx3 (x0:List Val) (x1:List Int) (x2:List Bool) (x3:List Int) (x4:Int) (x5:Ins):Bool:=(match qd v7 x0 x1 x2 x3 x4 ([(0:Int)]:List Int) with|some y1=>((y1.2.1 != (0:Int))||(((x0.getD 0 zl6).kind) != (1:Int)))|none=>false)
noncomputable def gy4:KG:=⟨cE (q8 vb9 (q8 qe5 (q9 107))) (cF kn6 eN),1,[],[([I,I,I,I],qt [3,5,7,8]),([O,I,I,I,I,I],qt [3,5,7,54])],f89,n0,[.a5,.d1],[.a3],[.a1]⟩
abbrev ky3:=Option u16
noncomputable def qw (n:Nat) (x0:List Val) (x1:List Int) (x2:List Bool) (x3:List Int) (x4:Int) (x5:Ins):ky3:=tG gy4 n ((x0,x1,x2,x3,x4,(),()),x5,())
noncomputable def qv4 (n s7k:Nat) (s8:Bool) (b0_0l:List Val) (b0_1l:List Int) (b0_2l:List Bool) (b0_3:List Int) (b0_4 b1_0:Int) (b1_1:Bool) (b1_2 b1_3:Int) (b1_4:Bool) (b1_5 b1_6 b1_7 b2_0 b2_1:Int):ky3:=uG gy4 n [I,I,I,I] ⟨[(3,.ptr 1 0),(5,.ptr 2 0),(7,.aptr 0 0 2 11 s7k 0),(8,cb s8)],[.k2 b0_0l b0_1l b0_2l b0_3 b0_4,.k1 b1_0 b1_1 b1_2 b1_3 b1_4 b1_5 b1_6 b1_7,.k13 b2_0 b2_1]⟩
noncomputable def qv5 (n s7k:Nat) (s54:Bool) (b0_0l:List Val) (b0_1l:List Int) (b0_2l:List Bool) (b0_3:List Int) (b0_4 b1_0:Int) (b1_1:Bool) (b1_2 b1_3:Int) (b1_4:Bool) (b1_5 b1_6 b1_7 b2_0 b2_1:Int):ky3:=uG gy4 n [O,I,I,I,I,I] ⟨[(3,.ptr 1 0),(5,.ptr 2 0),(7,.aptr 0 0 2 11 s7k 0),(54,cb s54)],[.k2 b0_0l b0_1l b0_2l b0_3 b0_4,.k1 b1_0 b1_1 b1_2 b1_3 b1_4 b1_5 b1_6 b1_7,.k13 b2_0 b2_1]⟩
def uk3 (n:Nat) (x0 x1 x2 x3 x4 x5):qw n x0 x1 x2 x3 x4 x5=j7 (qcc v7 x0 x1 x2 x3 x4 x5 ([x5.Dst]:List Int)) fun y1=>j8 (y1.2.2.1 != (0:Int)) (some (((y1.1.1.1,y1.1.1.2.1,y1.1.1.2.2.1,y1.1.1.2.2.2.1,y1.1.1.2.2.2.2.1,(),()),()),(y1.2.2.1,()))) (if 0<=x5.Dst/\x5.Dst<((11:Nat):Int) then (j8 (x5.Op==(1:Int)) (qv4 n x5.Dst.toNat (!x5.Narrow) y1.1.1.1 y1.1.1.2.1 y1.1.1.2.2.1 y1.1.1.2.2.2.1 y1.1.1.2.2.2.2.1 x5.Op x5.Narrow x5.Dst x5.Src x5.UseImm x5.Off x5.Imm x5.Size y1.2.1.kind y1.2.1.n) (j8 (x5.Op==(2:Int)) (qv4 n x5.Dst.toNat (!x5.Narrow) y1.1.1.1 y1.1.1.2.1 y1.1.1.2.2.1 y1.1.1.2.2.2.1 y1.1.1.2.2.2.2.1 x5.Op x5.Narrow x5.Dst x5.Src x5.UseImm x5.Off x5.Imm x5.Size y1.2.1.kind y1.2.1.n) (qv4 n x5.Dst.toNat false y1.1.1.1 y1.1.1.2.1 y1.1.1.2.2.1 y1.1.1.2.2.2.1 y1.1.1.2.2.2.2.1 x5.Op x5.Narrow x5.Dst x5.Src x5.UseImm x5.Off x5.Imm x5.Size y1.2.1.kind y1.2.1.n))) else none):=by kernel_rfl
def kf2 (n:Nat) (s7k s8 b0_0l b0_1l b0_2l b0_3 b0_4 b1_0 b1_1 b1_2 b1_3 b1_4 b1_5 b1_6 b1_7 b2_0 b2_1):qv4 (n+1) s7k s8 b0_0l b0_1l b0_2l b0_3 b0_4 b1_0 b1_1 b1_2 b1_3 b1_4 b1_5 b1_6 b1_7 b2_0 b2_1=j8 (b2_0 != (1:Int)) (qv5 n s7k true b0_0l b0_1l b0_2l b0_3 b0_4 b1_0 b1_1 b1_2 b1_3 b1_4 b1_5 b1_6 b1_7 b2_0 b2_1) (j8 (((b0_0l.getD s7k zl6).kind) != (1:Int)) (qv5 n s7k (!s8) b0_0l b0_1l b0_2l b0_3 b0_4 b1_0 b1_1 b1_2 b1_3 b1_4 b1_5 b1_6 b1_7 b2_0 b2_1) (qv5 n s7k false b0_0l b0_1l b0_2l b0_3 b0_4 b1_0 b1_1 b1_2 b1_3 b1_4 b1_5 b1_6 b1_7 b2_0 b2_1)):=by kernel_rfl
def kf3 (n:Nat) (s7k s54 b0_0l b0_1l b0_2l b0_3 b0_4 b1_0 b1_1 b1_2 b1_3 b1_4 b1_5 b1_6 b1_7 b2_0 b2_1):qv5 (n+1) s7k s54 b0_0l b0_1l b0_2l b0_3 b0_4 b1_0 b1_1 b1_2 b1_3 b1_4 b1_5 b1_6 b1_7 b2_0 b2_1=j8 s54 (some (((b0_0l,b0_1l,b0_2l,b0_3,b0_4,(),()),()),((114:Int),()))) (j7 (qcl v7 b1_0 b1_1 ((b0_0l.getD s7k zl6).n) b2_1) fun y1=>j8 (y1.2==(0:Int)) (some (((b0_0l.set s7k (⟨(b0_0l.getD s7k zl6).kind,y1.1⟩:Val),b0_1l,b0_2l,b0_3,b0_4,(),()),()),(y1.2,()))) (some (((b0_0l,b0_1l,b0_2l,b0_3,b0_4,(),()),()),(y1.2,())))):=by kernel_rfl
def uk4:=okG gy4 func89
noncomputable def ku3:KG:=⟨cE (q8 vb9 (q8 qe5 (q9 107))) (cF wr4 eN),1,[(2,1),(9,1)],[([I,I,O,O,I,I,I],qt [0,3,5,7,30])],f90,n0,[.a5,.d1],[.a3],[.a1]⟩
abbrev kl9:=Option u16
noncomputable def qaz (n:Nat) (x0:List Val) (x1:List Int) (x2:List Bool) (x3:List Int) (x4:Int) (x5:Ins):kl9:=tG ku3 n ((x0,x1,x2,x3,x4,(),()),x5,())
noncomputable def qd7 (n:Nat) (s30:Bool) (b0_0l:List Val) (b0_1l:List Int) (b0_2l:List Bool) (b0_3:List Int) (b0_4 b1_0:Int) (b1_1:Bool) (b1_2 b1_3:Int) (b1_4:Bool) (b1_5 b1_6 b1_7 b2_0 b2_1 b3_0 b3_1:Int):kl9:=uG ku3 n [I,I,O,O,I,I,I] ⟨[(0,.ptr 0 0),(3,.ptr 1 0),(5,.ptr 2 0),(7,.ptr 3 0),(30,cb s30)],[.k2 b0_0l b0_1l b0_2l b0_3 b0_4,.k1 b1_0 b1_1 b1_2 b1_3 b1_4 b1_5 b1_6 b1_7,.k13 b2_0 b2_1,.k13 b3_0 b3_1]⟩
def wj0 (n:Nat) (x0 x1 x2 x3 x4 x5):qaz n x0 x1 x2 x3 x4 x5=j7 (qcc v7 x0 x1 x2 x3 x4 x5 ([x5.Dst]:List Int)) fun y1=>if 0<=x5.Dst/\x5.Dst<((11:Nat):Int) then (j8 (y1.2.2.1 != (0:Int)) (some (((y1.1.1.1,y1.1.1.2.1,y1.1.1.2.2.1,y1.1.1.2.2.2.1,y1.1.1.2.2.2.2.1,(),()),()),(y1.2.2.1,()))) (j8 (((y1.1.1.1.getD x5.Dst.toNat zl6).kind) != (1:Int)) (qd7 n true y1.1.1.1 y1.1.1.2.1 y1.1.1.2.2.1 y1.1.1.2.2.2.1 y1.1.1.2.2.2.2.1 x5.Op x5.Narrow x5.Dst x5.Src x5.UseImm x5.Off x5.Imm x5.Size y1.2.1.kind y1.2.1.n ((y1.1.1.1.getD x5.Dst.toNat zl6).kind) ((y1.1.1.1.getD x5.Dst.toNat zl6).n)) (qd7 n (y1.2.1.kind != (1:Int)) y1.1.1.1 y1.1.1.2.1 y1.1.1.2.2.1 y1.1.1.2.2.2.1 y1.1.1.2.2.2.2.1 x5.Op x5.Narrow x5.Dst x5.Src x5.UseImm x5.Off x5.Imm x5.Size y1.2.1.kind y1.2.1.n ((y1.1.1.1.getD x5.Dst.toNat zl6).kind) ((y1.1.1.1.getD x5.Dst.toNat zl6).n)))) else none:=by kernel_rfl
def vq0 (n:Nat) (s30 b0_0l b0_1l b0_2l b0_3 b0_4 b1_0 b1_1 b1_2 b1_3 b1_4 b1_5 b1_6 b1_7 b2_0 b2_1 b3_0 b3_1):qd7 (n+1) s30 b0_0l b0_1l b0_2l b0_3 b0_4 b1_0 b1_1 b1_2 b1_3 b1_4 b1_5 b1_6 b1_7 b2_0 b2_1 b3_0 b3_1=j8 s30 (some (((b0_0l,b0_1l,b0_2l,b0_3,b0_4,(),()),()),((111:Int),()))) (j7 (qdm v7 b1_0 b1_1 b3_1 b2_1) fun y1=>j8 y1.1 (some (((b0_0l,b0_1l,b0_2l,b0_3,IntKind.i64.wrap (b0_4+b1_5),(),()),()),((0:Int),()))) (some (((b0_0l,b0_1l,b0_2l,b0_3,b0_4,(),()),()),((0:Int),())))):=by kernel_rfl
def wj1:=okG ku3 func90
noncomputable def gx8:KF:=⟨cF wt8 (cE (cs:=(CallSpec.forkS [.b2] (fun x=>ja0 x.1) ((sG kv1).toCall (zc0 TT)) (CallSpec.forkS [.b2] (fun x=>ja1 x.1) ((sG kv2).toCall (zc0 TT)) (CallSpec.forkS [.b2] (fun x=>ja2 x.1) ((sG kv3).toCall (zc0 TT)) (CallSpec.forkS [.b2] (fun x=>ja3 x.1) ((sG kv4).toCall (zc0 TT)) (CallSpec.forkS [.b2] (fun x=>ja4 x.1) ((sG kv5).toCall (zc0 TT)) (CallSpec.forkS [.b2] (fun x=>ja5 x.1) ((sG kv6).toCall (zc0 TT)) (CallSpec.forkS [.b2] (fun x=>ja6 x.1) ((sG kv7).toCall (zc0 TT)) ((sG kv8).toCall (zc0 TT)))))))))) (zb4 _ _ (q8 wo3 (q9 59)) (zb4 _ _ (q8 wo5 (q9 59)) (zb4 _ _ (q8 wo7 (q9 59)) (zb4 _ _ (q8 wp0 (q9 59)) (zb4 _ _ (q8 wp2 (q9 59)) (zb4 _ _ (q8 wp4 (q9 59)) (zb4 _ _ (q8 wp6 (q9 59)) (q8 wp8 (q9 59))))))))) (cG wf7 (cG ws0 (cG uk8 (cG we7 (cG ua8 (cE (cs:=(CallSpec.forkS [.a5,.d1] (fun x=>zx3 x.1.1 x.1.2.1 x.1.2.2.1 x.1.2.2.2.1 x.1.2.2.2.2.1 x.2.1) ((sG kv9).toCall (zc0 TT)) ((sG kw0).toCall (zc0 TT)))) (zb4 _ _ (q8 wq0 (q9 88)) (q8 wq2 (q9 88))) (cG uk4 (cG wj1 eN))))))))),0,[(7,1),(10,1),(13,1)],[([O,O,I,I,I,I,I,I],qt [0,4,6])],f40,z0,[.c7,.b1],[.val (.user 7)]⟩
noncomputable def qr (n:Nat) (x0:List Ins) (x1:List Int):Option (Outcome):=tF gx8 n (x0,x1)
noncomputable def zr7 (n:Nat) (s0:List Ins) (b0_0 b0_1 b0_2 b0_3:Int) (b1_0l:List Val) (b1_1l:List Int) (b1_2l:List Bool) (b1_3:List Int) (b1_4:Int):Option (Outcome):=uF gx8 n [O,O,I,I,I,I,I,I] ⟨[(0,.cell ⟨.list (.user 5),s0⟩),(4,.ptr 0 0),(6,.ptr 1 0)],[.k42 b0_0 b0_1 b0_2 b0_3,.k2 b1_0l b1_1l b1_2l b1_3 b1_4]⟩
noncomputable def kp3 (n:Nat) (s0:List Ins) (b0_0 b0_1 b0_2 b0_3:Int) (b1_0l:List Val) (b1_1l:List Int) (b1_2l:List Bool) (b1_3:List Int) (b1_4:Int) (b1_5k:Nat):Option (Outcome):=uF gx8 n [O,O,I,I,I,I,I,I] ⟨[(0,.cell ⟨.list (.user 5),s0⟩),(4,.ptr 0 0),(6,.ptr 1 0)],[.k42 b0_0 b0_1 b0_2 b0_3,.blk 127 [.arr (.user 8) 11 b1_0l,.arr (.int .u8) 512 b1_1l,.arr (.bool) 512 b1_2l,.cell ⟨.list (.int .u8),b1_3⟩,ci b1_4,.aptr 1 0 2 11 b1_5k 1]]⟩
def uj6 (n:Nat) (x0 x1):qr n x0 x1=j7 (qdy v7 x0) fun y1=>j8 (y1.Err != (0:Int)) (some (⟨y1.Err,y1.At,(0:Int),(0:Int)⟩:Outcome)) (j8 (decide (((x1.length:Nat):Int)>(65535:Int))) (some (⟨(3:Int),(0:Int),(0:Int),(0:Int)⟩:Outcome)) (zr7 n x0 (0:Int) (0:Int) (0:Int) (0:Int) ((((List.replicate 11 (⟨(0:Int),(0:Int)⟩:Val)).set 1 (⟨(2:Int),((List.replicate 11 (⟨(0:Int),(0:Int)⟩:Val)).getD 1 zl6).n⟩:Val)).set 10 (⟨(3:Int),(((List.replicate 11 (⟨(0:Int),(0:Int)⟩:Val)).set 1 (⟨(2:Int),((List.replicate 11 (⟨(0:Int),(0:Int)⟩:Val)).getD 1 zl6).n⟩:Val)).getD 10 zl6).n⟩:Val)).set 2 (⟨(1:Int),IntKind.u64.wrap ((x1.length:Nat):Int)⟩:Val)) (List.replicate 512 (0:Int)) (List.replicate 512 false) x1 (0:Int))):=by kernel_rfl
def kf1 (n:Nat) (s0 b0_0 b0_1 b0_2 b0_3 b1_0l b1_1l b1_2l b1_3 b1_4):zr7 (n+1) s0 b0_0 b0_1 b0_2 b0_3 b1_0l b1_1l b1_2l b1_3 b1_4=if 0<=b1_4/\b1_4<((s0.length:Nat):Int) then (j8 (decide (((s0.getD b1_4.toNat zb2).Op)=(12:Int))) (j7 (qcx v7 ((s0.getD b1_4.toNat zb2).Op)) fun y1=>j7 (qag v7 b1_0l b1_1l b1_2l b1_3 (IntKind.i64.wrap (b1_4+(1:Int))) (s0.getD b1_4.toNat zb2)) fun y2=>j8 (y2.2.1 != (0:Int)) (some (⟨y2.2.1,b1_4,(0:Int),IntKind.i64.wrap (b0_3+(1:Int))⟩:Outcome)) (zr7 n s0 b0_0 b0_1 b0_2 (IntKind.i64.wrap (b0_3+(1:Int))) y2.1.1.1 y2.1.1.2.1 y2.1.1.2.2.1 y2.1.1.2.2.2.1 y2.1.1.2.2.2.2.1)) (j8 ((!(decide (((s0.getD b1_4.toNat zb2).Op)=(12:Int))))&&(decide (((s0.getD b1_4.toNat zb2).Op)=(13:Int)))) (j7 (qcy v7 ((s0.getD b1_4.toNat zb2).Op)) fun y3=>j7 (qdp v7 b1_0l b1_1l b1_2l b1_3 (IntKind.i64.wrap (b1_4+(1:Int))) (s0.getD b1_4.toNat zb2)) fun y4=>j8 (y4.2.1 != (0:Int)) (some (⟨y4.2.1,b1_4,(0:Int),IntKind.i64.wrap (b0_3+(1:Int))⟩:Outcome)) (zr7 n s0 b0_0 b0_1 b0_2 (IntKind.i64.wrap (b0_3+(1:Int))) y4.1.1.1 y4.1.1.2.1 y4.1.1.2.2.1 y4.1.1.2.2.2.1 y4.1.1.2.2.2.2.1)) (j8 ((!(decide (((s0.getD b1_4.toNat zb2).Op)=(12:Int))))&&((!(decide (((s0.getD b1_4.toNat zb2).Op)=(13:Int))))&&(decide (((s0.getD b1_4.toNat zb2).Op)=(14:Int))))) (j7 (qcz v7 ((s0.getD b1_4.toNat zb2).Op)) fun y5=>j7 (qz v7 b1_0l b1_1l b1_2l b1_3 (IntKind.i64.wrap (b1_4+(1:Int))) (s0.getD b1_4.toNat zb2)) fun y6=>j8 (y6.2.1 != (0:Int)) (some (⟨y6.2.1,b1_4,(0:Int),IntKind.i64.wrap (b0_3+(1:Int))⟩:Outcome)) (zr7 n s0 b0_0 b0_1 b0_2 (IntKind.i64.wrap (b0_3+(1:Int))) y6.1.1.1 y6.1.1.2.1 y6.1.1.2.2.1 y6.1.1.2.2.2.1 y6.1.1.2.2.2.2.1)) (j8 ((!(decide (((s0.getD b1_4.toNat zb2).Op)=(12:Int))))&&((!(decide (((s0.getD b1_4.toNat zb2).Op)=(13:Int))))&&((!(decide (((s0.getD b1_4.toNat zb2).Op)=(14:Int))))&&(decide (((s0.getD b1_4.toNat zb2).Op)=(15:Int)))))) (j7 (qda v7 ((s0.getD b1_4.toNat zb2).Op)) fun y7=>j7 (qaa v7 b1_0l b1_1l b1_2l b1_3 (IntKind.i64.wrap (b1_4+(1:Int))) (s0.getD b1_4.toNat zb2)) fun y8=>j8 (y8.2.1 != (0:Int)) (some (⟨y8.2.1,b1_4,(0:Int),IntKind.i64.wrap (b0_3+(1:Int))⟩:Outcome)) (zr7 n s0 b0_0 b0_1 b0_2 (IntKind.i64.wrap (b0_3+(1:Int))) y8.1.1.1 y8.1.1.2.1 y8.1.1.2.2.1 y8.1.1.2.2.2.1 y8.1.1.2.2.2.2.1)) (j8 ((!(decide (((s0.getD b1_4.toNat zb2).Op)=(12:Int))))&&((!(decide (((s0.getD b1_4.toNat zb2).Op)=(13:Int))))&&((!(decide (((s0.getD b1_4.toNat zb2).Op)=(14:Int))))&&((!(decide (((s0.getD b1_4.toNat zb2).Op)=(15:Int))))&&(decide (((s0.getD b1_4.toNat zb2).Op)=(16:Int))))))) (j7 (qdb v7 ((s0.getD b1_4.toNat zb2).Op)) fun y9=>j7 (qfi v7 b1_0l b1_1l b1_2l b1_3 (IntKind.i64.wrap (b1_4+(1:Int))) (s0.getD b1_4.toNat zb2)) fun y10=>j8 (y10.2.1 != (0:Int)) (some (⟨y10.2.1,b1_4,(0:Int),IntKind.i64.wrap (b0_3+(1:Int))⟩:Outcome)) (zr7 n s0 b0_0 b0_1 b0_2 (IntKind.i64.wrap (b0_3+(1:Int))) y10.1.1.1 y10.1.1.2.1 y10.1.1.2.2.1 y10.1.1.2.2.2.1 y10.1.1.2.2.2.2.1)) (j8 ((!(decide (((s0.getD b1_4.toNat zb2).Op)=(12:Int))))&&((!(decide (((s0.getD b1_4.toNat zb2).Op)=(13:Int))))&&((!(decide (((s0.getD b1_4.toNat zb2).Op)=(14:Int))))&&((!(decide (((s0.getD b1_4.toNat zb2).Op)=(15:Int))))&&((!(decide (((s0.getD b1_4.toNat zb2).Op)=(16:Int))))&&(decide (((s0.getD b1_4.toNat zb2).Op)=(28:Int)))))))) (j7 (qdc v7 ((s0.getD b1_4.toNat zb2).Op)) fun y11=>j8 (match qd v7 b1_0l b1_1l b1_2l b1_3 (IntKind.i64.wrap (b1_4+(1:Int))) ([(0:Int)]:List Int) with|some y1=>((y1.2.1 != (0:Int))||(((b1_0l.getD 0 zl6).kind) != (1:Int)))|none=>false) (j7 (qdf v7 b1_0l b1_1l b1_2l b1_3 (IntKind.i64.wrap (b1_4+(1:Int))) (s0.getD b1_4.toNat zb2)) fun y12=>j8 (y12.2.1 != (0:Int)) (some (⟨y12.2.1,b1_4,(0:Int),IntKind.i64.wrap (b0_3+(1:Int))⟩:Outcome)) (zr7 n s0 b0_0 b0_1 b0_2 (IntKind.i64.wrap (b0_3+(1:Int))) y12.1.1.1 y12.1.1.2.1 y12.1.1.2.2.1 y12.1.1.2.2.2.1 y12.1.1.2.2.2.2.1)) (j7 (qdg v7 b1_0l b1_1l b1_2l b1_3 (IntKind.i64.wrap (b1_4+(1:Int))) (s0.getD b1_4.toNat zb2)) fun y13=>j8 (y13.2.1 != (0:Int)) (some (⟨y13.2.1,b1_4,(0:Int),IntKind.i64.wrap (b0_3+(1:Int))⟩:Outcome)) (kp3 n s0 b0_0 b0_1 b0_2 (IntKind.i64.wrap (b0_3+(1:Int))) y13.1.1.1 y13.1.1.2.1 y13.1.1.2.2.1 y13.1.1.2.2.2.1 y13.1.1.2.2.2.2.1 y13.1.1.2.2.2.2.2.1))) (j8 ((!(decide (((s0.getD b1_4.toNat zb2).Op)=(12:Int))))&&((!(decide (((s0.getD b1_4.toNat zb2).Op)=(13:Int))))&&((!(decide (((s0.getD b1_4.toNat zb2).Op)=(14:Int))))&&((!(decide (((s0.getD b1_4.toNat zb2).Op)=(15:Int))))&&((!(decide (((s0.getD b1_4.toNat zb2).Op)=(16:Int))))&&((!(decide (((s0.getD b1_4.toNat zb2).Op)=(28:Int))))&&(decide (((s0.getD b1_4.toNat zb2).Op)<(12:Int))))))))) (j7 (qdd v7 ((s0.getD b1_4.toNat zb2).Op)) fun y14=>j7 (qw v7 b1_0l b1_1l b1_2l b1_3 (IntKind.i64.wrap (b1_4+(1:Int))) (s0.getD b1_4.toNat zb2)) fun y15=>j8 (y15.2.1 != (0:Int)) (some (⟨y15.2.1,b1_4,(0:Int),IntKind.i64.wrap (b0_3+(1:Int))⟩:Outcome)) (zr7 n s0 b0_0 b0_1 b0_2 (IntKind.i64.wrap (b0_3+(1:Int))) y15.1.1.1 y15.1.1.2.1 y15.1.1.2.2.1 y15.1.1.2.2.2.1 y15.1.1.2.2.2.2.1)) (j7 (qde v7 ((s0.getD b1_4.toNat zb2).Op)) fun y16=>j7 (qaz v7 b1_0l b1_1l b1_2l b1_3 (IntKind.i64.wrap (b1_4+(1:Int))) (s0.getD b1_4.toNat zb2)) fun y17=>j8 (y17.2.1 != (0:Int)) (some (⟨y17.2.1,b1_4,(0:Int),IntKind.i64.wrap (b0_3+(1:Int))⟩:Outcome)) (zr7 n s0 b0_0 b0_1 b0_2 (IntKind.i64.wrap (b0_3+(1:Int))) y17.1.1.1 y17.1.1.2.1 y17.1.1.2.2.1 y17.1.1.2.2.2.1 y17.1.1.2.2.2.2.1))))))))) else none:=by kernel_rfl
def vq5 (n:Nat) (s0 b0_0 b0_1 b0_2 b0_3 b1_0l b1_1l b1_2l b1_3 b1_4 b1_5k):kp3 (n+1) s0 b0_0 b0_1 b0_2 b0_3 b1_0l b1_1l b1_2l b1_3 b1_4 b1_5k=some (⟨b0_0,b0_1,(b1_0l.getD b1_5k zl6).n,b0_3⟩:Outcome):=by kernel_rfl
def uj7:=okF gx8 func40
end Go.X
