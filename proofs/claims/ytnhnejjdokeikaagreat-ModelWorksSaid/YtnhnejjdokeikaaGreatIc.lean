import Derived.Test.YtnhnejjdokeikaaGreatIb
set_option linter.defProp false
namespace Go.X
open Go.RowKit Go.V Go.Proofs Tryz
noncomputable def gm5:KG:=⟨eN,0,[],[],f158,n0,[],[],[.arr (.bool) 9]⟩
noncomputable def qcn (n:Nat):Option (Unit×(List Bool×Unit)):=tG gm5 n ()
def wk3 (n:Nat):qcn n=some ((),(([O,I,I,O,I,O,O,O,I]:List Bool),())):=by kernel_rfl
def kn2:=okG gm5 func158
noncomputable def ko6:KP:=⟨⟨cG kn2 eN,0,[],[([I],qt [0,1,2]),([O,I],qt [0,1,2,19])],f125,n0,[.b1,.a1,.a1],[],[]⟩,.ifc 25 (.val (.int .i64))⟩
abbrev kw8:=Option (Unit×(Unit⊕u4))
noncomputable def qw (n:Nat) (x0:List Int) (x1 x2:Int):kw8:=tP ko6 n (x0,x1,x2,())
noncomputable def qu5 (n:Nat) (s0:List Int) (s1 s2:Int) (s19:Bool):kw8:=uP ko6 n [O,I] ⟨[(0,.cell ⟨.list (.int .u8),s0⟩),(1,ci s1),(2,ci s2),(19,cb s19)],[]⟩
noncomputable def gw0 (n:Nat) (s0:List Int) (s1 s2:Int):kw8:=uP ko6 n [I] ⟨[(0,.cell ⟨.list (.int .u8),s0⟩),(1,ci s1),(2,ci s2)],[]⟩
def uh6 (n:Nat) (x0 x1 x2):qw n x0 x1 x2=j7 (qcn v8) fun y1=>j9 (decide (x2<(0:Int))) (qu5 n x0 x1 x2 true) (j9 (decide (x2>=(9:Int))) (qu5 n x0 x1 x2 true) (if 0<=x2/\x2<((9:Nat):Int) then (qu5 n x0 x1 x2 (!(y1.2.1.getD x2.toNat false))) else none)):=by kernel_rfl
def ke4 (n:Nat) (s0 s1 s2 s19):qu5 (n+1) s0 s1 s2 s19=j9 s19 (some ((),.inr ((2:Int),()))) (gw0 n s0 s1 s2):=by kernel_rfl
def ke3 (n:Nat) (s0 s1 s2):gw0 (n+1) s0 s1 s2=j9 (decide (s1<(0:Int))) (some ((),.inr ((112:Int),()))) (j9 (decide (s1>(IntKind.i64.wrap (((s0.length:Nat):Int)-s2)))) (some ((),.inr ((112:Int),()))) (some ((),.inl ()))):=by kernel_rfl
def gw1:=okP ko6 func125
noncomputable def vt8:KG:=⟨eN,0,[],[],f126,n0,[.a1,.a1],[],[.fn 159 [] [.d7,.e8]]⟩
noncomputable def qcb (n:Nat) (x0 x1:Int):Option (Unit×((Unit×(u4×u4×Unit))×Unit)):=tG vt8 n (x0,x1,())
def km1 (n:Nat) (x0 x1):qcb n x0 x1=some ((),(((),((x1,()),(x0,()),())),())):=by kernel_rfl
def km2:=okG vt8 func126
noncomputable def qab_C:Ctx TT:=⟨yt3,[(125,(sP ko6).toCall (zb9 TT)),(126,(sG vt8).toCall (zb9 TT))],4,[(4,1)],zt7,ys5,yt1⟩
def gc5:zc4 TT prog qab_C.E:=jk4 (ze8 gw1 (q9 125)) (jk4 (q8 km2 (q9 126)) (zl6))
noncomputable def qy2:RfP TT:=⟨2,159,(gi0 3 2),[12,0,3]⟩
noncomputable def qab (x0:List Int) (x1 x2 x3:Int):Option ((u11×u4×u4×u4×Unit)×(Unit⊕u4)):=uc0 TT prog qab_C f124 (zb0 f124) ⟨[],[],[],[],[]⟩ [.ptr 0 34 [.b1],.e8,.d7,.b7] [.blk 34 [.b1],.f2,.e1,.c1] [] (.ifc 25 (.val (.int .i64))) qy2 ((x0,()),(x1,()),(x2,()),(x3,()),())
noncomputable def jl3 (m k:Nat) (b0_0:List Int) (b1_0:Int) (b2_0:Int) (b3_0:Int) (b4_0:Int) (b5_0:Int):Option ((u11×u4×u4×u4×Unit)×(Unit⊕u4)):=vi1 TT prog qab_C f124 (zb0 f124) ⟨[],[],[],[],[]⟩ [.blk 34 [.b1],.f2,.e1,.c1] [] (.ifc 25 (.val (.int .i64))) qy2 [.ptr 4 0,.ptr 5 0] m k (⟨[(12,.fn (.func 159) [] [.ptr 4 0,.ptr 5 0]),(0,.ptr 0 0),(3,.ptr 3 0)],[.blk 34 [.cell ⟨.list (.int .u8),b0_0⟩],.blk 2 [.cell ⟨.int .i64,b1_0⟩],.blk 3 [.cell ⟨.int .i64,b2_0⟩],.blk 37 [.cell ⟨.int .u64,b3_0⟩],.blk 3 [.cell ⟨.int .i64,b4_0⟩],.blk 2 [.cell ⟨.int .i64,b5_0⟩]]⟩:St TT)
def qf5 (k:Nat) (b0_0:List Int) (b1_0:Int) (b2_0:Int) (b3_0:Int) (b4_0:Int) (b5_0:Int):jl3 0 k b0_0 b1_0 b2_0 b3_0 b4_0 b5_0=some (((b0_0,()),(b1_0,()),(b2_0,()),(b3_0,()),()),.inl ()):=by kernel_rfl
def qf4 (m k:Nat) (b0_0:List Int) (b1_0:Int) (b2_0:Int) (b3_0:Int) (b4_0:Int) (b5_0:Int):jl3 (m+1) k b0_0 b1_0 b2_0 b3_0 b4_0 b5_0=if 0<=IntKind.i64.wrap (b5_0+(k:Int))/\IntKind.i64.wrap (b5_0+(k:Int))<((b0_0.length:Nat):Int) then (if IntKind.i64.wrap (8*IntKind.i64.wrap (IntKind.i64.wrap (b4_0-1)-(k:Int)))<0 then none else (jl3 m (k+1) b0_0 b1_0 b2_0 (bOr .u64 b3_0 (zm2 .u64 (IntKind.u64.wrap (b0_0.getD ((IntKind.i64.wrap (b5_0+(k:Int))).toNat) (0:Int))) (IntKind.i64.wrap (8*IntKind.i64.wrap (IntKind.i64.wrap (b4_0-1)-(k:Int)))))) b4_0 b5_0)) else none:=by kernel_rfl
def wc3 (x0:List Int) (x1 x2 x3):qab x0 x1 x2 x3=j7 (qw v8 x0 x1 x2) fun y1=>match y1.2 with| .inl z1=>(j7 (qcb v8 x1 x2) fun y2=>match j9 (decide (y2.2.1.2.1.1<=8)) (some y2.2.1.2.1.1.toNat) none with|some N=>jl3 N 0 x0 x1 x2 x3 y2.2.1.2.1.1 y2.2.1.2.2.1.1|none=>none)| .inr e1=>(some (((x0,()),(x1,()),(x2,()),(x3,()),()),.inr (e1.1,()))):=by kernel_rfl
noncomputable def qab_sp:PSpec TT:=⟨[.ptr 0 34 [.b1],.e8,.d7,.b7],[.blk 34 [.b1],.f2,.e1,.c1],[],.ifc 25 (.val (.int .i64)),fun x=>qab x.1.1 x.2.1.1 x.2.2.1.1 x.2.2.2.1.1⟩
def wc4:POk TT prog 124 qab_sp:=vf7 (C:=qab_C) (D:=qy2) (by kernel_rfl) gc5 func124 (show f124.body=some (zb0 f124) by kernel_rfl) (by kernel_rfl) (by kernel_rfl) (by kernel_rfl) jr9 fun x y h=>h
noncomputable def qbf_C:Ctx TT:=⟨yt3,[],1,[],zt7,ys5,yt1⟩
def gd5:zc4 TT prog qbf_C.E:=zl6
noncomputable def qbf (x0:Int):Option (u4×Unit):=yr8 prog qbf_C f157 (zb0 f157) [.f1] (.rw 1) [.blk 25 [.a1]] ((x0,()),(),())
def kl6 (x0:Int):qbf x0=some ((x0,()),()):=by kernel_rfl
noncomputable def jy0:DSpec TT:=⟨[.f1],.rw 1,[.blk 25 [.a1]],fun x=>qbf x.1.1⟩
def vg2:DOk TT prog 157 jy0:=yj8 (C:=qbf_C) (by kernel_rfl) gd5 func157 (show f157.body=some (zb0 f157) by kernel_rfl) (by kernel_rfl) (by kernel_rfl) (by kernel_rfl) (by kernel_rfl) fun x y h=>h
noncomputable def qbg_C:Ctx TT:=⟨yt3,[],1,[],zt7,ys5,yt1⟩
def gd6:zc4 TT prog qbg_C.E:=zl6
noncomputable def qbg (x0 x1:Int):Option (u4×Unit):=yr8 prog qbg_C f157 (zb0 f157) [.f1] (.ifc 25 (.val (.int .i64))) [.blk 25 [.a1]] ((x0,()),x1,())
def kl7 (x0:Int) (x1):qbg x0 x1=some ((x1,()),()):=by kernel_rfl
noncomputable def jy1:DSpec TT:=⟨[.f1],.ifc 25 (.val (.int .i64)),[.blk 25 [.a1]],fun x=>qbg x.1.1 x.2.1⟩
def vg3:DOk TT prog 157 jy1:=yj8 (C:=qbg_C) (by kernel_rfl) gd6 func157 (show f157.body=some (zb0 f157) by kernel_rfl) (by kernel_rfl) (by kernel_rfl) (by kernel_rfl) (by kernel_rfl) fun x y h=>h
noncomputable def qat_C:Ctx TT:=⟨yt3,[(124,qab_sp.toCall (zb9 TT))],4,[],zt7,ys5,yt1⟩
def gc8:zc4 TT prog qat_C.E:=jk4 (ze8 wc4 (q9 124)) (zl6)
def qk6:List (Pos×Cut):= []
noncomputable def gj9:DefP TT:=⟨1,3,[3,0,2],5,157,[(4,0)],jy0,jy1⟩
noncomputable def qat (n:Nat) (x0:List Int) (x1 x2 x3:Int):Option ((u11×u4×u4×u4×Unit)×u4):=vw9 prog qat_C qk6 f123 (zb0 f123) ⟨[],[],[],[],[]⟩ [.fn 124 [] [.ptr 0 34 [.b1],.e8,.d7,.b7]] [.blk 34 [.b1],.f2,.e1,.c1] [.a1] gj9 n (((),((x0,()),(x1,()),(x2,()),(x3,()),())),())
def wf2 (n:Nat) (x0 x1 x2 x3):qat n x0 x1 x2 x3=j7 (qab x0 x1 x2 x3) fun y1=>match y1.2 with| .inl z1=>(j7 (qbf (0:Int)) fun y2=>some (((y1.1.1.1,()),(y1.1.2.1.1,()),(y1.1.2.2.1.1,()),(y1.1.2.2.2.1.1,()),()),(y2.1.1,())))| .inr e1=>(j7 (qbg (0:Int) e1.1) fun y3=>some (((y1.1.1.1,()),(y1.1.2.1.1,()),(y1.1.2.2.1.1,()),(y1.1.2.2.2.1.1,()),()),(y3.1.1,()))):=by kernel_rfl
noncomputable def wf3:GSpec TT:=⟨[.fn 124 [] [.ptr 0 34 [.b1],.e8,.d7,.b7]],[.blk 34 [.b1],.f2,.e1,.c1],[.a1],fun x=>qat v8 x.1.2.1.1 x.1.2.2.1.1 x.1.2.2.2.1.1 x.1.2.2.2.2.1.1⟩
def kk9:GOk TT prog 123 wf3:=yk2 (C:=qat_C) (cuts:=qk6) (D:=gj9) (by kernel_rfl) gc8 func123 (show f123.body=some (zb0 f123) by kernel_rfl) (by kernel_rfl) (by kernel_rfl) (by kernel_rfl) vg2 vg3 fun x y h=>⟨v8,h⟩
noncomputable def gn3:KF:=⟨cG kk9 eN,0,[],[],f110,z0,[.b1,.a1,.a1],[.a6,.a1]⟩
noncomputable def qdg (n:Nat) (x0:List Int) (x1 x2:Int):Option (Int×Int):=tF gn3 n (x0,x1,x2)
def wn5 (n:Nat) (x0 x1 x2):qdg n x0 x1 x2=j7 (qat v8 x0 x1 x2 (0:Int)) fun y1=>some (y1.1.2.2.2.1.1,y1.2.1):=by kernel_rfl
def wn6:=okF gn3 func110
noncomputable def kt7:KG:=⟨eN,0,[],[],f59,n0,[.b2],[],[.fn 83 [] []]⟩
noncomputable def qcu (n:Nat) (x0:Int):Option u14:=tG kt7 n (x0,())
def wl1 (n:Nat) (x0):qcu n x0=if x0=(12:Int) then (some ((),(((),()),()))) else (if x0=(13:Int) then (none) else (if x0=(14:Int) then (none) else (if x0=(15:Int) then (none) else (if x0=(16:Int) then (none) else (if x0=(28:Int) then (none) else (j9 (decide (x0<(12:Int))) (none) (none))))))):=by kernel_rfl
def wl2:=okG kt7 func59
noncomputable def kt8:KG:=⟨eN,0,[],[],f59,n0,[.b2],[],[.fn 84 [] []]⟩
noncomputable def qcv (n:Nat) (x0:Int):Option u14:=tG kt8 n (x0,())
def wl3 (n:Nat) (x0):qcv n x0=if x0=(12:Int) then (none) else (if x0=(13:Int) then (some ((),(((),()),()))) else (if x0=(14:Int) then (none) else (if x0=(15:Int) then (none) else (if x0=(16:Int) then (none) else (if x0=(28:Int) then (none) else (j9 (decide (x0<(12:Int))) (none) (none))))))):=by kernel_rfl
def wl4:=okG kt8 func59
noncomputable def kt9:KG:=⟨eN,0,[],[],f59,n0,[.b2],[],[.fn 85 [] []]⟩
noncomputable def qcw (n:Nat) (x0:Int):Option u14:=tG kt9 n (x0,())
def wl5 (n:Nat) (x0):qcw n x0=if x0=(12:Int) then (none) else (if x0=(13:Int) then (none) else (if x0=(14:Int) then (some ((),(((),()),()))) else (if x0=(15:Int) then (none) else (if x0=(16:Int) then (none) else (if x0=(28:Int) then (none) else (j9 (decide (x0<(12:Int))) (none) (none))))))):=by kernel_rfl
def wl6:=okG kt9 func59
noncomputable def ku0:KG:=⟨eN,0,[],[],f59,n0,[.b2],[],[.fn 86 [] []]⟩
noncomputable def qcx (n:Nat) (x0:Int):Option u14:=tG ku0 n (x0,())
def wl7 (n:Nat) (x0):qcx n x0=if x0=(12:Int) then (none) else (if x0=(13:Int) then (none) else (if x0=(14:Int) then (none) else (if x0=(15:Int) then (some ((),(((),()),()))) else (if x0=(16:Int) then (none) else (if x0=(28:Int) then (none) else (j9 (decide (x0<(12:Int))) (none) (none))))))):=by kernel_rfl
def wl8:=okG ku0 func59
noncomputable def ku1:KG:=⟨eN,0,[],[],f59,n0,[.b2],[],[.fn 87 [] []]⟩
noncomputable def qcy (n:Nat) (x0:Int):Option u14:=tG ku1 n (x0,())
def wl9 (n:Nat) (x0):qcy n x0=if x0=(12:Int) then (none) else (if x0=(13:Int) then (none) else (if x0=(14:Int) then (none) else (if x0=(15:Int) then (none) else (if x0=(16:Int) then (some ((),(((),()),()))) else (if x0=(28:Int) then (none) else (j9 (decide (x0<(12:Int))) (none) (none))))))):=by kernel_rfl
def wm0:=okG ku1 func59
noncomputable def ku2:KG:=⟨eN,0,[],[],f59,n0,[.b2],[],[.fn 88 [] []]⟩
noncomputable def qcz (n:Nat) (x0:Int):Option u14:=tG ku2 n (x0,())
def wm1 (n:Nat) (x0):qcz n x0=if x0=(12:Int) then (none) else (if x0=(13:Int) then (none) else (if x0=(14:Int) then (none) else (if x0=(15:Int) then (none) else (if x0=(16:Int) then (none) else (if x0=(28:Int) then (some ((),(((),()),()))) else (j9 (decide (x0<(12:Int))) (none) (none))))))):=by kernel_rfl
def wm2:=okG ku2 func59
noncomputable def ku3:KG:=⟨eN,0,[],[],f59,n0,[.b2],[],[.fn 89 [] []]⟩
noncomputable def qda (n:Nat) (x0:Int):Option u14:=tG ku3 n (x0,())
def wm3 (n:Nat) (x0):qda n x0=if x0=(12:Int) then (none) else (if x0=(13:Int) then (none) else (if x0=(14:Int) then (none) else (if x0=(15:Int) then (none) else (if x0=(16:Int) then (none) else (if x0=(28:Int) then (none) else (j9 (decide (x0<(12:Int))) (some ((),(((),()),()))) (none))))))):=by kernel_rfl
def wm4:=okG ku3 func59
noncomputable def ku4:KG:=⟨eN,0,[],[],f59,n0,[.b2],[],[.fn 90 [] []]⟩
noncomputable def qdb (n:Nat) (x0:Int):Option u14:=tG ku4 n (x0,())
def wm5 (n:Nat) (x0):qdb n x0=if x0=(12:Int) then (none) else (if x0=(13:Int) then (none) else (if x0=(14:Int) then (none) else (if x0=(15:Int) then (none) else (if x0=(16:Int) then (none) else (if x0=(28:Int) then (none) else (j9 (decide (x0<(12:Int))) (none) (some ((),(((),()),()))))))))):=by kernel_rfl
def wm6:=okG ku4 func59
noncomputable def yz4 (x0:Int):Bool:=(decide (x0=(12:Int)))
noncomputable def yz5 (x0:Int):Bool:=((!(decide (x0=(12:Int))))&&(decide (x0=(13:Int))))
noncomputable def yz6 (x0:Int):Bool:=((!(decide (x0=(12:Int))))&&((!(decide (x0=(13:Int))))&&(decide (x0=(14:Int)))))
noncomputable def yz7 (x0:Int):Bool:=((!(decide (x0=(12:Int))))&&((!(decide (x0=(13:Int))))&&((!(decide (x0=(14:Int))))&&(decide (x0=(15:Int))))))
noncomputable def yz8 (x0:Int):Bool:=((!(decide (x0=(12:Int))))&&((!(decide (x0=(13:Int))))&&((!(decide (x0=(14:Int))))&&((!(decide (x0=(15:Int))))&&(decide (x0=(16:Int)))))))
noncomputable def yz9 (x0:Int):Bool:=((!(decide (x0=(12:Int))))&&((!(decide (x0=(13:Int))))&&((!(decide (x0=(14:Int))))&&((!(decide (x0=(15:Int))))&&((!(decide (x0=(16:Int))))&&(decide (x0=(28:Int))))))))
noncomputable def ja0 (x0:Int):Bool:=((!(decide (x0=(12:Int))))&&((!(decide (x0=(13:Int))))&&((!(decide (x0=(14:Int))))&&((!(decide (x0=(15:Int))))&&((!(decide (x0=(16:Int))))&&((!(decide (x0=(28:Int))))&&(decide (x0<(12:Int)))))))))
noncomputable def ge5:KG:=⟨eN,2,[],[([O,I,O,I],qt [0,7,8,9])],f108,n0,[.a5,.d3],[.a3,.d3],[.a1]⟩
abbrev gp1:=Option ((u5×List Int×Unit)×u4)
noncomputable def qe (n:Nat) (x0:List Val) (x1:List Int) (x2:List Bool) (x3:List Int) (x4:Int) (x5:List Int):gp1:=tG ge5 n ((x0,x1,x2,x3,x4,(),()),x5,())
noncomputable def vu1 (n:Nat) (s8 s9:Int) (b0_0l:List Val) (b0_1l:List Int) (b0_2l:List Bool) (b0_3:List Int) (b0_4:Int) (r1:List Int):gp1:=uG ge5 n [O,I,O,I] ⟨[(0,.ptr 0 0),(7,.own 1),(8,ci s8),(9,ci s9)],[.k2 b0_0l b0_1l b0_2l b0_3 b0_4,.k39 r1]⟩
def uf4 (n:Nat) (x0 x1 x2 x3 x4 x5):qe n x0 x1 x2 x3 x4 x5=vu1 n ((x5.length:Nat):Int) (0:Int) x0 x1 x2 x3 x4 x5:=by kernel_rfl
def kc8 (n:Nat) (s8 s9 b0_0l b0_1l b0_2l b0_3 b0_4 r1):vu1 (n+1) s8 s9 b0_0l b0_1l b0_2l b0_3 b0_4 r1=j9 (decide (s9<s8)) (if 0<=s9/\s9<((r1.length:Nat):Int) then (if 0<=r1.getD s9.toNat (0:Int)/\r1.getD s9.toNat (0:Int)<((11:Nat):Int) then (j9 (((b0_0l.getD ((r1.getD s9.toNat (0:Int)).toNat) zl5).kind)==(0:Int)) (some (((b0_0l,b0_1l,b0_2l,b0_3,b0_4,(),()),r1,()),((110:Int),()))) (vu1 n s8 (IntKind.i64.wrap (s9+(1:Int))) b0_0l b0_1l b0_2l b0_3 b0_4 r1)) else none) else none) (some (((b0_0l,b0_1l,b0_2l,b0_3,b0_4,(),()),r1,()),((0:Int),()))):=by kernel_rfl
def uf5:=okG ge5 func108
def qf8: ∀(n:Nat) (s8:Int) (s9:Int) (b0_0l:List Val) (b0_1l:List Int) (b0_2l:List Bool) (b0_3:List Int) (b0_4:Int) (r1:List Int) (y),vu1 n s8 s9 b0_0l b0_1l b0_2l b0_3 b0_4 r1=some y->y.1.1=(b0_0l,b0_1l,b0_2l,b0_3,b0_4,(),()):=by
 intro n;induction n with
 |zero=>
  intro s8 s9 b0_0l b0_1l b0_2l b0_3 b0_4 r1 y h;exact absurd h (by intro h;cases h)
 |succ n ih=>
  intro s8 s9 b0_0l b0_1l b0_2l b0_3 b0_4 r1 y h;rw [kc8] at h
  try simp only [j9] at h
  repeat' split at h
  all_goals first|(cases h;done)|(cases h;rfl)|exact ih _ _ _ _ _ _ _ _ _ h
def kc9 (n:Nat) (x0:List Val) (x1:List Int) (x2:List Bool) (x3:List Int) (x4:Int) (x5:List Int) (y) (h:qe n x0 x1 x2 x3 x4 x5=some y):y.1.1=(x0,x1,x2,x3,x4,(),()):=by
 rw [uf4] at h
 try simp only [j9] at h
 repeat' split at h
 all_goals first|(cases h;done)|(cases h;rfl)|exact qf8 _ _ _ _ _ _ _ _ _ _ h
noncomputable def qe_ksp:KSpec TT:=⟨0,127,[.arr (.user 8) 11,.f3,.arr (.bool) 512,.b1,.a1,.nilp],[.d3],[.d3],[.a1],(sG ge5).g⟩
def yl0: ∀x y,qe_ksp.g x=some y->y.1.1=x.1:=by
 intro x y h;have e:qe_ksp.g x=qe v8 x.1.1 x.1.2.1 x.1.2.2.1 x.1.2.2.2.1 x.1.2.2.2.2.1 x.2.1:=by kernel_rfl
 exact kc9 v8 x.1.1 x.1.2.1 x.1.2.2.1 x.1.2.2.2.1 x.1.2.2.2.2.1 x.2.1 y (e.symm.trans h)
def wr2:qe_ksp.toG=(sG ge5):=by kernel_rfl
def jb6:GOk TT prog 108 qe_ksp.toG:=wr2▸uf5
noncomputable def gk5:KF:=⟨eN,0,[],[],f111,z0,[.a1],[.a6]⟩
noncomputable def qbk (n:Nat) (x0:Int):Option (Int):=tF gk5 n x0
def qc4 (n:Nat) (x0):qbk n x0=some (IntKind.u64.wrap x0):=by kernel_rfl
def qc5:=okF gk5 func111
noncomputable def ge6:KG:=⟨eN,1,[],[([O,I,O,I],⟨[0,7,8,9],[(7,3,.int .i64)],false,[],0,false⟩)],f108,n0,[.a5,.nils],[.a3],[.a1]⟩
abbrev gu1:=Option u16
noncomputable def qi (n:Nat) (x0:List Val) (x1:List Int) (x2:List Bool) (x3:List Int) (x4:Int):gu1:=tG ge6 n ((x0,x1,x2,x3,x4,(),()),(),())
noncomputable def vu2 (n:Nat) (s8 s9:Int) (b0_0l:List Val) (b0_1l:List Int) (b0_2l:List Bool) (b0_3:List Int) (b0_4:Int) (r1:List Int):gu1:=uG ge6 n [O,I,O,I] ⟨[(0,.ptr 0 0),(7,.own 1),(8,ci s8),(9,ci s9)],[.k2 b0_0l b0_1l b0_2l b0_3 b0_4,.k39 r1]⟩
def uf8 (n:Nat) (x0 x1 x2 x3 x4):qi n x0 x1 x2 x3 x4=vu2 n (0:Int) (0:Int) x0 x1 x2 x3 x4 ([]:List Int):=by kernel_rfl
def kd1 (n:Nat) (s8 s9 b0_0l b0_1l b0_2l b0_3 b0_4 r1):vu2 (n+1) s8 s9 b0_0l b0_1l b0_2l b0_3 b0_4 r1=j9 (decide (s9<s8)) (if 0<=s9/\s9<((r1.length:Nat):Int) then (if 0<=r1.getD s9.toNat (0:Int)/\r1.getD s9.toNat (0:Int)<((11:Nat):Int) then (j9 (((b0_0l.getD ((r1.getD s9.toNat (0:Int)).toNat) zl5).kind)==(0:Int)) (some (((b0_0l,b0_1l,b0_2l,b0_3,b0_4,(),()),()),((110:Int),()))) (vu2 n s8 (IntKind.i64.wrap (s9+(1:Int))) b0_0l b0_1l b0_2l b0_3 b0_4 r1)) else none) else none) (some (((b0_0l,b0_1l,b0_2l,b0_3,b0_4,(),()),()),((0:Int),()))):=by kernel_rfl
def uf9:=okG ge6 func108
def qf9: ∀(n:Nat) (s8:Int) (s9:Int) (b0_0l:List Val) (b0_1l:List Int) (b0_2l:List Bool) (b0_3:List Int) (b0_4:Int) (r1:List Int) (y),vu2 n s8 s9 b0_0l b0_1l b0_2l b0_3 b0_4 r1=some y->y.1.1=(b0_0l,b0_1l,b0_2l,b0_3,b0_4,(),()):=by
 intro n;induction n with
 |zero=>
  intro s8 s9 b0_0l b0_1l b0_2l b0_3 b0_4 r1 y h;exact absurd h (by intro h;cases h)
 |succ n ih=>
  intro s8 s9 b0_0l b0_1l b0_2l b0_3 b0_4 r1 y h;rw [kd1] at h
  try simp only [j9] at h
  repeat' split at h
  all_goals first|(cases h;done)|(cases h;rfl)|exact ih _ _ _ _ _ _ _ _ _ h
def kd2 (n:Nat) (x0:List Val) (x1:List Int) (x2:List Bool) (x3:List Int) (x4:Int) (y) (h:qi n x0 x1 x2 x3 x4=some y):y.1.1=(x0,x1,x2,x3,x4,(),()):=by
 rw [uf8] at h
 try simp only [j9] at h
 repeat' split at h
 all_goals first|(cases h;done)|(cases h;rfl)|exact qf9 _ _ _ _ _ _ _ _ _ _ h
noncomputable def qi_ksp:KSpec TT:=⟨0,127,[.arr (.user 8) 11,.f3,.arr (.bool) 512,.b1,.a1,.nilp],[.nils],[],[.a1],(sG ge6).g⟩
def yl1: ∀x y,qi_ksp.g x=some y->y.1.1=x.1:=by
 intro x y h;have e:qi_ksp.g x=qi v8 x.1.1 x.1.2.1 x.1.2.2.1 x.1.2.2.2.1 x.1.2.2.2.2.1:=by kernel_rfl
 exact kd2 v8 x.1.1 x.1.2.1 x.1.2.2.1 x.1.2.2.2.1 x.1.2.2.2.2.1 y (e.symm.trans h)
def wz1:qi_ksp.toG=(sG ge6):=by kernel_rfl
def jb7:GOk TT prog 108 qi_ksp.toG:=wz1▸uf9
noncomputable def gl8:KG:=⟨cE (zj7 jb7 yl1 (zj7 jb6 yl0 (q9 108))) (cF qc5 eN),1,[(2,1)],[],f107,n0,[.a5,.d1,.nils],[.a3],[.val (.user 8),.a1]⟩
noncomputable def qce (n:Nat) (x0:List Val) (x1:List Int) (x2:List Bool) (x3:List Int) (x4:Int) (x5:Ins):Option ((u5×Unit)×(Val×Int×Unit)):=tG gl8 n ((x0,x1,x2,x3,x4,(),()),x5,(),())
def wj5 (n:Nat) (x0 x1 x2 x3 x4 x5):qce n x0 x1 x2 x3 x4 x5=j9 (!x5.UseImm) (if 0<=x5.Src/\x5.Src<((11:Nat):Int) then (j7 (qe v8 x0 x1 x2 x3 x4 ([x5.Src]:List Int)) fun y1=>some (((x0,x1,x2,x3,x4,(),()),()),(x0.getD x5.Src.toNat zl5,y1.2.1,()))) else none) (j7 (qbk v8 x5.Imm) fun y2=>j7 (qi v8 x0 x1 x2 x3 x4) fun y3=>some (((x0,x1,x2,x3,x4,(),()),()),((⟨(1:Int),y2⟩:Val),y3.2.1,()))):=by kernel_rfl
def qc9:=okG gl8 func107
noncomputable def vt1:KG:=⟨cG qc9 eN,1,[(8,1)],[([I,I],qt [0,3,5]),([I,I,O,O,I,I],qt [0,3,5,17])],f83,n0,[.a5,.d1],[.a3],[.a1]⟩
abbrev qz1:=Option u16
noncomputable def qaf (n:Nat) (x0:List Val) (x1:List Int) (x2:List Bool) (x3:List Int) (x4:Int) (x5:Ins):qz1:=tG vt1 n ((x0,x1,x2,x3,x4,(),()),x5,())
noncomputable def qz0 (n:Nat) (s17:Bool) (b0_0l:List Val) (b0_1l:List Int) (b0_2l:List Bool) (b0_3:List Int) (b0_4 b1_0:Int) (b1_1:Bool) (b1_2 b1_3:Int) (b1_4:Bool) (b1_5 b1_6 b1_7 b2_0 b2_1:Int):qz1:=uG vt1 n [I,I,O,O,I,I] ⟨[(0,.ptr 0 0),(3,.ptr 1 0),(5,.ptr 2 0),(17,cb s17)],[.k2 b0_0l b0_1l b0_2l b0_3 b0_4,.k1 b1_0 b1_1 b1_2 b1_3 b1_4 b1_5 b1_6 b1_7,.k13 b2_0 b2_1]⟩
noncomputable def qy9 (n:Nat) (b0_0l:List Val) (b0_1l:List Int) (b0_2l:List Bool) (b0_3:List Int) (b0_4 b1_0:Int) (b1_1:Bool) (b1_2 b1_3:Int) (b1_4:Bool) (b1_5 b1_6 b1_7 b2_0 b2_1:Int):qz1:=uG vt1 n [I,I] ⟨[(0,.ptr 0 0),(3,.ptr 1 0),(5,.ptr 2 0)],[.k2 b0_0l b0_1l b0_2l b0_3 b0_4,.k1 b1_0 b1_1 b1_2 b1_3 b1_4 b1_5 b1_6 b1_7,.k13 b2_0 b2_1]⟩
def wc9 (n:Nat) (x0 x1 x2 x3 x4 x5):qaf n x0 x1 x2 x3 x4 x5=j7 (qce v8 x0 x1 x2 x3 x4 x5) fun y1=>j9 (y1.2.2.1 != (0:Int)) (some (((y1.1.1.1,y1.1.1.2.1,y1.1.1.2.2.1,y1.1.1.2.2.2.1,y1.1.1.2.2.2.2.1,(),()),()),(y1.2.2.1,()))) (j9 x5.Narrow (qz0 n (y1.2.1.kind != (1:Int)) y1.1.1.1 y1.1.1.2.1 y1.1.1.2.2.1 y1.1.1.2.2.2.1 y1.1.1.2.2.2.2.1 x5.Op x5.Narrow x5.Dst x5.Src x5.UseImm x5.Off x5.Imm x5.Size y1.2.1.kind y1.2.1.n) (qz0 n false y1.1.1.1 y1.1.1.2.1 y1.1.1.2.2.1 y1.1.1.2.2.2.1 y1.1.1.2.2.2.2.1 x5.Op x5.Narrow x5.Dst x5.Src x5.UseImm x5.Off x5.Imm x5.Size y1.2.1.kind y1.2.1.n)):=by kernel_rfl
def js7 (n:Nat) (s17 b0_0l b0_1l b0_2l b0_3 b0_4 b1_0 b1_1 b1_2 b1_3 b1_4 b1_5 b1_6 b1_7 b2_0 b2_1):qz0 (n+1) s17 b0_0l b0_1l b0_2l b0_3 b0_4 b1_0 b1_1 b1_2 b1_3 b1_4 b1_5 b1_6 b1_7 b2_0 b2_1=j9 s17 (some (((b0_0l,b0_1l,b0_2l,b0_3,b0_4,(),()),()),((114:Int),()))) (j9 b1_1 (qy9 n b0_0l b0_1l b0_2l b0_3 b0_4 b1_0 b1_1 b1_2 b1_3 b1_4 b1_5 b1_6 b1_7 b2_0 (IntKind.u64.wrap (IntKind.u32.wrap b2_1))) (qy9 n b0_0l b0_1l b0_2l b0_3 b0_4 b1_0 b1_1 b1_2 b1_3 b1_4 b1_5 b1_6 b1_7 b2_0 b2_1)):=by kernel_rfl
def js6 (n:Nat) (b0_0l b0_1l b0_2l b0_3 b0_4 b1_0 b1_1 b1_2 b1_3 b1_4 b1_5 b1_6 b1_7 b2_0 b2_1):qy9 (n+1) b0_0l b0_1l b0_2l b0_3 b0_4 b1_0 b1_1 b1_2 b1_3 b1_4 b1_5 b1_6 b1_7 b2_0 b2_1=if 0<=b1_2/\b1_2<((11:Nat):Int) then (some (((b0_0l.set b1_2.toNat (⟨b2_0,b2_1⟩:Val),b0_1l,b0_2l,b0_3,b0_4,(),()),()),((0:Int),()))) else none:=by kernel_rfl
def wd0:=okG vt1 func83
noncomputable def gn8:KG:=⟨cE (zj7 jb7 yl1 (zj7 jb6 yl0 (q9 108))) (cF km7 eN),1,[],[],f84,n0,[.a5,.d1],[.a3],[.a1]⟩
noncomputable def qdm (n:Nat) (x0:List Val) (x1:List Int) (x2:List Bool) (x3:List Int) (x4:Int) (x5:Ins):Option u16:=tG gn8 n ((x0,x1,x2,x3,x4,(),()),x5,())
def wo7 (n:Nat) (x0 x1 x2 x3 x4 x5):qdm n x0 x1 x2 x3 x4 x5=j7 (qe v8 x0 x1 x2 x3 x4 ([x5.Dst]:List Int)) fun y1=>j9 (y1.2.1 != (0:Int)) (some (((x0,x1,x2,x3,x4,(),()),()),(y1.2.1,()))) (if 0<=x5.Dst/\x5.Dst<((11:Nat):Int) then (j9 (((x0.getD x5.Dst.toNat zl5).kind) != (1:Int)) (some (((x0,x1,x2,x3,x4,(),()),()),((114:Int),()))) (j7 (qci v8 x5.Op x5.Narrow ((x0.getD x5.Dst.toNat zl5).n) (0:Int)) fun y2=>some (((x0.set x5.Dst.toNat (⟨(x0.getD x5.Dst.toNat zl5).kind,y2.1⟩:Val),x1,x2,x3,x4,(),()),()),(y2.2,())))) else none):=by kernel_rfl
def wo8:=okG gn8 func84
noncomputable def gm1:KF:=⟨cF qc5 eN,0,[],[],f112,z0,[.a6,.d1],[.a1,.a1]⟩
noncomputable def qcj (n:Nat) (x0:Int) (x1:Ins):Option (Int×Int):=tF gm1 n (x0,x1)
def wj9 (n:Nat) (x0 x1):qcj n x0 x1=j7 (qbk v8 x1.Off) fun y1=>j9 (decide ((IntKind.i64.wrap ((IntKind.i64.wrap (IntKind.u64.wrap (x0+y1)))+(512:Int)))<(0:Int))) (some ((0:Int),(112:Int))) (j9 (decide ((IntKind.i64.wrap ((IntKind.i64.wrap (IntKind.u64.wrap (x0+y1)))+(512:Int)))>(IntKind.i64.wrap ((512:Int)-x1.Size)))) (some ((0:Int),(112:Int))) (some (IntKind.i64.wrap ((IntKind.i64.wrap (IntKind.u64.wrap (x0+y1)))+(512:Int)),(0:Int)))):=by kernel_rfl
def km8:=okF gm1 func112
noncomputable def gw2:KG:=⟨cE (zj7 jb7 yl1 (zj7 jb6 yl0 (q9 108))) (cF qc5 (cF wn6 (cF km8 eN))),1,[(4,1),(24,1)],[([I,I,I,I],qt [0,3,7]),([O,I,O,I,I,I,I,I,I,O,I,O,I,I,I,I],qt [0,3,10,41,42])],f85,n0,[.a5,.d1],[.a3],[.a1]⟩
abbrev kx0:=Option u16
noncomputable def qx (n:Nat) (x0:List Val) (x1:List Int) (x2:List Bool) (x3:List Int) (x4:Int) (x5:Ins):kx0:=tG gw2 n ((x0,x1,x2,x3,x4,(),()),x5,())
noncomputable def kw9 (n:Nat) (s7:Int) (b0_0l:List Val) (b0_1l:List Int) (b0_2l:List Bool) (b0_3:List Int) (b0_4 b1_0:Int) (b1_1:Bool) (b1_2 b1_3:Int) (b1_4:Bool) (b1_5 b1_6 b1_7:Int):kx0:=uG gw2 n [I,I,I,I] ⟨[(0,.ptr 0 0),(3,.ptr 1 0),(7,qq6 s7)],[.k2 b0_0l b0_1l b0_2l b0_3 b0_4,.k1 b1_0 b1_1 b1_2 b1_3 b1_4 b1_5 b1_6 b1_7]⟩
noncomputable def vu4 (n:Nat) (s10 s41 s42:Int) (b0_0l:List Val) (b0_1l:List Int) (b0_2l:List Bool) (b0_3:List Int) (b0_4 b1_0:Int) (b1_1:Bool) (b1_2 b1_3:Int) (b1_4:Bool) (b1_5 b1_6 b1_7:Int):kx0:=uG gw2 n [O,I,O,I,I,I,I,I,I,O,I,O,I,I,I,I] ⟨[(0,.ptr 0 0),(3,.ptr 1 0),(10,ci s10),(41,ci s41),(42,ci s42)],[.k2 b0_0l b0_1l b0_2l b0_3 b0_4,.k1 b1_0 b1_1 b1_2 b1_3 b1_4 b1_5 b1_6 b1_7]⟩
def uh7 (n:Nat) (x0 x1 x2 x3 x4 x5):qx n x0 x1 x2 x3 x4 x5=j7 (qe v8 x0 x1 x2 x3 x4 ([x5.Src]:List Int)) fun y1=>j9 (y1.2.1 != (0:Int)) (some (((x0,x1,x2,x3,x4,(),()),()),(y1.2.1,()))) (if 0<=x5.Src/\x5.Src<((11:Nat):Int) then (j9 (((x0.getD x5.Src.toNat zl5).kind)==(1:Int)) (some (((x0,x1,x2,x3,x4,(),()),()),((111:Int),()))) (j9 (((x0.getD x5.Src.toNat zl5).kind)==(2:Int)) (j7 (qbk v8 x5.Off) fun y2=>j7 (qdg v8 x3 (IntKind.i64.wrap (IntKind.u64.wrap (((x0.getD x5.Src.toNat zl5).n)+y2))) x5.Size) fun y3=>j9 (y3.2 != (0:Int)) (some (((x0,x1,x2,x3,x4,(),()),()),(y3.2,()))) (kw9 n y3.1 x0 x1 x2 x3 x4 x5.Op x5.Narrow x5.Dst x5.Src x5.UseImm x5.Off x5.Imm x5.Size)) (j7 (qcj v8 ((x0.getD x5.Src.toNat zl5).n) x5) fun y4=>j9 (y4.2 != (0:Int)) (some (((x0,x1,x2,x3,x4,(),()),()),(y4.2,()))) (vu4 n y4.1 x5.Size (0:Int) x0 x1 x2 x3 x4 x5.Op x5.Narrow x5.Dst x5.Src x5.UseImm x5.Off x5.Imm x5.Size)))) else none):=by kernel_rfl
def ql8 (n:Nat) (s7 b0_0l b0_1l b0_2l b0_3 b0_4 b1_0 b1_1 b1_2 b1_3 b1_4 b1_5 b1_6 b1_7):kw9 (n+1) s7 b0_0l b0_1l b0_2l b0_3 b0_4 b1_0 b1_1 b1_2 b1_3 b1_4 b1_5 b1_6 b1_7=if 0<=b1_2/\b1_2<((11:Nat):Int) then (some (((b0_0l.set b1_2.toNat (⟨(1:Int),s7⟩:Val),b0_1l,b0_2l,b0_3,b0_4,(),()),()),((0:Int),()))) else none:=by kernel_rfl
def ql9 (n:Nat) (s10 s41 s42 b0_0l b0_1l b0_2l b0_3 b0_4 b1_0 b1_1 b1_2 b1_3 b1_4 b1_5 b1_6 b1_7):vu4 (n+1) s10 s41 s42 b0_0l b0_1l b0_2l b0_3 b0_4 b1_0 b1_1 b1_2 b1_3 b1_4 b1_5 b1_6 b1_7=j9 (decide (s42<s41)) (if 0<=IntKind.i64.wrap (s10+s42)/\IntKind.i64.wrap (s10+s42)<((512:Nat):Int) then (j9 (!(b0_2l.getD ((IntKind.i64.wrap (s10+s42)).toNat) false)) (some (((b0_0l,b0_1l,b0_2l,b0_3,b0_4,(),()),()),((110:Int),()))) (vu4 n s10 s41 (IntKind.i64.wrap (s42+(1:Int))) b0_0l b0_1l b0_2l b0_3 b0_4 b1_0 b1_1 b1_2 b1_3 b1_4 b1_5 b1_6 b1_7)) else none) (j7 (qdg v8 (List.take 512 (List.drop 0 b0_1l)) s10 b1_7) fun y1=>kw9 n y1.1 b0_0l b0_1l b0_2l b0_3 b0_4 b1_0 b1_1 b1_2 b1_3 b1_4 b1_5 b1_6 b1_7):=by kernel_rfl
def uh8:=okG gw2 func85
noncomputable def gl5:KG:=⟨cE (zj7 jb7 yl1 (zj7 jb6 yl0 (q9 108))) (cF qc5 eN),2,[(2,1)],[],f107,n0,[.a5,.d1,.d3],[.a3,.gone],[.val (.user 8),.a1]⟩
noncomputable def qbz (n:Nat) (x0:List Val) (x1:List Int) (x2:List Bool) (x3:List Int) (x4:Int) (x5:Ins) (x6:List Int):Option ((u5×Unit×Unit)×(Val×Int×Unit)):=tG gl5 n ((x0,x1,x2,x3,x4,(),()),x5,x6,())
def wj2 (n:Nat) (x0 x1 x2 x3 x4 x5 x6):qbz n x0 x1 x2 x3 x4 x5 x6=j9 (!x5.UseImm) (if 0<=x5.Src/\x5.Src<((11:Nat):Int) then (if (x6.length+1)*8<=140737488355328 then (j7 (qe v8 x0 x1 x2 x3 x4 (x6++([x5.Src]:List Int))) fun y1=>some (((x0,x1,x2,x3,x4,(),()),(),()),(x0.getD x5.Src.toNat zl5,y1.2.1,()))) else none) else none) (j7 (qbk v8 x5.Imm) fun y2=>j7 (qe v8 x0 x1 x2 x3 x4 x6) fun y3=>some (((x0,x1,x2,x3,x4,(),()),(),()),((⟨(1:Int),y2⟩:Val),y3.2.1,()))):=by kernel_rfl
def va8:=okG gl5 func107
noncomputable def qt7:KP:=⟨⟨cG kn2 eN,1,[],[([I],qt [0,1,2]),([O,I],qt [0,1,2,19])],f125,n0,[.b6,.a1,.a1],[.a3],[]⟩,.ifc 25 (.val (.int .i64))⟩
abbrev qz3:=Option ((u5×Unit)×(Unit⊕u4))
noncomputable def qah (n:Nat) (x0:List Val) (x1:List Int) (x2:List Bool) (x3:List Int) (x4:Int) (x5 x6:Nat) (x7 x8:Int):qz3:=tP qt7 n (((x0,x1,x2,x3,x4,(),()),x5,x6),x7,x8,())
noncomputable def jl5 (n s0o s0n:Nat) (s1 s2:Int) (s19:Bool) (b0_0l:List Val) (b0_1l:List Int) (b0_2l:List Bool) (b0_3:List Int) (b0_4:Int):qz3:=uP qt7 n [O,I] ⟨[(0,.asl 0 22 1 512 s0o s0n),(1,ci s1),(2,ci s2),(19,cb s19)],[.k2 b0_0l b0_1l b0_2l b0_3 b0_4]⟩
noncomputable def kj8 (n s0o s0n:Nat) (s1 s2:Int) (b0_0l:List Val) (b0_1l:List Int) (b0_2l:List Bool) (b0_3:List Int) (b0_4:Int):qz3:=uP qt7 n [I] ⟨[(0,.asl 0 22 1 512 s0o s0n),(1,ci s1),(2,ci s2)],[.k2 b0_0l b0_1l b0_2l b0_3 b0_4]⟩
def wd3 (n:Nat) (x0 x1 x2 x3 x4 x5 x6 x7 x8):qah n x0 x1 x2 x3 x4 x5 x6 x7 x8=j7 (qcn v8) fun y1=>j9 (decide (x8<(0:Int))) (jl5 n x5 x6 x7 x8 true x0 x1 x2 x3 x4) (j9 (decide (x8>=(9:Int))) (jl5 n x5 x6 x7 x8 true x0 x1 x2 x3 x4) (if 0<=x8/\x8<((9:Nat):Int) then (jl5 n x5 x6 x7 x8 (!(y1.2.1.getD x8.toNat false)) x0 x1 x2 x3 x4) else none)):=by kernel_rfl
def vn7 (n:Nat) (s0o s0n s1 s2 s19 b0_0l b0_1l b0_2l b0_3 b0_4):jl5 (n+1) s0o s0n s1 s2 s19 b0_0l b0_1l b0_2l b0_3 b0_4=j9 s19 (some (((b0_0l,b0_1l,b0_2l,b0_3,b0_4,(),()),()),.inr ((2:Int),()))) (kj8 n s0o s0n s1 s2 b0_0l b0_1l b0_2l b0_3 b0_4):=by kernel_rfl
def vn6 (n:Nat) (s0o s0n s1 s2 b0_0l b0_1l b0_2l b0_3 b0_4):kj8 (n+1) s0o s0n s1 s2 b0_0l b0_1l b0_2l b0_3 b0_4=j9 (decide (s1<(0:Int))) (some (((b0_0l,b0_1l,b0_2l,b0_3,b0_4,(),()),()),.inr ((112:Int),()))) (j9 (decide (s1>(IntKind.i64.wrap (((s0n:Nat):Int)-s2)))) (some (((b0_0l,b0_1l,b0_2l,b0_3,b0_4,(),()),()),.inr ((112:Int),()))) (some (((b0_0l,b0_1l,b0_2l,b0_3,b0_4,(),()),()),.inl ()))):=by kernel_rfl
def wd4:=okP qt7 func125
noncomputable def qac_C:Ctx TT:=⟨yt3,[(125,(sP qt7).toCall ((sP ko6).toCall (zb9 TT))),(126,(sG vt8).toCall (zb9 TT))],5,[(4,1)],zt7,ys5,yt1⟩
def gc6:zc4 TT prog qac_C.E:=jk4 (ze8 wd4 (ze8 gw1 (q9 125))) (jk4 (q8 km2 (q9 126)) (zl6))
noncomputable def qy3:RfP TT:=⟨2,159,(gi0 3 2),[12,0,3]⟩
noncomputable def qac (x0:List Val) (x1:List Int) (x2:List Bool) (x3:List Int) (x4:Int) (x5 x6:Nat) (x7 x8 x9:Int):Option ((u18×u5×u4×u4×u4×Unit)×(Unit⊕u4)):=uc0 TT prog qac_C f127 (zb0 f127) ⟨[],[],[],[],[]⟩ [.ptr 0 34 [.b6],.e8,.d7,.b7] [.e9,.a3,.f2,.e1,.c1] [] (.ifc 25 (.val (.int .i64))) qy3 ((((x0,x1,x2,x3,x4,(),()),x5,x6),()),(x7,()),(x8,()),(x9,()),())
noncomputable def jl4 (m k:Nat) (b0_0o:Nat) (b0_0n:Nat) (b1_0l:List Val) (b1_1l:List Int) (b1_2l:List Bool) (b1_3:List Int) (b1_4:Int) (b2_0:Int) (b3_0:Int) (b4_0:Int) (b5_0:Int) (b6_0:Int):Option ((u18×u5×u4×u4×u4×Unit)×(Unit⊕u4)):=vi1 TT prog qac_C f127 (zb0 f127) ⟨[],[],[],[],[]⟩ [.e9,.a3,.f2,.e1,.c1] [] (.ifc 25 (.val (.int .i64))) qy3 [.ptr 5 0,.ptr 6 0] m k (⟨[(12,.fn (.func 159) [] [.ptr 5 0,.ptr 6 0]),(0,.ptr 0 0),(3,.ptr 4 0)],[.blk 34 [.asl 1 22 1 512 b0_0o b0_0n],.blk 127 [.arr (.user 8) 11 b1_0l,.arr (.int .u8) 512 b1_1l,.arr (.bool) 512 b1_2l,.cell ⟨.list (.int .u8),b1_3⟩,.cell ⟨.int .i64,b1_4⟩,.raw (.pointer none)],.blk 2 [.cell ⟨.int .i64,b2_0⟩],.blk 3 [.cell ⟨.int .i64,b3_0⟩],.blk 37 [.cell ⟨.int .u64,b4_0⟩],.blk 3 [.cell ⟨.int .i64,b5_0⟩],.blk 2 [.cell ⟨.int .i64,b6_0⟩]]⟩:St TT)
def qf7 (k:Nat) (b0_0o:Nat) (b0_0n:Nat) (b1_0l:List Val) (b1_1l:List Int) (b1_2l:List Bool) (b1_3:List Int) (b1_4:Int) (b2_0:Int) (b3_0:Int) (b4_0:Int) (b5_0:Int) (b6_0:Int):jl4 0 k b0_0o b0_0n b1_0l b1_1l b1_2l b1_3 b1_4 b2_0 b3_0 b4_0 b5_0 b6_0=some ((((b0_0o,b0_0n),()),(b1_0l,b1_1l,b1_2l,b1_3,b1_4,(),()),(b2_0,()),(b3_0,()),(b4_0,()),()),.inl ()):=by kernel_rfl
def qf6 (m k:Nat) (b0_0o:Nat) (b0_0n:Nat) (b1_0l:List Val) (b1_1l:List Int) (b1_2l:List Bool) (b1_3:List Int) (b1_4:Int) (b2_0:Int) (b3_0:Int) (b4_0:Int) (b5_0:Int) (b6_0:Int):jl4 (m+1) k b0_0o b0_0n b1_0l b1_1l b1_2l b1_3 b1_4 b2_0 b3_0 b4_0 b5_0 b6_0=if IntKind.i64.wrap (8*IntKind.i64.wrap (IntKind.i64.wrap (b5_0-1)-(k:Int)))<0 then none else (if 0<=IntKind.i64.wrap (b6_0+(k:Int))/\IntKind.i64.wrap (b6_0+(k:Int))<((b0_0n:Nat):Int) then (jl4 m (k+1) b0_0o b0_0n b1_0l (b1_1l.set (b0_0o+((IntKind.i64.wrap (b6_0+(k:Int))).toNat)) (IntKind.u8.wrap (zr0 .u64 b4_0 (IntKind.i64.wrap (8*IntKind.i64.wrap (IntKind.i64.wrap (b5_0-1)-(k:Int))))))) b1_2l b1_3 b1_4 b2_0 b3_0 b4_0 b5_0 b6_0) else none):=by kernel_rfl
def wc5 (x0:List Val) (x1 x2 x3 x4 x5 x6 x7 x8 x9):qac x0 x1 x2 x3 x4 x5 x6 x7 x8 x9=j7 (qah v8 x0 x1 x2 x3 x4 x5 x6 x7 x8) fun y1=>match y1.2 with| .inl z1=>(j7 (qcb v8 x7 x8) fun y2=>match j9 (decide (y2.2.1.2.1.1<=8)) (some y2.2.1.2.1.1.toNat) none with|some N=>jl4 N 0 x5 x6 y1.1.1.1 y1.1.1.2.1 y1.1.1.2.2.1 y1.1.1.2.2.2.1 y1.1.1.2.2.2.2.1 x7 x8 x9 y2.2.1.2.1.1 y2.2.1.2.2.1.1|none=>none)| .inr e1=>(some ((((x5,x6),()),(y1.1.1.1,y1.1.1.2.1,y1.1.1.2.2.1,y1.1.1.2.2.2.1,y1.1.1.2.2.2.2.1,(),()),(x7,()),(x8,()),(x9,()),()),.inr (e1.1,()))):=by kernel_rfl
noncomputable def qac_sp:PSpec TT:=⟨[.ptr 0 34 [.b6],.e8,.d7,.b7],[.e9,.a3,.f2,.e1,.c1],[],.ifc 25 (.val (.int .i64)),fun x=>qac x.1.1.1.1 x.1.1.1.2.1 x.1.1.1.2.2.1 x.1.1.1.2.2.2.1 x.1.1.1.2.2.2.2.1 x.1.1.2.1 x.1.1.2.2 x.2.1.1 x.2.2.1.1 x.2.2.2.1.1⟩
def wc6:POk TT prog 127 qac_sp:=vf7 (C:=qac_C) (D:=qy3) (by kernel_rfl) gc6 func127 (show f127.body=some (zb0 f127) by kernel_rfl) (by kernel_rfl) (by kernel_rfl) (by kernel_rfl) jr9 fun x y h=>h
noncomputable def qax_C:Ctx TT:=⟨yt3,[(127,qac_sp.toCall (zb9 TT))],5,[],zt7,ys5,yt1⟩
def gd0:zc4 TT prog qax_C.E:=jk4 (ze8 wc6 (q9 127)) (zl6)
def qk8:List (Pos×Cut):= []
noncomputable def gk1:DefP TT:=⟨1,3,[3,0,2],6,157,[(5,0)],jy0,jy1⟩
noncomputable def qax (n:Nat) (x0:List Val) (x1:List Int) (x2:List Bool) (x3:List Int) (x4:Int) (x5 x6:Nat) (x7 x8 x9:Int):Option ((u18×u5×u4×u4×u4×Unit)×u4):=vw9 prog qax_C qk8 f123 (zb0 f123) ⟨[],[],[],[],[]⟩ [.fn 127 [] [.ptr 0 34 [.b6],.e8,.d7,.b7]] [.e9,.a3,.f2,.e1,.c1] [.a1] gk1 n (((),((((x0,x1,x2,x3,x4,(),()),x5,x6),()),(x7,()),(x8,()),(x9,()),())),())
def wg1 (n:Nat) (x0 x1 x2 x3 x4 x5 x6 x7 x8 x9):qax n x0 x1 x2 x3 x4 x5 x6 x7 x8 x9=j7 (qac x0 x1 x2 x3 x4 x5 x6 x7 x8 x9) fun y1=>match y1.2 with| .inl z1=>(j7 (qbf (0:Int)) fun y2=>some ((((y1.1.1.1.1,y1.1.1.1.2),()),(y1.1.2.1.1,y1.1.2.1.2.1,y1.1.2.1.2.2.1,y1.1.2.1.2.2.2.1,y1.1.2.1.2.2.2.2.1,(),()),(y1.1.2.2.1.1,()),(y1.1.2.2.2.1.1,()),(y1.1.2.2.2.2.1.1,()),()),(y2.1.1,())))| .inr e1=>(j7 (qbg (0:Int) e1.1) fun y3=>some ((((y1.1.1.1.1,y1.1.1.1.2),()),(y1.1.2.1.1,y1.1.2.1.2.1,y1.1.2.1.2.2.1,y1.1.2.1.2.2.2.1,y1.1.2.1.2.2.2.2.1,(),()),(y1.1.2.2.1.1,()),(y1.1.2.2.2.1.1,()),(y1.1.2.2.2.2.1.1,()),()),(y3.1.1,()))):=by kernel_rfl
noncomputable def wg3:GSpec TT:=⟨[.fn 127 [] [.ptr 0 34 [.b6],.e8,.d7,.b7]],[.e9,.a3,.f2,.e1,.c1],[.a1],fun x=>qax v8 x.1.2.1.1.1.1 x.1.2.1.1.1.2.1 x.1.2.1.1.1.2.2.1 x.1.2.1.1.1.2.2.2.1 x.1.2.1.1.1.2.2.2.2.1 x.1.2.1.1.2.1 x.1.2.1.1.2.2 x.1.2.2.1.1 x.1.2.2.2.1.1 x.1.2.2.2.2.1.1⟩
def wg2:GOk TT prog 123 wg3:=yk2 (C:=qax_C) (cuts:=qk8) (D:=gk1) (by kernel_rfl) gd0 func123 (show f123.body=some (zb0 f123) by kernel_rfl) (by kernel_rfl) (by kernel_rfl) (by kernel_rfl) vg2 vg3 fun x y h=>⟨v8,h⟩
noncomputable def go1:KG:=⟨cE (q8 wg2 (q8 kk9 (q9 123))) eN,1,[],[],f113,n0,[.b6,.a1,.a1,.a6],[.a3],[.a1]⟩
noncomputable def qdp (n:Nat) (x0:List Val) (x1:List Int) (x2:List Bool) (x3:List Int) (x4:Int) (x5 x6:Nat) (x7 x8 x9:Int):Option u16:=tG go1 n (((x0,x1,x2,x3,x4,(),()),x5,x6),x7,x8,x9,())
def wp3 (n:Nat) (x0 x1 x2 x3 x4 x5 x6 x7 x8 x9):qdp n x0 x1 x2 x3 x4 x5 x6 x7 x8 x9=j7 (qax v8 x0 x1 x2 x3 x4 x5 x6 x7 x8 x9) fun y1=>some (((y1.1.2.1.1,y1.1.2.1.2.1,y1.1.2.1.2.2.1,y1.1.2.1.2.2.2.1,y1.1.2.1.2.2.2.2.1,(),()),()),(y1.2.1,())):=by kernel_rfl
def wp4:=okG go1 func113
noncomputable def gw3:KG:=⟨cE (q8 va8 (q8 qc9 (q9 107))) (cF km8 (cG wp4 eN)),1,[(2,1),(17,1)],[([I,I,I,I,O,O,I,I,I],qt [0,3,5,7,34]),([O,I,O,I,I,I,I,I,I],qt [0,3,5,8,54,55])],f86,n0,[.a5,.d1],[.a3],[.a1]⟩
abbrev kx1:=Option u16
noncomputable def qy (n:Nat) (x0:List Val) (x1:List Int) (x2:List Bool) (x3:List Int) (x4:Int) (x5:Ins):kx1:=tG gw3 n ((x0,x1,x2,x3,x4,(),()),x5,())
noncomputable def vu5 (n:Nat) (s34:Bool) (b0_0l:List Val) (b0_1l:List Int) (b0_2l:List Bool) (b0_3:List Int) (b0_4 b1_0:Int) (b1_1:Bool) (b1_2 b1_3:Int) (b1_4:Bool) (b1_5 b1_6 b1_7 b2_0 b2_1 b3_0 b3_1:Int):kx1:=uG gw3 n [I,I,I,I,O,O,I,I,I] ⟨[(0,.ptr 0 0),(3,.ptr 1 0),(5,.ptr 2 0),(7,.ptr 3 0),(34,cb s34)],[.k2 b0_0l b0_1l b0_2l b0_3 b0_4,.k1 b1_0 b1_1 b1_2 b1_3 b1_4 b1_5 b1_6 b1_7,.k13 b2_0 b2_1,.k13 b3_0 b3_1]⟩
noncomputable def vu6 (n:Nat) (s8 s54 s55:Int) (b0_0l:List Val) (b0_1l:List Int) (b0_2l:List Bool) (b0_3:List Int) (b0_4 b1_0:Int) (b1_1:Bool) (b1_2 b1_3:Int) (b1_4:Bool) (b1_5 b1_6 b1_7 b2_0 b2_1:Int):kx1:=uG gw3 n [O,I,O,I,I,I,I,I,I] ⟨[(0,.ptr 0 0),(3,.ptr 1 0),(5,.ptr 2 0),(8,ci s8),(54,ci s54),(55,ci s55)],[.k2 b0_0l b0_1l b0_2l b0_3 b0_4,.k1 b1_0 b1_1 b1_2 b1_3 b1_4 b1_5 b1_6 b1_7,.k13 b2_0 b2_1]⟩
def uh9 (n:Nat) (x0 x1 x2 x3 x4 x5):qy n x0 x1 x2 x3 x4 x5=j7 (qbz v8 x0 x1 x2 x3 x4 x5 ([x5.Dst]:List Int)) fun y1=>if 0<=x5.Dst/\x5.Dst<((11:Nat):Int) then (j9 (y1.2.2.1 != (0:Int)) (some (((y1.1.1.1,y1.1.1.2.1,y1.1.1.2.2.1,y1.1.1.2.2.2.1,y1.1.1.2.2.2.2.1,(),()),()),(y1.2.2.1,()))) (j9 (((y1.1.1.1.getD x5.Dst.toNat zl5).kind)==(2:Int)) (some (((y1.1.1.1,y1.1.1.2.1,y1.1.1.2.2.1,y1.1.1.2.2.2.1,y1.1.1.2.2.2.2.1,(),()),()),((114:Int),()))) (j9 (((y1.1.1.1.getD x5.Dst.toNat zl5).kind)==(1:Int)) (vu5 n true y1.1.1.1 y1.1.1.2.1 y1.1.1.2.2.1 y1.1.1.2.2.2.1 y1.1.1.2.2.2.2.1 x5.Op x5.Narrow x5.Dst x5.Src x5.UseImm x5.Off x5.Imm x5.Size y1.2.1.kind y1.2.1.n ((y1.1.1.1.getD x5.Dst.toNat zl5).kind) ((y1.1.1.1.getD x5.Dst.toNat zl5).n)) (vu5 n (y1.2.1.kind != (1:Int)) y1.1.1.1 y1.1.1.2.1 y1.1.1.2.2.1 y1.1.1.2.2.2.1 y1.1.1.2.2.2.2.1 x5.Op x5.Narrow x5.Dst x5.Src x5.UseImm x5.Off x5.Imm x5.Size y1.2.1.kind y1.2.1.n ((y1.1.1.1.getD x5.Dst.toNat zl5).kind) ((y1.1.1.1.getD x5.Dst.toNat zl5).n))))) else none:=by kernel_rfl
def ke5 (n:Nat) (s34 b0_0l b0_1l b0_2l b0_3 b0_4 b1_0 b1_1 b1_2 b1_3 b1_4 b1_5 b1_6 b1_7 b2_0 b2_1 b3_0 b3_1):vu5 (n+1) s34 b0_0l b0_1l b0_2l b0_3 b0_4 b1_0 b1_1 b1_2 b1_3 b1_4 b1_5 b1_6 b1_7 b2_0 b2_1 b3_0 b3_1=j9 s34 (some (((b0_0l,b0_1l,b0_2l,b0_3,b0_4,(),()),()),((111:Int),()))) (j7 (qcj v8 b3_1 (⟨b1_0,b1_1,b1_2,b1_3,b1_4,b1_5,b1_6,b1_7⟩:Ins)) fun y1=>j9 (y1.2 != (0:Int)) (some (((b0_0l,b0_1l,b0_2l,b0_3,b0_4,(),()),()),(y1.2,()))) (vu6 n y1.1 b1_7 (0:Int) b0_0l b0_1l b0_2l b0_3 b0_4 b1_0 b1_1 b1_2 b1_3 b1_4 b1_5 b1_6 b1_7 b2_0 b2_1)):=by kernel_rfl
def qm0 (n:Nat) (s8 s54 s55 b0_0l b0_1l b0_2l b0_3 b0_4 b1_0 b1_1 b1_2 b1_3 b1_4 b1_5 b1_6 b1_7 b2_0 b2_1):vu6 (n+1) s8 s54 s55 b0_0l b0_1l b0_2l b0_3 b0_4 b1_0 b1_1 b1_2 b1_3 b1_4 b1_5 b1_6 b1_7 b2_0 b2_1=j9 (decide (s55<s54)) (if 0<=IntKind.i64.wrap (s8+s55)/\IntKind.i64.wrap (s8+s55)<((512:Nat):Int) then (vu6 n s8 s54 (IntKind.i64.wrap (s55+(1:Int))) b0_0l b0_1l (b0_2l.set ((IntKind.i64.wrap (s8+s55)).toNat) true) b0_3 b0_4 b1_0 b1_1 b1_2 b1_3 b1_4 b1_5 b1_6 b1_7 b2_0 b2_1) else none) (j7 (qdp v8 b0_0l b0_1l b0_2l b0_3 b0_4 0 512 s8 b1_7 b2_1) fun y1=>some (((y1.1.1.1,y1.1.1.2.1,y1.1.1.2.2.1,y1.1.1.2.2.2.1,y1.1.1.2.2.2.2.1,(),()),()),(y1.2.1,()))):=by kernel_rfl
def ui0:=okG gw3 func86
noncomputable def gs3:KG:=⟨eN,1,[(1,1)],[],f87,n0,[.a5,.d1],[.a3],[.a1]⟩
noncomputable def qfd (n:Nat) (x0:List Val) (x1:List Int) (x2:List Bool) (x3:List Int) (x4:Int) (x5:Ins):Option u16:=tG gs3 n ((x0,x1,x2,x3,x4,(),()),x5,())
def wx2 (n:Nat) (x0 x1 x2 x3 x4 x5):qfd n x0 x1 x2 x3 x4 x5=some (((x0,x1,x2,x3,IntKind.i64.wrap (x4+x5.Off),(),()),()),((0:Int),())):=by kernel_rfl
def wx3:=okG gs3 func87
noncomputable def ku5:KG:=⟨cE (zj7 jb7 yl1 (zj7 jb6 yl0 (q9 108))) eN,1,[],[],f88,n0,[.a5,.d1],[.a3],[.a1]⟩
noncomputable def qdc (n:Nat) (x0:List Val) (x1:List Int) (x2:List Bool) (x3:List Int) (x4:Int) (x5:Ins):Option u16:=tG ku5 n ((x0,x1,x2,x3,x4,(),()),x5,())
def wm7 (n:Nat) (x0 x1 x2 x3 x4 x5):qdc n x0 x1 x2 x3 x4 x5=j7 (qe v8 x0 x1 x2 x3 x4 ([(0:Int)]:List Int)) fun y1=>j9 (y1.2.1 != (0:Int)) (some (((x0,x1,x2,x3,x4,(),()),()),(y1.2.1,()))) (j9 (((x0.getD 0 zl5).kind) != (1:Int)) (some (((x0,x1,x2,x3,x4,(),()),()),((111:Int),()))) (none)):=by kernel_rfl
def wm8:=okG ku5 func88
noncomputable def ku6:KG:=⟨cE (zj7 jb7 yl1 (zj7 jb6 yl0 (q9 108))) eN,1,[],[],f88,n0,[.a5,.d1],[.blk 127 [.arr (.user 8) 11,.f3,.arr (.bool) 512,.b1,.a1,.ap 0 0 2 11 1]],[.a1]⟩
noncomputable def qdd (n:Nat) (x0:List Val) (x1:List Int) (x2:List Bool) (x3:List Int) (x4:Int) (x5:Ins):Option (((List Val×List Int×List Bool×List Int×Int×Nat×Unit)×Unit)×u4):=tG ku6 n ((x0,x1,x2,x3,x4,(),()),x5,())
def wm9 (n:Nat) (x0 x1 x2 x3 x4 x5):qdd n x0 x1 x2 x3 x4 x5=j7 (qe v8 x0 x1 x2 x3 x4 ([(0:Int)]:List Int)) fun y1=>j9 (y1.2.1 != (0:Int)) (none) (j9 (((x0.getD 0 zl5).kind) != (1:Int)) (none) (some (((x0,x1,x2,x3,x4,0,()),()),((0:Int),())))):=by kernel_rfl
def wn0:=okG ku6 func88
noncomputable def zx2 (x0:List Val) (x1:List Int) (x2:List Bool) (x3:List Int) (x4:Int) (x5:Ins):Bool:=(match qe v8 x0 x1 x2 x3 x4 ([(0:Int)]:List Int) with|some y1=>((y1.2.1 != (0:Int))||(((x0.getD 0 zl5).kind) != (1:Int)))|none=>false)
noncomputable def gv9:KG:=⟨cE (q8 va8 (q8 qc9 (q9 107))) (cF km7 eN),1,[],[([I,I,I,I],qt [3,5,7,8]),([O,I,I,I,I,I],qt [3,5,7,54])],f89,n0,[.a5,.d1],[.a3],[.a1]⟩
abbrev kw7:=Option u16
noncomputable def qv (n:Nat) (x0:List Val) (x1:List Int) (x2:List Bool) (x3:List Int) (x4:Int) (x5:Ins):kw7:=tG gv9 n ((x0,x1,x2,x3,x4,(),()),x5,())
noncomputable def qu3 (n s7k:Nat) (s8:Bool) (b0_0l:List Val) (b0_1l:List Int) (b0_2l:List Bool) (b0_3:List Int) (b0_4 b1_0:Int) (b1_1:Bool) (b1_2 b1_3:Int) (b1_4:Bool) (b1_5 b1_6 b1_7 b2_0 b2_1:Int):kw7:=uG gv9 n [I,I,I,I] ⟨[(3,.ptr 1 0),(5,.ptr 2 0),(7,.aptr 0 0 2 11 s7k 0),(8,cb s8)],[.k2 b0_0l b0_1l b0_2l b0_3 b0_4,.k1 b1_0 b1_1 b1_2 b1_3 b1_4 b1_5 b1_6 b1_7,.k13 b2_0 b2_1]⟩
noncomputable def qu4 (n s7k:Nat) (s54:Bool) (b0_0l:List Val) (b0_1l:List Int) (b0_2l:List Bool) (b0_3:List Int) (b0_4 b1_0:Int) (b1_1:Bool) (b1_2 b1_3:Int) (b1_4:Bool) (b1_5 b1_6 b1_7 b2_0 b2_1:Int):kw7:=uG gv9 n [O,I,I,I,I,I] ⟨[(3,.ptr 1 0),(5,.ptr 2 0),(7,.aptr 0 0 2 11 s7k 0),(54,cb s54)],[.k2 b0_0l b0_1l b0_2l b0_3 b0_4,.k1 b1_0 b1_1 b1_2 b1_3 b1_4 b1_5 b1_6 b1_7,.k13 b2_0 b2_1]⟩
def uh4 (n:Nat) (x0 x1 x2 x3 x4 x5):qv n x0 x1 x2 x3 x4 x5=j7 (qbz v8 x0 x1 x2 x3 x4 x5 ([x5.Dst]:List Int)) fun y1=>j9 (y1.2.2.1 != (0:Int)) (some (((y1.1.1.1,y1.1.1.2.1,y1.1.1.2.2.1,y1.1.1.2.2.2.1,y1.1.1.2.2.2.2.1,(),()),()),(y1.2.2.1,()))) (if 0<=x5.Dst/\x5.Dst<((11:Nat):Int) then (j9 (x5.Op==(1:Int)) (qu3 n x5.Dst.toNat (!x5.Narrow) y1.1.1.1 y1.1.1.2.1 y1.1.1.2.2.1 y1.1.1.2.2.2.1 y1.1.1.2.2.2.2.1 x5.Op x5.Narrow x5.Dst x5.Src x5.UseImm x5.Off x5.Imm x5.Size y1.2.1.kind y1.2.1.n) (j9 (x5.Op==(2:Int)) (qu3 n x5.Dst.toNat (!x5.Narrow) y1.1.1.1 y1.1.1.2.1 y1.1.1.2.2.1 y1.1.1.2.2.2.1 y1.1.1.2.2.2.2.1 x5.Op x5.Narrow x5.Dst x5.Src x5.UseImm x5.Off x5.Imm x5.Size y1.2.1.kind y1.2.1.n) (qu3 n x5.Dst.toNat false y1.1.1.1 y1.1.1.2.1 y1.1.1.2.2.1 y1.1.1.2.2.2.1 y1.1.1.2.2.2.2.1 x5.Op x5.Narrow x5.Dst x5.Src x5.UseImm x5.Off x5.Imm x5.Size y1.2.1.kind y1.2.1.n))) else none):=by kernel_rfl
def ke1 (n:Nat) (s7k s8 b0_0l b0_1l b0_2l b0_3 b0_4 b1_0 b1_1 b1_2 b1_3 b1_4 b1_5 b1_6 b1_7 b2_0 b2_1):qu3 (n+1) s7k s8 b0_0l b0_1l b0_2l b0_3 b0_4 b1_0 b1_1 b1_2 b1_3 b1_4 b1_5 b1_6 b1_7 b2_0 b2_1=j9 (b2_0 != (1:Int)) (qu4 n s7k true b0_0l b0_1l b0_2l b0_3 b0_4 b1_0 b1_1 b1_2 b1_3 b1_4 b1_5 b1_6 b1_7 b2_0 b2_1) (j9 (((b0_0l.getD s7k zl5).kind) != (1:Int)) (qu4 n s7k (!s8) b0_0l b0_1l b0_2l b0_3 b0_4 b1_0 b1_1 b1_2 b1_3 b1_4 b1_5 b1_6 b1_7 b2_0 b2_1) (qu4 n s7k false b0_0l b0_1l b0_2l b0_3 b0_4 b1_0 b1_1 b1_2 b1_3 b1_4 b1_5 b1_6 b1_7 b2_0 b2_1)):=by kernel_rfl
def ke2 (n:Nat) (s7k s54 b0_0l b0_1l b0_2l b0_3 b0_4 b1_0 b1_1 b1_2 b1_3 b1_4 b1_5 b1_6 b1_7 b2_0 b2_1):qu4 (n+1) s7k s54 b0_0l b0_1l b0_2l b0_3 b0_4 b1_0 b1_1 b1_2 b1_3 b1_4 b1_5 b1_6 b1_7 b2_0 b2_1=j9 s54 (some (((b0_0l,b0_1l,b0_2l,b0_3,b0_4,(),()),()),((114:Int),()))) (j7 (qci v8 b1_0 b1_1 ((b0_0l.getD s7k zl5).n) b2_1) fun y1=>j9 (y1.2==(0:Int)) (some (((b0_0l.set s7k (⟨(b0_0l.getD s7k zl5).kind,y1.1⟩:Val),b0_1l,b0_2l,b0_3,b0_4,(),()),()),(y1.2,()))) (some (((b0_0l,b0_1l,b0_2l,b0_3,b0_4,(),()),()),(y1.2,())))):=by kernel_rfl
def uh5:=okG gv9 func89
noncomputable def ks8:KG:=⟨cE (q8 va8 (q8 qc9 (q9 107))) (cF wo2 eN),1,[(2,1),(9,1)],[([I,I,O,O,I,I,I],qt [0,3,5,7,30])],f90,n0,[.a5,.d1],[.a3],[.a1]⟩
abbrev kl1:=Option u16
noncomputable def qaw (n:Nat) (x0:List Val) (x1:List Int) (x2:List Bool) (x3:List Int) (x4:Int) (x5:Ins):kl1:=tG ks8 n ((x0,x1,x2,x3,x4,(),()),x5,())
noncomputable def qc0 (n:Nat) (s30:Bool) (b0_0l:List Val) (b0_1l:List Int) (b0_2l:List Bool) (b0_3:List Int) (b0_4 b1_0:Int) (b1_1:Bool) (b1_2 b1_3:Int) (b1_4:Bool) (b1_5 b1_6 b1_7 b2_0 b2_1 b3_0 b3_1:Int):kl1:=uG ks8 n [I,I,O,O,I,I,I] ⟨[(0,.ptr 0 0),(3,.ptr 1 0),(5,.ptr 2 0),(7,.ptr 3 0),(30,cb s30)],[.k2 b0_0l b0_1l b0_2l b0_3 b0_4,.k1 b1_0 b1_1 b1_2 b1_3 b1_4 b1_5 b1_6 b1_7,.k13 b2_0 b2_1,.k13 b3_0 b3_1]⟩
def wf9 (n:Nat) (x0 x1 x2 x3 x4 x5):qaw n x0 x1 x2 x3 x4 x5=j7 (qbz v8 x0 x1 x2 x3 x4 x5 ([x5.Dst]:List Int)) fun y1=>if 0<=x5.Dst/\x5.Dst<((11:Nat):Int) then (j9 (y1.2.2.1 != (0:Int)) (some (((y1.1.1.1,y1.1.1.2.1,y1.1.1.2.2.1,y1.1.1.2.2.2.1,y1.1.1.2.2.2.2.1,(),()),()),(y1.2.2.1,()))) (j9 (((y1.1.1.1.getD x5.Dst.toNat zl5).kind) != (1:Int)) (qc0 n true y1.1.1.1 y1.1.1.2.1 y1.1.1.2.2.1 y1.1.1.2.2.2.1 y1.1.1.2.2.2.2.1 x5.Op x5.Narrow x5.Dst x5.Src x5.UseImm x5.Off x5.Imm x5.Size y1.2.1.kind y1.2.1.n ((y1.1.1.1.getD x5.Dst.toNat zl5).kind) ((y1.1.1.1.getD x5.Dst.toNat zl5).n)) (qc0 n (y1.2.1.kind != (1:Int)) y1.1.1.1 y1.1.1.2.1 y1.1.1.2.2.1 y1.1.1.2.2.2.1 y1.1.1.2.2.2.2.1 x5.Op x5.Narrow x5.Dst x5.Src x5.UseImm x5.Off x5.Imm x5.Size y1.2.1.kind y1.2.1.n ((y1.1.1.1.getD x5.Dst.toNat zl5).kind) ((y1.1.1.1.getD x5.Dst.toNat zl5).n)))) else none:=by kernel_rfl
def vo2 (n:Nat) (s30 b0_0l b0_1l b0_2l b0_3 b0_4 b1_0 b1_1 b1_2 b1_3 b1_4 b1_5 b1_6 b1_7 b2_0 b2_1 b3_0 b3_1):qc0 (n+1) s30 b0_0l b0_1l b0_2l b0_3 b0_4 b1_0 b1_1 b1_2 b1_3 b1_4 b1_5 b1_6 b1_7 b2_0 b2_1 b3_0 b3_1=j9 s30 (some (((b0_0l,b0_1l,b0_2l,b0_3,b0_4,(),()),()),((111:Int),()))) (j7 (qdj v8 b1_0 b1_1 b3_1 b2_1) fun y1=>j9 y1.1 (some (((b0_0l,b0_1l,b0_2l,b0_3,IntKind.i64.wrap (b0_4+b1_5),(),()),()),((0:Int),()))) (some (((b0_0l,b0_1l,b0_2l,b0_3,b0_4,(),()),()),((0:Int),())))):=by kernel_rfl
def wg0:=okG ks8 func90
noncomputable def gu3:KF:=⟨cF wq2 (cE (cs:=(CallSpec.forkS [.b2] (fun x=>yz4 x.1) ((sG kt7).toCall (zb9 TT)) (CallSpec.forkS [.b2] (fun x=>yz5 x.1) ((sG kt8).toCall (zb9 TT)) (CallSpec.forkS [.b2] (fun x=>yz6 x.1) ((sG kt9).toCall (zb9 TT)) (CallSpec.forkS [.b2] (fun x=>yz7 x.1) ((sG ku0).toCall (zb9 TT)) (CallSpec.forkS [.b2] (fun x=>yz8 x.1) ((sG ku1).toCall (zb9 TT)) (CallSpec.forkS [.b2] (fun x=>yz9 x.1) ((sG ku2).toCall (zb9 TT)) (CallSpec.forkS [.b2] (fun x=>ja0 x.1) ((sG ku3).toCall (zb9 TT)) ((sG ku4).toCall (zb9 TT)))))))))) (zb4 _ _ (q8 wl2 (q9 59)) (zb4 _ _ (q8 wl4 (q9 59)) (zb4 _ _ (q8 wl6 (q9 59)) (zb4 _ _ (q8 wl8 (q9 59)) (zb4 _ _ (q8 wm0 (q9 59)) (zb4 _ _ (q8 wm2 (q9 59)) (zb4 _ _ (q8 wm4 (q9 59)) (q8 wm6 (q9 59))))))))) (cG wd0 (cG wo8 (cG uh8 (cG ui0 (cG wx3 (cE (cs:=(CallSpec.forkS [.a5,.d1] (fun x=>zx2 x.1.1 x.1.2.1 x.1.2.2.1 x.1.2.2.2.1 x.1.2.2.2.2.1 x.2.1) ((sG ku5).toCall (zb9 TT)) ((sG ku6).toCall (zb9 TT)))) (zb4 _ _ (q8 wm8 (q9 88)) (q8 wn0 (q9 88))) (cG uh5 (cG wg0 eN))))))))),0,[(7,1),(10,1),(13,1)],[([O,O,I,I,I,I,I,I],qt [0,4,6])],f40,z0,[.c7,.b1],[.val (.user 7)]⟩
noncomputable def ql (n:Nat) (x0:List Ins) (x1:List Int):Option (Outcome):=tF gu3 n (x0,x1)
noncomputable def zr5 (n:Nat) (s0:List Ins) (b0_0 b0_1 b0_2 b0_3:Int) (b1_0l:List Val) (b1_1l:List Int) (b1_2l:List Bool) (b1_3:List Int) (b1_4:Int):Option (Outcome):=uF gu3 n [O,O,I,I,I,I,I,I] ⟨[(0,.cell ⟨.list (.user 5),s0⟩),(4,.ptr 0 0),(6,.ptr 1 0)],[.k42 b0_0 b0_1 b0_2 b0_3,.k2 b1_0l b1_1l b1_2l b1_3 b1_4]⟩
noncomputable def ko5 (n:Nat) (s0:List Ins) (b0_0 b0_1 b0_2 b0_3:Int) (b1_0l:List Val) (b1_1l:List Int) (b1_2l:List Bool) (b1_3:List Int) (b1_4:Int) (b1_5k:Nat):Option (Outcome):=uF gu3 n [O,O,I,I,I,I,I,I] ⟨[(0,.cell ⟨.list (.user 5),s0⟩),(4,.ptr 0 0),(6,.ptr 1 0)],[.k42 b0_0 b0_1 b0_2 b0_3,.blk 127 [.arr (.user 8) 11 b1_0l,.arr (.int .u8) 512 b1_1l,.arr (.bool) 512 b1_2l,.cell ⟨.list (.int .u8),b1_3⟩,ci b1_4,.aptr 1 0 2 11 b1_5k 1]]⟩
def ug2 (n:Nat) (x0 x1):ql n x0 x1=j7 (qdt v8 x0) fun y1=>j9 (y1.Err != (0:Int)) (some (⟨y1.Err,y1.At,(0:Int),(0:Int)⟩:Outcome)) (j9 (decide (((x1.length:Nat):Int)>(65535:Int))) (some (⟨(3:Int),(0:Int),(0:Int),(0:Int)⟩:Outcome)) (zr5 n x0 (0:Int) (0:Int) (0:Int) (0:Int) ((((List.replicate 11 (⟨(0:Int),(0:Int)⟩:Val)).set 1 (⟨(2:Int),((List.replicate 11 (⟨(0:Int),(0:Int)⟩:Val)).getD 1 zl5).n⟩:Val)).set 10 (⟨(3:Int),(((List.replicate 11 (⟨(0:Int),(0:Int)⟩:Val)).set 1 (⟨(2:Int),((List.replicate 11 (⟨(0:Int),(0:Int)⟩:Val)).getD 1 zl5).n⟩:Val)).getD 10 zl5).n⟩:Val)).set 2 (⟨(1:Int),IntKind.u64.wrap ((x1.length:Nat):Int)⟩:Val)) (List.replicate 512 (0:Int)) (List.replicate 512 false) x1 (0:Int))):=by kernel_rfl
def kd4 (n:Nat) (s0 b0_0 b0_1 b0_2 b0_3 b1_0l b1_1l b1_2l b1_3 b1_4):zr5 (n+1) s0 b0_0 b0_1 b0_2 b0_3 b1_0l b1_1l b1_2l b1_3 b1_4=if 0<=b1_4/\b1_4<((s0.length:Nat):Int) then (j9 (decide (((s0.getD b1_4.toNat zb1).Op)=(12:Int))) (j7 (qcu v8 ((s0.getD b1_4.toNat zb1).Op)) fun y1=>j7 (qaf v8 b1_0l b1_1l b1_2l b1_3 (IntKind.i64.wrap (b1_4+(1:Int))) (s0.getD b1_4.toNat zb1)) fun y2=>j9 (y2.2.1 != (0:Int)) (some (⟨y2.2.1,b1_4,(0:Int),IntKind.i64.wrap (b0_3+(1:Int))⟩:Outcome)) (zr5 n s0 b0_0 b0_1 b0_2 (IntKind.i64.wrap (b0_3+(1:Int))) y2.1.1.1 y2.1.1.2.1 y2.1.1.2.2.1 y2.1.1.2.2.2.1 y2.1.1.2.2.2.2.1)) (j9 ((!(decide (((s0.getD b1_4.toNat zb1).Op)=(12:Int))))&&(decide (((s0.getD b1_4.toNat zb1).Op)=(13:Int)))) (j7 (qcv v8 ((s0.getD b1_4.toNat zb1).Op)) fun y3=>j7 (qdm v8 b1_0l b1_1l b1_2l b1_3 (IntKind.i64.wrap (b1_4+(1:Int))) (s0.getD b1_4.toNat zb1)) fun y4=>j9 (y4.2.1 != (0:Int)) (some (⟨y4.2.1,b1_4,(0:Int),IntKind.i64.wrap (b0_3+(1:Int))⟩:Outcome)) (zr5 n s0 b0_0 b0_1 b0_2 (IntKind.i64.wrap (b0_3+(1:Int))) y4.1.1.1 y4.1.1.2.1 y4.1.1.2.2.1 y4.1.1.2.2.2.1 y4.1.1.2.2.2.2.1)) (j9 ((!(decide (((s0.getD b1_4.toNat zb1).Op)=(12:Int))))&&((!(decide (((s0.getD b1_4.toNat zb1).Op)=(13:Int))))&&(decide (((s0.getD b1_4.toNat zb1).Op)=(14:Int))))) (j7 (qcw v8 ((s0.getD b1_4.toNat zb1).Op)) fun y5=>j7 (qx v8 b1_0l b1_1l b1_2l b1_3 (IntKind.i64.wrap (b1_4+(1:Int))) (s0.getD b1_4.toNat zb1)) fun y6=>j9 (y6.2.1 != (0:Int)) (some (⟨y6.2.1,b1_4,(0:Int),IntKind.i64.wrap (b0_3+(1:Int))⟩:Outcome)) (zr5 n s0 b0_0 b0_1 b0_2 (IntKind.i64.wrap (b0_3+(1:Int))) y6.1.1.1 y6.1.1.2.1 y6.1.1.2.2.1 y6.1.1.2.2.2.1 y6.1.1.2.2.2.2.1)) (j9 ((!(decide (((s0.getD b1_4.toNat zb1).Op)=(12:Int))))&&((!(decide (((s0.getD b1_4.toNat zb1).Op)=(13:Int))))&&((!(decide (((s0.getD b1_4.toNat zb1).Op)=(14:Int))))&&(decide (((s0.getD b1_4.toNat zb1).Op)=(15:Int)))))) (j7 (qcx v8 ((s0.getD b1_4.toNat zb1).Op)) fun y7=>j7 (qy v8 b1_0l b1_1l b1_2l b1_3 (IntKind.i64.wrap (b1_4+(1:Int))) (s0.getD b1_4.toNat zb1)) fun y8=>j9 (y8.2.1 != (0:Int)) (some (⟨y8.2.1,b1_4,(0:Int),IntKind.i64.wrap (b0_3+(1:Int))⟩:Outcome)) (zr5 n s0 b0_0 b0_1 b0_2 (IntKind.i64.wrap (b0_3+(1:Int))) y8.1.1.1 y8.1.1.2.1 y8.1.1.2.2.1 y8.1.1.2.2.2.1 y8.1.1.2.2.2.2.1)) (j9 ((!(decide (((s0.getD b1_4.toNat zb1).Op)=(12:Int))))&&((!(decide (((s0.getD b1_4.toNat zb1).Op)=(13:Int))))&&((!(decide (((s0.getD b1_4.toNat zb1).Op)=(14:Int))))&&((!(decide (((s0.getD b1_4.toNat zb1).Op)=(15:Int))))&&(decide (((s0.getD b1_4.toNat zb1).Op)=(16:Int))))))) (j7 (qcy v8 ((s0.getD b1_4.toNat zb1).Op)) fun y9=>j7 (qfd v8 b1_0l b1_1l b1_2l b1_3 (IntKind.i64.wrap (b1_4+(1:Int))) (s0.getD b1_4.toNat zb1)) fun y10=>j9 (y10.2.1 != (0:Int)) (some (⟨y10.2.1,b1_4,(0:Int),IntKind.i64.wrap (b0_3+(1:Int))⟩:Outcome)) (zr5 n s0 b0_0 b0_1 b0_2 (IntKind.i64.wrap (b0_3+(1:Int))) y10.1.1.1 y10.1.1.2.1 y10.1.1.2.2.1 y10.1.1.2.2.2.1 y10.1.1.2.2.2.2.1)) (j9 ((!(decide (((s0.getD b1_4.toNat zb1).Op)=(12:Int))))&&((!(decide (((s0.getD b1_4.toNat zb1).Op)=(13:Int))))&&((!(decide (((s0.getD b1_4.toNat zb1).Op)=(14:Int))))&&((!(decide (((s0.getD b1_4.toNat zb1).Op)=(15:Int))))&&((!(decide (((s0.getD b1_4.toNat zb1).Op)=(16:Int))))&&(decide (((s0.getD b1_4.toNat zb1).Op)=(28:Int)))))))) (j7 (qcz v8 ((s0.getD b1_4.toNat zb1).Op)) fun y11=>j9 (match qe v8 b1_0l b1_1l b1_2l b1_3 (IntKind.i64.wrap (b1_4+(1:Int))) ([(0:Int)]:List Int) with|some y1=>((y1.2.1 != (0:Int))||(((b1_0l.getD 0 zl5).kind) != (1:Int)))|none=>false) (j7 (qdc v8 b1_0l b1_1l b1_2l b1_3 (IntKind.i64.wrap (b1_4+(1:Int))) (s0.getD b1_4.toNat zb1)) fun y12=>j9 (y12.2.1 != (0:Int)) (some (⟨y12.2.1,b1_4,(0:Int),IntKind.i64.wrap (b0_3+(1:Int))⟩:Outcome)) (zr5 n s0 b0_0 b0_1 b0_2 (IntKind.i64.wrap (b0_3+(1:Int))) y12.1.1.1 y12.1.1.2.1 y12.1.1.2.2.1 y12.1.1.2.2.2.1 y12.1.1.2.2.2.2.1)) (j7 (qdd v8 b1_0l b1_1l b1_2l b1_3 (IntKind.i64.wrap (b1_4+(1:Int))) (s0.getD b1_4.toNat zb1)) fun y13=>j9 (y13.2.1 != (0:Int)) (some (⟨y13.2.1,b1_4,(0:Int),IntKind.i64.wrap (b0_3+(1:Int))⟩:Outcome)) (ko5 n s0 b0_0 b0_1 b0_2 (IntKind.i64.wrap (b0_3+(1:Int))) y13.1.1.1 y13.1.1.2.1 y13.1.1.2.2.1 y13.1.1.2.2.2.1 y13.1.1.2.2.2.2.1 y13.1.1.2.2.2.2.2.1))) (j9 ((!(decide (((s0.getD b1_4.toNat zb1).Op)=(12:Int))))&&((!(decide (((s0.getD b1_4.toNat zb1).Op)=(13:Int))))&&((!(decide (((s0.getD b1_4.toNat zb1).Op)=(14:Int))))&&((!(decide (((s0.getD b1_4.toNat zb1).Op)=(15:Int))))&&((!(decide (((s0.getD b1_4.toNat zb1).Op)=(16:Int))))&&((!(decide (((s0.getD b1_4.toNat zb1).Op)=(28:Int))))&&(decide (((s0.getD b1_4.toNat zb1).Op)<(12:Int))))))))) (j7 (qda v8 ((s0.getD b1_4.toNat zb1).Op)) fun y14=>j7 (qv v8 b1_0l b1_1l b1_2l b1_3 (IntKind.i64.wrap (b1_4+(1:Int))) (s0.getD b1_4.toNat zb1)) fun y15=>j9 (y15.2.1 != (0:Int)) (some (⟨y15.2.1,b1_4,(0:Int),IntKind.i64.wrap (b0_3+(1:Int))⟩:Outcome)) (zr5 n s0 b0_0 b0_1 b0_2 (IntKind.i64.wrap (b0_3+(1:Int))) y15.1.1.1 y15.1.1.2.1 y15.1.1.2.2.1 y15.1.1.2.2.2.1 y15.1.1.2.2.2.2.1)) (j7 (qdb v8 ((s0.getD b1_4.toNat zb1).Op)) fun y16=>j7 (qaw v8 b1_0l b1_1l b1_2l b1_3 (IntKind.i64.wrap (b1_4+(1:Int))) (s0.getD b1_4.toNat zb1)) fun y17=>j9 (y17.2.1 != (0:Int)) (some (⟨y17.2.1,b1_4,(0:Int),IntKind.i64.wrap (b0_3+(1:Int))⟩:Outcome)) (zr5 n s0 b0_0 b0_1 b0_2 (IntKind.i64.wrap (b0_3+(1:Int))) y17.1.1.1 y17.1.1.2.1 y17.1.1.2.2.1 y17.1.1.2.2.2.1 y17.1.1.2.2.2.2.1))))))))) else none:=by kernel_rfl
def vo7 (n:Nat) (s0 b0_0 b0_1 b0_2 b0_3 b1_0l b1_1l b1_2l b1_3 b1_4 b1_5k):ko5 (n+1) s0 b0_0 b0_1 b0_2 b0_3 b1_0l b1_1l b1_2l b1_3 b1_4 b1_5k=some (⟨b0_0,b0_1,(b1_0l.getD b1_5k zl5).n,b0_3⟩:Outcome):=by kernel_rfl
def ug3:=okF gu3 func40
end Go.X
