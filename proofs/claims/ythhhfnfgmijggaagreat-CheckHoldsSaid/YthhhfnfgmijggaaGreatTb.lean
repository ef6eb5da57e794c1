import Derived.Test.YthhhfnfgmijggaaGreatXN
import Derived.Test.YthhhfnfgmijggaaGreatAB
import Derived.Test.YthhhfnfgmijggaaGreatProg
set_option linter.defProp false
namespace Go.X
open Go.RowKit Go.V Go.Proofs
def zb0 (f:Func):Code:=match f.body with|some c=>c|none=>.skip
structure Span where
 Lo:Int
 Hi:Int
def zal3:Span:=⟨(0:Int),(0:Int)⟩
structure Known where
 Kind:Int
 In_Lo:Int
 In_Hi:Int
def j7:Known:=⟨(0:Int),(0:Int),(0:Int)⟩
structure Ins where
 Op:Int
 Narrow:Bool
 Dst:Int
 Src:Int
 UseImm:Bool
 Off:Int
 Imm:Int
 Size:Int
def za1:Ins:=⟨(0:Int),false,(0:Int),(0:Int),false,(0:Int),(0:Int),(0:Int)⟩
structure Fault where
 Err:Int
 At:Int
def uf3:Fault:=⟨(0:Int),(0:Int)⟩
structure Place where
 Live:Bool
 Regs:List Known
 Bytes:List Bool
 Least:Int
def j8:Place:=⟨false,([]:List Known),([]:List Bool),(0:Int)⟩
structure RVal where
 Kind:Int
 N:Int
def qa0:RVal:=⟨(0:Int),(0:Int)⟩
structure Work where
 a_Lo:Int
 a_Hi:Int
 b_Lo:Int
 b_Hi:Int
 narrow:Bool
 most:Int
 size:Int
def zal5:Work:=⟨(0:Int),(0:Int),(0:Int),(0:Int),false,(0:Int),(0:Int)⟩
def UU:Nat->Type
 |0=>Span
 |1=>Known
 |2=>Ins
 |3=>Fault
 |4=>Place
 |5=>RVal
 |6=>Work
 |_=>Unit
def Span.cs (x:Span):List (Cell UU):= [⟨.int .u64,x.Lo⟩,⟨.int .u64,x.Hi⟩]
def Span.of:List (Cell UU)->Option Span
 | [c0,c1]=>match c0.as (.int .u64),c1.as (.int .u64) with
  |some a0,some a1=>some ⟨a0,a1⟩
  |_,_=>none
 |_=>none
def Span.of_cs (cs:List (Cell UU)) (x:Span) (h:Span.of cs=some x):x.cs=cs:=by
 unfold Span.of at h;split at h
 ·split at h
  ·rename_i h0 h1;simp only [X0] at h;subst h;rw [Span.cs,Cell.as_eq h0,Cell.as_eq h1]
  ·cases h
 ·cases h
def Known.cs (x:Known):List (Cell UU):= [⟨.int .u8,x.Kind⟩,⟨.int .u64,x.In_Lo⟩,⟨.int .u64,x.In_Hi⟩]
def Known.of:List (Cell UU)->Option Known
 | [c0,c1,c2]=>match c0.as (.int .u8),c1.as (.int .u64),c2.as (.int .u64) with
  |some a0,some a1,some a2=>some ⟨a0,a1,a2⟩
  |_,_,_=>none
 |_=>none
def Known.of_cs (cs:List (Cell UU)) (x:Known) (h:Known.of cs=some x):x.cs=cs:=by
 unfold Known.of at h;split at h
 ·split at h
  ·rename_i h0 h1 h2;simp only [X0] at h;subst h;rw [Known.cs,Cell.as_eq h0,Cell.as_eq h1,Cell.as_eq h2]
  ·cases h
 ·cases h
def Ins.cs (x:Ins):List (Cell UU):= [⟨.int .u8,x.Op⟩,⟨.bool,x.Narrow⟩,⟨.int .i64,x.Dst⟩,⟨.int .i64,x.Src⟩,⟨.bool,x.UseImm⟩,⟨.int .i64,x.Off⟩,⟨.int .i64,x.Imm⟩,⟨.int .i64,x.Size⟩]
def Ins.of:List (Cell UU)->Option Ins
 | [c0,c1,c2,c3,c4,c5,c6,c7]=>match c0.as (.int .u8),c1.as (.bool),c2.as (.int .i64),c3.as (.int .i64),c4.as (.bool),c5.as (.int .i64),c6.as (.int .i64),c7.as (.int .i64) with
  |some a0,some a1,some a2,some a3,some a4,some a5,some a6,some a7=>some ⟨a0,a1,a2,a3,a4,a5,a6,a7⟩
  |_,_,_,_,_,_,_,_=>none
 |_=>none
def Ins.of_cs (cs:List (Cell UU)) (x:Ins) (h:Ins.of cs=some x):x.cs=cs:=by
 unfold Ins.of at h;split at h
 ·split at h
  ·rename_i h0 h1 h2 h3 h4 h5 h6 h7;simp only [X0] at h;subst h;rw [Ins.cs,Cell.as_eq h0,Cell.as_eq h1,Cell.as_eq h2,Cell.as_eq h3,Cell.as_eq h4,Cell.as_eq h5,Cell.as_eq h6,Cell.as_eq h7]
  ·cases h
 ·cases h
def Fault.cs (x:Fault):List (Cell UU):= [⟨.int .i64,x.Err⟩,⟨.int .i64,x.At⟩]
def Fault.of:List (Cell UU)->Option Fault
 | [c0,c1]=>match c0.as (.int .i64),c1.as (.int .i64) with
  |some a0,some a1=>some ⟨a0,a1⟩
  |_,_=>none
 |_=>none
def Fault.of_cs (cs:List (Cell UU)) (x:Fault) (h:Fault.of cs=some x):x.cs=cs:=by
 unfold Fault.of at h;split at h
 ·split at h
  ·rename_i h0 h1;simp only [X0] at h;subst h;rw [Fault.cs,Cell.as_eq h0,Cell.as_eq h1]
  ·cases h
 ·cases h
def Place.cs (x:Place):List (Cell UU):= [⟨.bool,x.Live⟩,⟨.list (.user 1),x.Regs⟩,⟨.list (.bool),x.Bytes⟩,⟨.int .i64,x.Least⟩]
def Place.of:List (Cell UU)->Option Place
 | [c0,c1,c2,c3]=>match c0.as (.bool),c1.as (.list (.user 1)),c2.as (.list (.bool)),c3.as (.int .i64) with
  |some a0,some a1,some a2,some a3=>some ⟨a0,a1,a2,a3⟩
  |_,_,_,_=>none
 |_=>none
def Place.of_cs (cs:List (Cell UU)) (x:Place) (h:Place.of cs=some x):x.cs=cs:=by
 unfold Place.of at h;split at h
 ·split at h
  ·rename_i h0 h1 h2 h3;simp only [X0] at h;subst h;rw [Place.cs,Cell.as_eq h0,Cell.as_eq h1,Cell.as_eq h2,Cell.as_eq h3]
  ·cases h
 ·cases h
def RVal.cs (x:RVal):List (Cell UU):= [⟨.int .u8,x.Kind⟩,⟨.int .u64,x.N⟩]
def RVal.of:List (Cell UU)->Option RVal
 | [c0,c1]=>match c0.as (.int .u8),c1.as (.int .u64) with
  |some a0,some a1=>some ⟨a0,a1⟩
  |_,_=>none
 |_=>none
def RVal.of_cs (cs:List (Cell UU)) (x:RVal) (h:RVal.of cs=some x):x.cs=cs:=by
 unfold RVal.of at h;split at h
 ·split at h
  ·rename_i h0 h1;simp only [X0] at h;subst h;rw [RVal.cs,Cell.as_eq h0,Cell.as_eq h1]
  ·cases h
 ·cases h
def Work.cs (x:Work):List (Cell UU):= [⟨.int .u64,x.a_Lo⟩,⟨.int .u64,x.a_Hi⟩,⟨.int .u64,x.b_Lo⟩,⟨.int .u64,x.b_Hi⟩,⟨.bool,x.narrow⟩,⟨.int .u64,x.most⟩,⟨.int .u64,x.size⟩]
def Work.of:List (Cell UU)->Option Work
 | [c0,c1,c2,c3,c4,c5,c6]=>match c0.as (.int .u64),c1.as (.int .u64),c2.as (.int .u64),c3.as (.int .u64),c4.as (.bool),c5.as (.int .u64),c6.as (.int .u64) with
  |some a0,some a1,some a2,some a3,some a4,some a5,some a6=>some ⟨a0,a1,a2,a3,a4,a5,a6⟩
  |_,_,_,_,_,_,_=>none
 |_=>none
def Work.of_cs (cs:List (Cell UU)) (x:Work) (h:Work.of cs=some x):x.cs=cs:=by
 unfold Work.of at h;split at h
 ·split at h
  ·rename_i h0 h1 h2 h3 h4 h5 h6;simp only [X0] at h;subst h;rw [Work.cs,Cell.as_eq h0,Cell.as_eq h1,Cell.as_eq h2,Cell.as_eq h3,Cell.as_eq h4,Cell.as_eq h5,Cell.as_eq h6]
  ·cases h
 ·cases h
def TT:Tab where
 U:=UU
 d:=fun i=>match i with
  |0=>zal3
  |1=>j7
  |2=>za1
  |3=>uf3
  |4=>j8
  |5=>qa0
  |6=>zal5
  |_+7=>()
 size:=fun i=>match i with
  |0=>2
  |1=>3
  |2=>8
  |3=>2
  |4=>4
  |5=>2
  |6=>7
  |_+7=>0
 cells:=fun i=>match i with
  |0=>Span.cs
  |1=>Known.cs
  |2=>Ins.cs
  |3=>Fault.cs
  |4=>Place.cs
  |5=>RVal.cs
  |6=>Work.cs
  |_+7=>fun _=> []
 len:=fun i=>match i with
  |0=>fun _=>rfl
  |1=>fun _=>rfl
  |2=>fun _=>rfl
  |3=>fun _=>rfl
  |4=>fun _=>rfl
  |5=>fun _=>rfl
  |6=>fun _=>rfl
  |_+7=>fun _=>rfl
 pack:=fun i=>match i with
  |0=>Span.of
  |1=>Known.of
  |2=>Ins.of
  |3=>Fault.of
  |4=>Place.of
  |5=>RVal.of
  |6=>Work.of
  |_+7=>fun cl=>match cl with| []=>some ()|_::_=>none
 packed:=fun i=>match i with
  |0=>Span.of_cs
  |1=>Known.of_cs
  |2=>Ins.of_cs
  |3=>Fault.of_cs
  |4=>Place.of_cs
  |5=>RVal.of_cs
  |6=>Work.of_cs
  |_+7=>fun cl x h=>by cases cl with|nil=>rfl|cons a r=>cases h
 scal:=fun i=>match i with
  |0=>true
  |1=>true
  |2=>true
  |3=>true
  |4=>false
  |5=>true
  |6=>true
  |_+7=>true
 scals:=fun i=>match i with
  |0=>fun x _ c hc=>by simp only [Span.cs,Z0,J7,or_false] at hc;rcases hc with rfl|rfl<;>rfl
  |1=>fun x _ c hc=>by simp only [Known.cs,Z0,J7,or_false] at hc;rcases hc with rfl|rfl|rfl<;>rfl
  |2=>fun x _ c hc=>by simp only [Ins.cs,Z0,J7,or_false] at hc;rcases hc with rfl|rfl|rfl|rfl|rfl|rfl|rfl|rfl<;>rfl
  |3=>fun x _ c hc=>by simp only [Fault.cs,Z0,J7,or_false] at hc;rcases hc with rfl|rfl<;>rfl
  |4=>fun _ h=>by cases h
  |5=>fun x _ c hc=>by simp only [RVal.cs,Z0,J7,or_false] at hc;rcases hc with rfl|rfl<;>rfl
  |6=>fun x _ c hc=>by simp only [Work.cs,Z0,J7,or_false] at hc;rcases hc with rfl|rfl|rfl|rfl|rfl|rfl|rfl<;>rfl
  |_+7=>fun _ _ c hc=>by cases hc
def uc2:List (Nat×Ty)->Nat->Option Ty
 | [],_=>none
 |(j,t)::r,i=>match Nat.beq j i with|true=>some t|false=>uc2 r i
def ja9 (t:TypeId):Option Ty:=uc2 [(22,.user 2),(23,.int .u8),(25,.user 4),(34,.user 1),(35,.bool),(67,.user 5),(95,.int .i64)] t
def gg3:List (Nat×Lay)->Nat->Option Lay
 | [],_=>none
 |(j,l)::r,i=>match Nat.beq j i with|true=>some l|false=>gg3 r i
def zz2 (t:TypeId):Option Lay:=gg3 [(84,[some (.int .u8,512)]),(85,[some (.bool,512)]),(87,[none,none,none,none,none,none,none,none,none,none,none,none,none,none,none,none,none,none,none,none,none,none,some (.int .u8,512),some (.bool,512),none,none,none]),(88,[none,none,none,none,none,none,none,none,none,none,none,none,none,none,none,none,none,none,none,none,none,none,some (.int .u8,512),some (.bool,512),none,none,none]),(157,[some (.bool,512)]),(204,[some (.int .u8,28)]),(213,[some (.bool,9)])] t
def gg9:List (Nat×(Nat×List TypeId))->Nat->Option (Nat×List TypeId)
 | [],_=>none
 |(j,l)::r,i=>match Nat.beq j i with|true=>some l|false=>gg9 r i
def jc2 (t:TypeId):Option (Nat×List TypeId):=gg9 [(25,(4,[0,59,0,0]))] t
abbrev v3:Nat:=1000000000
def pfM:Tryz.prog.follows .mixedOrders=true:=by kernel_rfl
abbrev EE:= {E:List (FuncId×CallSpec TT) // zc4 TT Tryz.prog E}
def eN:EE:=⟨[],zm4⟩
noncomputable def cE {f:FuncId} {cs:CallSpec TT} (h:za2 TT Tryz.prog f cs/\zj6 TT Tryz.prog f cs/\yh8 cs) (r:EE):EE:=⟨(f,cs)::r.1,zr2 h r.2⟩
noncomputable def cF {f:FuncId} {s:FnSpec TT} (h:ks6 TT Tryz.prog f s) (r:EE):EE:=cE (zc9 h) r
noncomputable def cG {f:FuncId} {s:GSpec TT} (h:GOk TT Tryz.prog f s) (r:EE):EE:=cE (zb4 h (v7 f)) r
noncomputable def cP {f:FuncId} {s:PSpec TT} (h:POk TT Tryz.prog f s) (r:EE):EE:=cE (zc6 h (v7 f)) r
noncomputable def mC (e:EE) (p:Nat) (m:List (Nat×Nat)):Ctx TT:=⟨ja9,e.1,p,m,zz2,jc2⟩
abbrev n0:Nl:=⟨[],[],[],[],[]⟩
abbrev z0:Zw:=⟨[],[]⟩
structure KF where
 e:EE
 p:Nat
 m:List (Nat×Nat)
 c:List (Pos×Cut)
 f:Func
 z:Zw
 ps:List PT
 rs:List RT
structure KG where
 e:EE
 p:Nat
 m:List (Nat×Nat)
 c:List (Pos×Cut)
 f:Func
 nl:Nl
 ps:List Sh
 post:List PE
 rs:List Sh
structure KP extends KG where
 pv:Sh
noncomputable def tF (k:KF):Nat->yi2 TT k.ps->Option (ya2 TT (zb5 k.ps) (ya1 TT k.rs)):=topF TT Tryz.prog (mC k.e k.p k.m) k.c k.f (zb0 k.f) k.z k.ps k.rs
noncomputable def tG (k:KG):Nat->zf9 TT k.ps->Option (zt1 TT k.post×zf9 TT k.rs):=topG TT Tryz.prog (mC k.e k.p k.m) k.c k.f (zb0 k.f) k.nl k.ps k.post k.rs
noncomputable def tP (k:KP):Nat->zf9 TT k.ps->Option (zt1 TT k.post×(zf9 TT k.rs⊕zf9 TT [k.pv])):=topP TT Tryz.prog (mC k.e k.p k.m) k.c k.f (zb0 k.f) k.nl k.ps k.post k.rs k.pv
noncomputable def uF (k:KF):Nat->Pos->St TT->Option (ya2 TT (zb5 k.ps) (ya1 TT k.rs)):=cutF TT Tryz.prog (mC k.e k.p k.m) k.c k.f (zb0 k.f) k.z k.ps k.rs
noncomputable def uG (k:KG):Nat->Pos->St TT->Option (zt1 TT k.post×zf9 TT k.rs):=cutG TT Tryz.prog (mC k.e k.p k.m) k.c k.f (zb0 k.f) k.nl k.post k.rs
noncomputable def uP (k:KP):Nat->Pos->St TT->Option (zt1 TT k.post×(zf9 TT k.rs⊕zf9 TT [k.pv])):=cutP TT Tryz.prog (mC k.e k.p k.m) k.c k.f (zb0 k.f) k.nl k.post k.rs k.pv
noncomputable abbrev sF (k:KF):FnSpec TT:=⟨k.ps,k.rs,tF k v3⟩
noncomputable abbrev sG (k:KG):GSpec TT:=⟨k.ps,k.post,k.rs,tG k v3⟩
noncomputable abbrev sP (k:KP):PSpec TT:=⟨k.ps,k.post,k.rs,k.pv,tP k v3⟩
def okF (k:KF) {f:FuncId} (hf:Tryz.prog.funcs[f]?=some k.f) (hb:k.f.body=some (zb0 k.f):=by rfl) (hs:Nat.ble k.ps.length k.f.ntmps=true:=by rfl) (hp:Nat.ble (zb5 k.ps).length k.p=true:=by rfl):ks6 TT Tryz.prog f (sF k):=wn5 (C:=mC k.e k.p k.m) pfM k.e.2 hf hb hs hp fun x y h=>⟨v3,h⟩
def okG (k:KG) {f:FuncId} (hf:Tryz.prog.funcs[f]?=some k.f) (hb:k.f.body=some (zb0 k.f):=by rfl) (hs:Nat.ble k.ps.length k.f.ntmps=true:=by rfl) (hp:Nat.ble (za8 k.ps) k.p=true:=by rfl) (ho:Nat.beq k.post.length (za8 k.ps)=true:=by rfl):GOk TT Tryz.prog f (sG k):=un4 (C:=mC k.e k.p k.m) pfM k.e.2 hf hb hs hp ho fun x y h=>⟨v3,h⟩
def okP (k:KP) {f:FuncId} (hf:Tryz.prog.funcs[f]?=some k.f) (hb:k.f.body=some (zb0 k.f):=by rfl) (hs:Nat.ble k.ps.length k.f.ntmps=true:=by rfl) (hp:Nat.ble (za8 k.ps) k.p=true:=by rfl) (ho:Nat.beq k.post.length (za8 k.ps)=true:=by rfl):POk TT Tryz.prog f (sP k):=un3 (C:=mC k.e k.p k.m) pfM k.e.2 hf hb hs hp ho fun x y h=>⟨v3,h⟩
abbrev I:=true
abbrev O:=false
abbrev qt (l:List Nat):Cut:=⟨l,[],false,[],0,false⟩
abbrev u1:=Int×Unit
abbrev u19:=((List Ins×Unit)×Unit)×u1
abbrev u18:=Bool×Int
abbrev u4:=Unit×Unit
abbrev u17:=Unit×(u4×Unit)
abbrev u16:=Known×Int
abbrev u15:=Int×Int
abbrev u14:=Int×Int×Unit
abbrev u13:=(u1×u1×u1×Unit)×u1
abbrev u5:=List Ins×Unit×Int×Bool×Unit×List Bool×Int×Unit
abbrev u12:=(u5×List Place×List Known×List Known×Unit)×Unit
abbrev u11:=List Int×Unit
abbrev u10:=Unit×((Span×Span×Unit)⊕u4)
abbrev u9:=Unit×((Span×Unit)⊕u4)
abbrev u8:=Unit×(List Place×Fault×Unit)
abbrev u7:=List Bool×Unit
abbrev u6:=(u1×u1×Unit)×u1
abbrev u3:=(Unit×Unit×Unit×List Int×Unit)×List RVal×List Int×List Bool×Unit
abbrev u2:=u5×List Place×List Known×Unit
abbrev ci (x:Int):AV TT.U:=.cell ⟨.int .i64,x⟩
abbrev cb (x:Bool):AV TT.U:=.cell ⟨.bool,x⟩
abbrev cu8 (x:Int):AV TT.U:=.cell ⟨.int .u8,x⟩
abbrev cu32 (x:Int):AV TT.U:=.cell ⟨.int .u32,x⟩
abbrev zd7 (x:Int):AV TT.U:=.cell ⟨.int .u64,x⟩
abbrev Sh.d9:Sh:=.row 3 (.int .i64)
abbrev PE.d9:PE:=.row 3 (.int .i64)
abbrev Sh.a8:Sh:=.val (.bool)
abbrev PT.a8:PT:=.val (.bool)
abbrev RT.a8:RT:=.val (.bool)
abbrev Sh.d8:Sh:=.ptr 0 4 [.a8]
abbrev Sh.a1:Sh:=.val (.int .i64)
abbrev PT.a1:PT:=.val (.int .i64)
abbrev RT.a1:RT:=.val (.int .i64)
abbrev Sh.d7:Sh:=.ptr 0 26 [.a1]
abbrev Sh.d6:Sh:=.val (.user 3)
abbrev PT.d6:PT:=.val (.user 3)
abbrev RT.d6:RT:=.val (.user 3)
abbrev Sh.b2:Sh:=.row 59 (.user 1)
abbrev PE.b2:PE:=.row 59 (.user 1)
abbrev Sh.a4:Sh:=.val (.list (.bool))
abbrev PT.a4:PT:=.val (.list (.bool))
abbrev RT.a4:RT:=.val (.list (.bool))
abbrev Sh.d5:Sh:=.agg [.a8,.b2,.a4,.a1]
abbrev PE.d4:PE:=.blk 35 [.a4]
abbrev Sh.d3:Sh:=.val (.user 1)
abbrev PT.d3:PT:=.val (.user 1)
abbrev RT.d3:RT:=.val (.user 1)
abbrev Sh.d2:Sh:=.ptr 0 35 [.a4]
abbrev Sh.b1:Sh:=.val (.list (.user 2))
abbrev PT.b1:PT:=.val (.list (.user 2))
abbrev RT.b1:RT:=.val (.list (.user 2))
abbrev PE.d1:PE:=.blk 62 [.b1,.own 2,.a1,.a8,.own 3,.a4,.a1]
abbrev Sh.c9:Sh:=.row 5 (.int .u8)
abbrev PE.c9:PE:=.row 5 (.int .u8)
abbrev Sh.c8:Sh:=.row 71 (.user 5)
abbrev PE.c8:PE:=.row 71 (.user 5)
abbrev Sh.c7:Sh:=.row 4 (.bool)
abbrev PE.c7:PE:=.row 4 (.bool)
abbrev Sh.a2:Sh:=.val (.int .u64)
abbrev PT.a2:PT:=.val (.int .u64)
abbrev RT.a2:RT:=.val (.int .u64)
abbrev PE.c6:PE:=.blk 57 [.a2,.a2]
abbrev Sh.c5:Sh:=.row 37 (.user 4)
abbrev PE.c5:PE:=.row 37 (.user 4)
abbrev Sh.c4:Sh:=.ptr 0 57 [.a2,.a2]
abbrev Sh.c3:Sh:=.val (.user 2)
abbrev PT.c3:PT:=.val (.user 2)
abbrev RT.c3:RT:=.val (.user 2)
abbrev PE.c2:PE:=.blk 49 [.a2]
abbrev Sh.c1:Sh:=.val (.user 6)
abbrev PT.c1:PT:=.val (.user 6)
abbrev RT.c1:RT:=.val (.user 6)
abbrev Sh.a6:Sh:=.val (.int .u32)
abbrev PT.a6:PT:=.val (.int .u32)
abbrev RT.a6:RT:=.val (.int .u32)
abbrev PE.b9:PE:=.blk 141 [.a6]
abbrev Sh.b8:Sh:=.ptr 0 49 [.a2]
abbrev Sh.b7:Sh:=.val (.int .u8)
abbrev PT.b7:PT:=.val (.int .u8)
abbrev RT.b7:RT:=.val (.int .u8)
abbrev Sh.b6:Sh:=.ptr 0 141 [.a6]
abbrev Sh.b5:Sh:=.dr 37 4 [0,59,0,0]
abbrev PE.b5:PE:=.dr 37 4 [0,59,0,0]
abbrev Ent.b4:Ent TT.U:=.blk 94 [.fn (.func 31) [] [.ptr 1 0],.fn (.func 34) [] [.ptr 1 0],.fn (.func 36) [] [.ptr 1 0],.fn (.func 37) [] [.ptr 1 0,.ptr 2 0]]
abbrev PE.b3:PE:=.blk 69 [.own 1,.own 2,.own 3,.val (.list (.int .u8))]
abbrev Sh.a9:Sh:=.val (.user 0)
abbrev PT.a9:PT:=.val (.user 0)
abbrev RT.a9:RT:=.val (.user 0)
abbrev Sh.a7:Sh:=.ptr 0 69 [.c8,.c9,.c7,.val (.list (.int .u8))]
abbrev PE.a5:PE:=.blk 62 [.b1,.own 1,.a1,.a8,.own 2,.a4,.a1]
abbrev Sh.a3:Sh:=.ptr 0 62 [.b1,.b5,.a1,.a8,.b2,.a4,.a1]
abbrev Ent.k1 (a:Int) (b:Bool) (c d:Int) (e:Bool) (f g h:Int):Ent TT.U:=.blk 42 [cu8 a,cb b,ci c,ci d,cb e,ci f,ci g,ci h]
abbrev Ent.k2 (a b c:Int):Ent TT.U:=.blk 59 [cu8 a,zd7 b,zd7 c]
abbrev Ent.k3 (a b:Int):Ent TT.U:=.blk 57 [zd7 a,zd7 b]
abbrev Ent.k4 (a b c d:Int) (e:Bool) (f g:Int):Ent TT.U:=.blk 166 [zd7 a,zd7 b,zd7 c,zd7 d,cb e,zd7 f,zd7 g]
abbrev Ent.k5 (a:List Int):Ent TT.U:=.blk 69 [.own 1,.own 2,.own 3,.cell ⟨.list (.int .u8),a⟩]
abbrev Ent.k6 (a:List Ins) (b:Int) (c:Bool) (d:List Bool) (e:Int):Ent TT.U:=.blk 62 [.cell ⟨.list (.user 2),a⟩,.own 1,ci b,cb c,.own 2,.cell ⟨.list (.bool),d⟩,ci e]
abbrev Ent.k7 (a b:Int):Ent TT.U:=.blk 71 [cu8 a,zd7 b]
abbrev Ent.k8 (a:List Bool):Ent TT.U:=.row 4 (.bool) a
abbrev Ent.k9 (a:List RVal):Ent TT.U:=.row 71 (.user 5) a
abbrev Ent.k10 (a:List Int):Ent TT.U:=.row 5 (.int .u8) a
abbrev Ent.k11 (a b:Bool):Ent TT.U:=.blk 131 [cb a,.fn (.func 74) [.ptr 0 0] [],cb b,.fn (.func 77) [.ptr 0 0] []]
abbrev Ent.k12 (a:Bool) (b:List Known) (c:List Bool) (d:Int):Ent TT.U:=.blk 37 [cb a,.cell ⟨.list (.user 1),b⟩,.cell ⟨.list (.bool),c⟩,ci d]
abbrev Ent.k13 (a:List Known):Ent TT.U:=.row 59 (.user 1) a
abbrev Ent.k14 (a:List Place):Ent TT.U:=.drow 37 4 [0,59,0,0] a none
abbrev Ent.k15 (a:List Bool):Ent TT.U:=.blk 35 [.cell ⟨.list (.bool),a⟩]
abbrev Ent.k16 (a:List Ins):Ent TT.U:=.blk 22 [.cell ⟨.list (.user 2),a⟩]
abbrev Ent.k17 (a b:Int):Ent TT.U:=.blk 28 [ci a,ci b]
abbrev Ent.k18 (a:List Bool):Ent TT.U:=.blk 157 [.arr (.bool) 512 a]
abbrev Ent.k19 (a:Bool) (b:List Bool) (c:Int):Ent TT.U:=.blk 37 [cb a,.own 9,.cell ⟨.list (.bool),b⟩,ci c]
end Go.X
