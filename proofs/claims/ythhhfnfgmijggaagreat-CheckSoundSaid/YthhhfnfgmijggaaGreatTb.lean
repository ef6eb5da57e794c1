import Derived.Test.YthhhfnfgmijggaaGreatXN
import Derived.Test.YthhhfnfgmijggaaGreatAC
import Derived.Test.YthhhfnfgmijggaaGreatAB
import Derived.Test.YthhhfnfgmijggaaGreatProg
set_option linter.defProp false
namespace Go.X
open Go.RowKit Go.V Go.Proofs
def w5 (f:Func):Code:=match f.body with|some c=>c|none=>.skip
structure Span where
 Lo:Int
 Hi:Int
def zaj5:Span:=⟨(0:Int),(0:Int)⟩
structure Known where
 Kind:Int
 In_Lo:Int
 In_Hi:Int
def j7:Known:=⟨(0:Int),(0:Int),(0:Int)⟩
structure Ins where
 Op:Int
 Narrow:Bool
 Dst:Int
 Src:Int
 UseImm:Bool
 Off:Int
 Imm:Int
 Size:Int
def v8:Ins:=⟨(0:Int),false,(0:Int),(0:Int),false,(0:Int),(0:Int),(0:Int)⟩
structure Fault where
 Err:Int
 At:Int
def ug8:Fault:=⟨(0:Int),(0:Int)⟩
structure Place where
 Live:Bool
 Regs:List Known
 Bytes:List Bool
 Least:Int
def j8:Place:=⟨false,([]:List Known),([]:List Bool),(0:Int)⟩
structure RVal where
 Kind:Int
 N:Int
def zaj4:RVal:=⟨(0:Int),(0:Int)⟩
structure Work where
 a_Lo:Int
 a_Hi:Int
 b_Lo:Int
 b_Hi:Int
 narrow:Bool
 most:Int
 size:Int
def zaj6:Work:=⟨(0:Int),(0:Int),(0:Int),(0:Int),false,(0:Int),(0:Int)⟩
structure Outcome where
 Err:Int
 At:Int
 Verdict:Int
 Steps:Int
def kv5:Outcome:=⟨(0:Int),(0:Int),(0:Int),(0:Int)⟩
structure Val where
 kind:Int
 n:Int
def zf1:Val:=⟨(0:Int),(0:Int)⟩
def UU:Nat->Type
 |0=>Span
 |1=>Known
 |2=>Ins
 |3=>Fault
 |4=>Place
 |5=>RVal
 |6=>Work
 |7=>Outcome
 |8=>Val
 |_=>Unit
def Span.cs (x:Span):List (Cell UU):= [⟨.int .u64,x.Lo⟩,⟨.int .u64,x.Hi⟩]
def Span.of:List (Cell UU)->Option Span
 | [c0,c1]=>match c0.as (.int .u64),c1.as (.int .u64) with
  |some a0,some a1=>some ⟨a0,a1⟩
  |_,_=>none
 |_=>none
def Span.of_cs (cs:List (Cell UU)) (x:Span) (h:Span.of cs=some x):x.cs=cs:=by
 unfold Span.of at h;split at h
 ·split at h
  ·rename_i h0 h1;simp only [X0] at h;subst h;rw [Span.cs,Cell.as_eq h0,Cell.as_eq h1]
  ·cases h
 ·cases h
def Known.cs (x:Known):List (Cell UU):= [⟨.int .u8,x.Kind⟩,⟨.int .u64,x.In_Lo⟩,⟨.int .u64,x.In_Hi⟩]
def Known.of:List (Cell UU)->Option Known
 | [c0,c1,c2]=>match c0.as (.int .u8),c1.as (.int .u64),c2.as (.int .u64) with
  |some a0,some a1,some a2=>some ⟨a0,a1,a2⟩
  |_,_,_=>none
 |_=>none
def Known.of_cs (cs:List (Cell UU)) (x:Known) (h:Known.of cs=some x):x.cs=cs:=by
 unfold Known.of at h;split at h
 ·split at h
  ·rename_i h0 h1 h2;simp only [X0] at h;subst h;rw [Known.cs,Cell.as_eq h0,Cell.as_eq h1,Cell.as_eq h2]
  ·cases h
 ·cases h
def Ins.cs (x:Ins):List (Cell UU):= [⟨.int .u8,x.Op⟩,⟨.bool,x.Narrow⟩,⟨.int .i64,x.Dst⟩,⟨.int .i64,x.Src⟩,⟨.bool,x.UseImm⟩,⟨.int .i64,x.Off⟩,⟨.int .i64,x.Imm⟩,⟨.int .i64,x.Size⟩]
def Ins.of:List (Cell UU)->Option Ins
 | [c0,c1,c2,c3,c4,c5,c6,c7]=>match c0.as (.int .u8),c1.as (.bool),c2.as (.int .i64),c3.as (.int .i64),c4.as (.bool),c5.as (.int .i64),c6.as (.int .i64),c7.as (.int .i64) with
  |some a0,some a1,some a2,some a3,some a4,some a5,some a6,some a7=>some ⟨a0,a1,a2,a3,a4,a5,a6,a7⟩
  |_,_,_,_,_,_,_,_=>none
 |_=>none
def Ins.of_cs (cs:List (Cell UU)) (x:Ins) (h:Ins.of cs=some x):x.cs=cs:=by
 unfold Ins.of at h;split at h
 ·split at h
  ·rename_i h0 h1 h2 h3 h4 h5 h6 h7;simp only [X0] at h;subst h;rw [Ins.cs,Cell.as_eq h0,Cell.as_eq h1,Cell.as_eq h2,Cell.as_eq h3,Cell.as_eq h4,Cell.as_eq h5,Cell.as_eq h6,Cell.as_eq h7]
  ·cases h
 ·cases h
def Fault.cs (x:Fault):List (Cell UU):= [⟨.int .i64,x.Err⟩,⟨.int .i64,x.At⟩]
def Fault.of:List (Cell UU)->Option Fault
 | [c0,c1]=>match c0.as (.int .i64),c1.as (.int .i64) with
  |some a0,some a1=>some ⟨a0,a1⟩
  |_,_=>none
 |_=>none
def Fault.of_cs (cs:List (Cell UU)) (x:Fault) (h:Fault.of cs=some x):x.cs=cs:=by
 unfold Fault.of at h;split at h
 ·split at h
  ·rename_i h0 h1;simp only [X0] at h;subst h;rw [Fault.cs,Cell.as_eq h0,Cell.as_eq h1]
  ·cases h
 ·cases h
def Place.cs (x:Place):List (Cell UU):= [⟨.bool,x.Live⟩,⟨.list (.user 1),x.Regs⟩,⟨.list (.bool),x.Bytes⟩,⟨.int .i64,x.Least⟩]
def Place.of:List (Cell UU)->Option Place
 | [c0,c1,c2,c3]=>match c0.as (.bool),c1.as (.list (.user 1)),c2.as (.list (.bool)),c3.as (.int .i64) with
  |some a0,some a1,some a2,some a3=>some ⟨a0,a1,a2,a3⟩
  |_,_,_,_=>none
 |_=>none
def Place.of_cs (cs:List (Cell UU)) (x:Place) (h:Place.of cs=some x):x.cs=cs:=by
 unfold Place.of at h;split at h
 ·split at h
  ·rename_i h0 h1 h2 h3;simp only [X0] at h;subst h;rw [Place.cs,Cell.as_eq h0,Cell.as_eq h1,Cell.as_eq h2,Cell.as_eq h3]
  ·cases h
 ·cases h
def RVal.cs (x:RVal):List (Cell UU):= [⟨.int .u8,x.Kind⟩,⟨.int .u64,x.N⟩]
def RVal.of:List (Cell UU)->Option RVal
 | [c0,c1]=>match c0.as (.int .u8),c1.as (.int .u64) with
  |some a0,some a1=>some ⟨a0,a1⟩
  |_,_=>none
 |_=>none
def RVal.of_cs (cs:List (Cell UU)) (x:RVal) (h:RVal.of cs=some x):x.cs=cs:=by
 unfold RVal.of at h;split at h
 ·split at h
  ·rename_i h0 h1;simp only [X0] at h;subst h;rw [RVal.cs,Cell.as_eq h0,Cell.as_eq h1]
  ·cases h
 ·cases h
def Work.cs (x:Work):List (Cell UU):= [⟨.int .u64,x.a_Lo⟩,⟨.int .u64,x.a_Hi⟩,⟨.int .u64,x.b_Lo⟩,⟨.int .u64,x.b_Hi⟩,⟨.bool,x.narrow⟩,⟨.int .u64,x.most⟩,⟨.int .u64,x.size⟩]
def Work.of:List (Cell UU)->Option Work
 | [c0,c1,c2,c3,c4,c5,c6]=>match c0.as (.int .u64),c1.as (.int .u64),c2.as (.int .u64),c3.as (.int .u64),c4.as (.bool),c5.as (.int .u64),c6.as (.int .u64) with
  |some a0,some a1,some a2,some a3,some a4,some a5,some a6=>some ⟨a0,a1,a2,a3,a4,a5,a6⟩
  |_,_,_,_,_,_,_=>none
 |_=>none
def Work.of_cs (cs:List (Cell UU)) (x:Work) (h:Work.of cs=some x):x.cs=cs:=by
 unfold Work.of at h;split at h
 ·split at h
  ·rename_i h0 h1 h2 h3 h4 h5 h6;simp only [X0] at h;subst h;rw [Work.cs,Cell.as_eq h0,Cell.as_eq h1,Cell.as_eq h2,Cell.as_eq h3,Cell.as_eq h4,Cell.as_eq h5,Cell.as_eq h6]
  ·cases h
 ·cases h
def Outcome.cs (x:Outcome):List (Cell UU):= [⟨.int .i64,x.Err⟩,⟨.int .i64,x.At⟩,⟨.int .u64,x.Verdict⟩,⟨.int .i64,x.Steps⟩]
def Outcome.of:List (Cell UU)->Option Outcome
 | [c0,c1,c2,c3]=>match c0.as (.int .i64),c1.as (.int .i64),c2.as (.int .u64),c3.as (.int .i64) with
  |some a0,some a1,some a2,some a3=>some ⟨a0,a1,a2,a3⟩
  |_,_,_,_=>none
 |_=>none
def Outcome.of_cs (cs:List (Cell UU)) (x:Outcome) (h:Outcome.of cs=some x):x.cs=cs:=by
 unfold Outcome.of at h;split at h
 ·split at h
  ·rename_i h0 h1 h2 h3;simp only [X0] at h;subst h;rw [Outcome.cs,Cell.as_eq h0,Cell.as_eq h1,Cell.as_eq h2,Cell.as_eq h3]
  ·cases h
 ·cases h
def Val.cs (x:Val):List (Cell UU):= [⟨.int .u8,x.kind⟩,⟨.int .u64,x.n⟩]
def Val.of:List (Cell UU)->Option Val
 | [c0,c1]=>match c0.as (.int .u8),c1.as (.int .u64) with
  |some a0,some a1=>some ⟨a0,a1⟩
  |_,_=>none
 |_=>none
def Val.of_cs (cs:List (Cell UU)) (x:Val) (h:Val.of cs=some x):x.cs=cs:=by
 unfold Val.of at h;split at h
 ·split at h
  ·rename_i h0 h1;simp only [X0] at h;subst h;rw [Val.cs,Cell.as_eq h0,Cell.as_eq h1]
  ·cases h
 ·cases h
def TT:Tab where
 U:=UU
 d:=fun i=>match i with
  |0=>zaj5
  |1=>j7
  |2=>v8
  |3=>ug8
  |4=>j8
  |5=>zaj4
  |6=>zaj6
  |7=>kv5
  |8=>zf1
  |_+9=>()
 size:=fun i=>match i with
  |0=>2
  |1=>3
  |2=>8
  |3=>2
  |4=>4
  |5=>2
  |6=>7
  |7=>4
  |8=>2
  |_+9=>0
 cells:=fun i=>match i with
  |0=>Span.cs
  |1=>Known.cs
  |2=>Ins.cs
  |3=>Fault.cs
  |4=>Place.cs
  |5=>RVal.cs
  |6=>Work.cs
  |7=>Outcome.cs
  |8=>Val.cs
  |_+9=>fun _=> []
 len:=fun i=>match i with
  |0=>fun _=>rfl
  |1=>fun _=>rfl
  |2=>fun _=>rfl
  |3=>fun _=>rfl
  |4=>fun _=>rfl
  |5=>fun _=>rfl
  |6=>fun _=>rfl
  |7=>fun _=>rfl
  |8=>fun _=>rfl
  |_+9=>fun _=>rfl
 pack:=fun i=>match i with
  |0=>Span.of
  |1=>Known.of
  |2=>Ins.of
  |3=>Fault.of
  |4=>Place.of
  |5=>RVal.of
  |6=>Work.of
  |7=>Outcome.of
  |8=>Val.of
  |_+9=>fun cl=>match cl with| []=>some ()|_::_=>none
 packed:=fun i=>match i with
  |0=>Span.of_cs
  |1=>Known.of_cs
  |2=>Ins.of_cs
  |3=>Fault.of_cs
  |4=>Place.of_cs
  |5=>RVal.of_cs
  |6=>Work.of_cs
  |7=>Outcome.of_cs
  |8=>Val.of_cs
  |_+9=>fun cl x h=>by cases cl with|nil=>rfl|cons a r=>cases h
 scal:=fun i=>match i with
  |0=>true
  |1=>true
  |2=>true
  |3=>true
  |4=>false
  |5=>true
  |6=>true
  |7=>true
  |8=>true
  |_+9=>true
 scals:=fun i=>match i with
  |0=>fun x _ c hc=>by simp only [Span.cs,Z0,J1,or_false] at hc;rcases hc with rfl|rfl<;>rfl
  |1=>fun x _ c hc=>by simp only [Known.cs,Z0,J1,or_false] at hc;rcases hc with rfl|rfl|rfl<;>rfl
  |2=>fun x _ c hc=>by simp only [Ins.cs,Z0,J1,or_false] at hc;rcases hc with rfl|rfl|rfl|rfl|rfl|rfl|rfl|rfl<;>rfl
  |3=>fun x _ c hc=>by simp only [Fault.cs,Z0,J1,or_false] at hc;rcases hc with rfl|rfl<;>rfl
  |4=>fun _ h=>by cases h
  |5=>fun x _ c hc=>by simp only [RVal.cs,Z0,J1,or_false] at hc;rcases hc with rfl|rfl<;>rfl
  |6=>fun x _ c hc=>by simp only [Work.cs,Z0,J1,or_false] at hc;rcases hc with rfl|rfl|rfl|rfl|rfl|rfl|rfl<;>rfl
  |7=>fun x _ c hc=>by simp only [Outcome.cs,Z0,J1,or_false] at hc;rcases hc with rfl|rfl|rfl|rfl<;>rfl
  |8=>fun x _ c hc=>by simp only [Val.cs,Z0,J1,or_false] at hc;rcases hc with rfl|rfl<;>rfl
  |_+9=>fun _ _ c hc=>by cases hc
def wr3:List (Nat×Ty)->Nat->Option Ty
 | [],_=>none
 |(j,t)::r,i=>match Nat.beq j i with|true=>some t|false=>wr3 r i
def yk9 (t:TypeId):Option Ty:=wr3 [(22,.user 2),(23,.int .u8),(25,.user 4),(34,.user 1),(35,.bool),(67,.user 5),(95,.int .i64)] t
def gj5:List (Nat×Lay)->Nat->Option Lay
 | [],_=>none
 |(j,l)::r,i=>match Nat.beq j i with|true=>some l|false=>gj5 r i
def zo5 (t:TypeId):Option Lay:=gj5 [(83,[some (.user 8,11)]),(84,[some (.int .u8,512)]),(85,[some (.bool,512)]),(87,[some (.user 8,11),some (.int .u8,512),some (.bool,512),none,none,none]),(88,[some (.user 8,11),some (.int .u8,512),some (.bool,512),none,none,none]),(157,[some (.bool,512)]),(204,[some (.int .u8,28)]),(213,[some (.bool,9)])] t
def gj4:List (Nat×(Nat×List TypeId))->Nat->Option (Nat×List TypeId)
 | [],_=>none
 |(j,l)::r,i=>match Nat.beq j i with|true=>some l|false=>gj4 r i
def yk6 (t:TypeId):Option (Nat×List TypeId):=gj4 [(25,(4,[0,59,0,0]))] t
abbrev v3:Nat:=1000000000
def pfM:Tryz.prog.follows .mixedOrders=true:=by kernel_rfl
abbrev EE:= {E:List (FuncId×CallSpec TT) // zb4 TT Tryz.prog E}
def eN:EE:=⟨[],zh9⟩
noncomputable def cE {f:FuncId} {cs:CallSpec TT} (h:u0 TT Tryz.prog f cs/\zi6 TT Tryz.prog f cs/\yb4 cs) (r:EE):EE:=⟨(f,cs)::r.1,zn0 h r.2⟩
noncomputable def cF {f:FuncId} {s:FnSpec TT} (h:kr8 TT Tryz.prog f s) (r:EE):EE:=cE (zd2 h) r
noncomputable def cG {f:FuncId} {s:GSpec TT} (h:GOk TT Tryz.prog f s) (r:EE):EE:=cE (v9 h (q7 f)) r
noncomputable def cP {f:FuncId} {s:PSpec TT} (h:POk TT Tryz.prog f s) (r:EE):EE:=cE (za9 h (q7 f)) r
noncomputable def mC (e:EE) (p:Nat) (m:List (Nat×Nat)):Ctx TT:=⟨yk9,e.1,p,m,zo5,yk6⟩
abbrev n0:Nl:=⟨[],[],[],[],[]⟩
abbrev z0:Zw:=⟨[],[]⟩
structure KF where
 e:EE
 p:Nat
 m:List (Nat×Nat)
 c:List (Pos×Cut)
 f:Func
 z:Zw
 ps:List PT
 rs:List RT
structure KG where
 e:EE
 p:Nat
 m:List (Nat×Nat)
 c:List (Pos×Cut)
 f:Func
 nl:Nl
 ps:List Sh
 post:List PE
 rs:List Sh
structure KP extends KG where
 pv:Sh
noncomputable def tF (k:KF):Nat->yi5 TT k.ps->Option (zz4 TT (zb7 k.ps) (zz5 TT k.rs)):=topF TT Tryz.prog (mC k.e k.p k.m) k.c k.f (w5 k.f) k.z k.ps k.rs
noncomputable def tG (k:KG):Nat->zd9 TT k.ps->Option (zq1 TT k.post×zd9 TT k.rs):=topG TT Tryz.prog (mC k.e k.p k.m) k.c k.f (w5 k.f) k.nl k.ps k.post k.rs
noncomputable def tP (k:KP):Nat->zd9 TT k.ps->Option (zq1 TT k.post×(zd9 TT k.rs⊕zd9 TT [k.pv])):=topP TT Tryz.prog (mC k.e k.p k.m) k.c k.f (w5 k.f) k.nl k.ps k.post k.rs k.pv
noncomputable def uF (k:KF):Nat->Pos->St TT->Option (zz4 TT (zb7 k.ps) (zz5 TT k.rs)):=cutF TT Tryz.prog (mC k.e k.p k.m) k.c k.f (w5 k.f) k.z k.ps k.rs
noncomputable def uG (k:KG):Nat->Pos->St TT->Option (zq1 TT k.post×zd9 TT k.rs):=cutG TT Tryz.prog (mC k.e k.p k.m) k.c k.f (w5 k.f) k.nl k.post k.rs
noncomputable def uP (k:KP):Nat->Pos->St TT->Option (zq1 TT k.post×(zd9 TT k.rs⊕zd9 TT [k.pv])):=cutP TT Tryz.prog (mC k.e k.p k.m) k.c k.f (w5 k.f) k.nl k.post k.rs k.pv
noncomputable abbrev sF (k:KF):FnSpec TT:=⟨k.ps,k.rs,tF k v3⟩
noncomputable abbrev sG (k:KG):GSpec TT:=⟨k.ps,k.post,k.rs,tG k v3⟩
noncomputable abbrev sP (k:KP):PSpec TT:=⟨k.ps,k.post,k.rs,k.pv,tP k v3⟩
def okF (k:KF) {f:FuncId} (hf:Tryz.prog.funcs[f]?=some k.f) (hb:k.f.body=some (w5 k.f):=by rfl) (hs:Nat.ble k.ps.length k.f.ntmps=true:=by rfl) (hp:Nat.ble (zb7 k.ps).length k.p=true:=by rfl):kr8 TT Tryz.prog f (sF k):=wg6 (C:=mC k.e k.p k.m) pfM k.e.2 hf hb hs hp fun x y h=>⟨v3,h⟩
def okG (k:KG) {f:FuncId} (hf:Tryz.prog.funcs[f]?=some k.f) (hb:k.f.body=some (w5 k.f):=by rfl) (hs:Nat.ble k.ps.length k.f.ntmps=true:=by rfl) (hp:Nat.ble (za2 k.ps) k.p=true:=by rfl) (ho:Nat.beq k.post.length (za2 k.ps)=true:=by rfl):GOk TT Tryz.prog f (sG k):=uh5 (C:=mC k.e k.p k.m) pfM k.e.2 hf hb hs hp ho fun x y h=>⟨v3,h⟩
def okP (k:KP) {f:FuncId} (hf:Tryz.prog.funcs[f]?=some k.f) (hb:k.f.body=some (w5 k.f):=by rfl) (hs:Nat.ble k.ps.length k.f.ntmps=true:=by rfl) (hp:Nat.ble (za2 k.ps) k.p=true:=by rfl) (ho:Nat.beq k.post.length (za2 k.ps)=true:=by rfl):POk TT Tryz.prog f (sP k):=uj3 (C:=mC k.e k.p k.m) pfM k.e.2 hf hb hs hp ho fun x y h=>⟨v3,h⟩
abbrev I:=true
abbrev O:=false
abbrev qt (l:List Nat):Cut:=⟨l,[],false,[],0,false⟩
abbrev u1:=Int×Unit
abbrev u21:=((List Ins×Unit)×Unit)×u1
abbrev u20:=u1×Unit
abbrev u19:=(Nat×Nat)×Unit
abbrev u18:=Unit⊕u1
abbrev u17:=Known×Int
abbrev u16:=Int×Int×Unit
abbrev u15:=(u1×u1×u1×Unit)×u1
abbrev u5:=List Ins×Unit×Int×Bool×Unit×List Bool×Int×Unit
abbrev u14:=(u5×List Place×List Known×List Known×Unit)×Unit
abbrev u2:=List Val×List Int×List Bool×List Int×Int×Unit×Unit
abbrev u13:=(u2×Unit)×u1
abbrev u4:=Unit×Unit
abbrev u12:=Unit×((Span×Span×Unit)⊕u4)
abbrev u11:=Unit×((Span×Unit)⊕u4)
abbrev u10:=Unit×(List Place×Fault×Unit)
abbrev u9:=List Int×Unit
abbrev u8:=List Bool×Unit
abbrev u7:=Unit×(u4×Unit)
abbrev u6:=(u1×u1×Unit)×u1
abbrev u3:=u5×List Place×List Known×Unit
abbrev ci (x:Int):AV TT.U:=.cell ⟨.int .i64,x⟩
abbrev cb (x:Bool):AV TT.U:=.cell ⟨.bool,x⟩
abbrev cu8 (x:Int):AV TT.U:=.cell ⟨.int .u8,x⟩
abbrev cu32 (x:Int):AV TT.U:=.cell ⟨.int .u32,x⟩
abbrev yk4 (x:Int):AV TT.U:=.cell ⟨.int .u64,x⟩
abbrev Sh.a9:Sh:=.val (.bool)
abbrev PT.a9:PT:=.val (.bool)
abbrev RT.a9:RT:=.val (.bool)
abbrev Sh.e7:Sh:=.ptr 0 4 [.a9]
abbrev Sh.e6:Sh:=.arr (.int .u8) 512
abbrev PE.e5:PE:=.blk 23 [.asp 1 22 1 512]
abbrev Sh.e4:Sh:=.val (.user 3)
abbrev PT.e4:PT:=.val (.user 3)
abbrev RT.e4:RT:=.val (.user 3)
abbrev Sh.e3:Sh:=.arr (.bool) 512
abbrev Sh.b4:Sh:=.row 59 (.user 1)
abbrev PE.b4:PE:=.row 59 (.user 1)
abbrev Sh.a6:Sh:=.val (.list (.bool))
abbrev PT.a6:PT:=.val (.list (.bool))
abbrev RT.a6:RT:=.val (.list (.bool))
abbrev Sh.a1:Sh:=.val (.int .i64)
abbrev PT.a1:PT:=.val (.int .i64)
abbrev RT.a1:RT:=.val (.int .i64)
abbrev Sh.e2:Sh:=.agg [.a9,.b4,.a6,.a1]
abbrev Sh.e1:Sh:=.val (.user 1)
abbrev PT.e1:PT:=.val (.user 1)
abbrev RT.e1:RT:=.val (.user 1)
abbrev PE.d9:PE:=.blk 26 [.a1]
abbrev PE.d8:PE:=.blk 35 [.a6]
abbrev Sh.d7:Sh:=.ptr 0 26 [.a1]
abbrev Sh.d6:Sh:=.ptr 0 35 [.a6]
abbrev PE.d5:PE:=.blk 3 [.a1]
abbrev PE.d4:PE:=.blk 2 [.a1]
abbrev Sh.b2:Sh:=.val (.list (.user 2))
abbrev PT.b2:PT:=.val (.list (.user 2))
abbrev RT.b2:RT:=.val (.list (.user 2))
abbrev PE.d3:PE:=.blk 62 [.b2,.own 2,.a1,.a9,.own 3,.a6,.a1]
abbrev Sh.d2:Sh:=.row 3 (.int .i64)
abbrev PE.d2:PE:=.row 3 (.int .i64)
abbrev Sh.d1:Sh:=.ptr 0 3 [.a1]
abbrev Sh.c9:Sh:=.ptr 0 2 [.a1]
abbrev Sh.a2:Sh:=.val (.int .u64)
abbrev PT.a2:PT:=.val (.int .u64)
abbrev RT.a2:RT:=.val (.int .u64)
abbrev PE.c8:PE:=.blk 57 [.a2,.a2]
abbrev Sh.c7:Sh:=.row 37 (.user 4)
abbrev PE.c7:PE:=.row 37 (.user 4)
abbrev Sh.c6:Sh:=.ptr 0 57 [.a2,.a2]
abbrev Sh.c5:Sh:=.val (.user 2)
abbrev PT.c5:PT:=.val (.user 2)
abbrev RT.c5:RT:=.val (.user 2)
abbrev Sh.c4:Sh:=.val (.user 6)
abbrev PT.c4:PT:=.val (.user 6)
abbrev RT.c4:RT:=.val (.user 6)
abbrev Sh.a8:Sh:=.val (.int .u32)
abbrev PT.a8:PT:=.val (.int .u32)
abbrev RT.a8:RT:=.val (.int .u32)
abbrev PE.c3:PE:=.blk 141 [.a8]
abbrev Sh.c2:Sh:=.ptr 0 141 [.a8]
abbrev Sh.c1:Sh:=.val (.list (.int .u8))
abbrev PT.c1:PT:=.val (.list (.int .u8))
abbrev RT.c1:RT:=.val (.list (.int .u8))
abbrev PE.b9:PE:=.blk 49 [.a2]
abbrev Sh.b8:Sh:=.dr 37 4 [0,59,0,0]
abbrev PE.b8:PE:=.dr 37 4 [0,59,0,0]
abbrev Ent.b7:Ent TT.U:=.blk 94 [.fn (.func 31) [] [.ptr 1 0],.fn (.func 34) [] [.ptr 1 0],.fn (.func 36) [] [.ptr 1 0],.fn (.func 37) [] [.ptr 1 0,.ptr 2 0]]
abbrev Sh.b6:Sh:=.ptr 0 49 [.a2]
abbrev Sh.b5:Sh:=.val (.int .u8)
abbrev PT.b5:PT:=.val (.int .u8)
abbrev RT.b5:RT:=.val (.int .u8)
abbrev Sh.b3:Sh:=.asn 88 [.arr (.user 8) 11,.e6,.e3,.c1,.a1,.nilp] 22 1 512
abbrev Sh.b1:Sh:=.val (.user 0)
abbrev PT.b1:PT:=.val (.user 0)
abbrev RT.b1:RT:=.val (.user 0)
abbrev PE.a7:PE:=.blk 62 [.b2,.own 1,.a1,.a9,.own 2,.a6,.a1]
abbrev Sh.a5:Sh:=.ptr 0 88 [.arr (.user 8) 11,.e6,.e3,.c1,.a1,.nilp]
abbrev PE.a4:PE:=.blk 88 [.arr (.user 8) 11,.e6,.e3,.c1,.a1,.nilp]
abbrev Sh.a3:Sh:=.ptr 0 62 [.b2,.b8,.a1,.a9,.b4,.a6,.a1]
abbrev Ent.k1 (a:Int) (b:Bool) (c d:Int) (e:Bool) (f g h:Int):Ent TT.U:=.blk 42 [cu8 a,cb b,ci c,ci d,cb e,ci f,ci g,ci h]
abbrev Ent.k2 (a b c:Int):Ent TT.U:=.blk 59 [cu8 a,yk4 b,yk4 c]
abbrev Ent.k3 (a b:Int):Ent TT.U:=.blk 57 [yk4 a,yk4 b]
abbrev Ent.k4 (a:List Val) (b:List Int) (c:List Bool) (d:List Int) (e:Int):Ent TT.U:=.blk 88 [.arr (.user 8) 11 a,.arr (.int .u8) 512 b,.arr (.bool) 512 c,.cell ⟨.list (.int .u8),d⟩,ci e,.raw (.pointer none)]
abbrev Ent.k5 (a b c d:Int) (e:Bool) (f g:Int):Ent TT.U:=.blk 166 [yk4 a,yk4 b,yk4 c,yk4 d,cb e,yk4 f,yk4 g]
abbrev Ent.k6 (a:List Ins) (b:Int) (c:Bool) (d:List Bool) (e:Int):Ent TT.U:=.blk 62 [.cell ⟨.list (.user 2),a⟩,.own 1,ci b,cb c,.own 2,.cell ⟨.list (.bool),d⟩,ci e]
abbrev Ent.k7 (a b:Int):Ent TT.U:=.blk 82 [cu8 a,yk4 b]
abbrev Ent.k8 (a b:Bool):Ent TT.U:=.blk 131 [cb a,.fn (.func 74) [.ptr 0 0] [],cb b,.fn (.func 77) [.ptr 0 0] []]
abbrev Ent.k9 (a:List Known):Ent TT.U:=.row 59 (.user 1) a
abbrev Ent.k10 (a:List Place):Ent TT.U:=.drow 37 4 [0,59,0,0] a none
abbrev Ent.k11 (a:List Bool):Ent TT.U:=.blk 35 [.cell ⟨.list (.bool),a⟩]
abbrev Ent.k12 (a:List Ins):Ent TT.U:=.blk 22 [.cell ⟨.list (.user 2),a⟩]
abbrev Ent.k13 (a b:Int):Ent TT.U:=.blk 28 [ci a,ci b]
abbrev Ent.k14 (a:List Bool):Ent TT.U:=.blk 157 [.arr (.bool) 512 a]
abbrev Ent.k15 (a b c d:Int):Ent TT.U:=.blk 51 [ci a,ci b,yk4 c,ci d]
abbrev Ent.k16 (a:Bool) (b:List Bool) (c:Int):Ent TT.U:=.blk 37 [cb a,.own 9,.cell ⟨.list (.bool),b⟩,ci c]
end Go.X
