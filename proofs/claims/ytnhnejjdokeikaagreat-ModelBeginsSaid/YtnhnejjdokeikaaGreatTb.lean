import Derived.Test.YtnhnejjdokeikaaGreatAB
import Derived.Test.YtnhnejjdokeikaaGreatXT
import Derived.Test.YtnhnejjdokeikaaGreatAC
import Derived.Test.YtnhnejjdokeikaaGreatProg
set_option linter.defProp false
namespace Go.X
open Go.RowKit Go.V Go.Proofs
def zb1 (f:Func):Code:=match f.body with|some c=>c|none=>.skip
structure Entry where
 Term:Int
 Kind:Int
 Version:Int
 Server:Int
 Good:Bool
 Data:List Int
def ye4:Entry:=⟨(0:Int),(0:Int),(0:Int),(0:Int),false,([]:List Int)⟩
structure Held where
 Version:Int
 Data:List Int
def uf6:Held:=⟨(0:Int),([]:List Int)⟩
structure Registry where
 Held:List Held
 Active:Int
 Before:Int
 Rollout:Int
 Yes:List Int
 No:Bool
def vl7:Registry:=⟨([]:List Held),(0:Int),(0:Int),(0:Int),([]:List Int),false⟩
structure Bundle where
 Version:Int
 Code:List Int
 Digest:List Int
 Tag:List Int
def gb0:Bundle:=⟨(0:Int),([]:List Int),([]:List Int),([]:List Int)⟩
structure Tale where
 Kind:Int
 Server:Int
 Index:Int
 Version:Int
 Entry_Term:Int
 Entry_Kind:Int
 Entry_Version:Int
 Entry_Server:Int
 Entry_Good:Bool
 Entry_Data:List Int
 Err:Int
 Verdict:Int
 Bytes:List Int
def v6:Tale:=⟨(0:Int),(0:Int),(0:Int),(0:Int),(0:Int),(0:Int),(0:Int),(0:Int),false,([]:List Int),(0:Int),(0:Int),([]:List Int)⟩
structure Ins where
 Op:Int
 Narrow:Bool
 Dst:Int
 Src:Int
 UseImm:Bool
 Off:Int
 Imm:Int
 Size:Int
def zb2:Ins:=⟨(0:Int),false,(0:Int),(0:Int),false,(0:Int),(0:Int),(0:Int)⟩
structure Fault where
 Err:Int
 At:Int
def wa8:Fault:=⟨(0:Int),(0:Int)⟩
structure Outcome where
 Err:Int
 At:Int
 Verdict:Int
 Steps:Int
def ka6:Outcome:=⟨(0:Int),(0:Int),(0:Int),(0:Int)⟩
structure Val where
 kind:Int
 n:Int
def zl6:Val:=⟨(0:Int),(0:Int)⟩
def UU:Nat->Type
 |0=>Entry
 |1=>Held
 |2=>Registry
 |3=>Bundle
 |4=>Tale
 |5=>Ins
 |6=>Fault
 |7=>Outcome
 |8=>Val
 |_=>Unit
def Entry.cs (x:Entry):List (Cell UU):= [⟨.int .i64,x.Term⟩,⟨.int .u8,x.Kind⟩,⟨.int .i64,x.Version⟩,⟨.int .i64,x.Server⟩,⟨.bool,x.Good⟩,⟨.list (.int .u8),x.Data⟩]
def Entry.of:List (Cell UU)->Option Entry
 | [c0,c1,c2,c3,c4,c5]=>match c0.aS (.int .i64),c1.aS (.int .u8),c2.aS (.int .i64),c3.aS (.int .i64),c4.aS (.bool),c5.aS (.list (.int .u8)) with
  |some a0,some a1,some a2,some a3,some a4,some a5=>some ⟨a0,a1,a2,a3,a4,a5⟩
  |_,_,_,_,_,_=>none
 |_=>none
def Entry.of_cs (cs:List (Cell UU)) (x:Entry) (h:Entry.of cs=some x):x.cs=cs:=by
 unfold Entry.of at h;split at h
 ·split at h
  ·rename_i h0 h1 h2 h3 h4 h5;simp only [X0] at h;subst h;rw [Entry.cs,Cell.as_eq h0,Cell.as_eq h1,Cell.as_eq h2,Cell.as_eq h3,Cell.as_eq h4,Cell.as_eq h5]
  ·cases h
 ·cases h
def Held.cs (x:Held):List (Cell UU):= [⟨.int .i64,x.Version⟩,⟨.list (.int .u8),x.Data⟩]
def Held.of:List (Cell UU)->Option Held
 | [c0,c1]=>match c0.aS (.int .i64),c1.aS (.list (.int .u8)) with
  |some a0,some a1=>some ⟨a0,a1⟩
  |_,_=>none
 |_=>none
def Held.of_cs (cs:List (Cell UU)) (x:Held) (h:Held.of cs=some x):x.cs=cs:=by
 unfold Held.of at h;split at h
 ·split at h
  ·rename_i h0 h1;simp only [X0] at h;subst h;rw [Held.cs,Cell.as_eq h0,Cell.as_eq h1]
  ·cases h
 ·cases h
def Registry.cs (x:Registry):List (Cell UU):= [⟨.list (.user 1),x.Held⟩,⟨.int .i64,x.Active⟩,⟨.int .i64,x.Before⟩,⟨.int .i64,x.Rollout⟩,⟨.list (.int .i64),x.Yes⟩,⟨.bool,x.No⟩]
def Registry.of:List (Cell UU)->Option Registry
 | [c0,c1,c2,c3,c4,c5]=>match c0.aS (.list (.user 1)),c1.aS (.int .i64),c2.aS (.int .i64),c3.aS (.int .i64),c4.aS (.list (.int .i64)),c5.aS (.bool) with
  |some a0,some a1,some a2,some a3,some a4,some a5=>some ⟨a0,a1,a2,a3,a4,a5⟩
  |_,_,_,_,_,_=>none
 |_=>none
def Registry.of_cs (cs:List (Cell UU)) (x:Registry) (h:Registry.of cs=some x):x.cs=cs:=by
 unfold Registry.of at h;split at h
 ·split at h
  ·rename_i h0 h1 h2 h3 h4 h5;simp only [X0] at h;subst h;rw [Registry.cs,Cell.as_eq h0,Cell.as_eq h1,Cell.as_eq h2,Cell.as_eq h3,Cell.as_eq h4,Cell.as_eq h5]
  ·cases h
 ·cases h
def Bundle.cs (x:Bundle):List (Cell UU):= [⟨.int .i64,x.Version⟩,⟨.list (.int .u8),x.Code⟩,⟨.list (.int .u8),x.Digest⟩,⟨.list (.int .u8),x.Tag⟩]
def Bundle.of:List (Cell UU)->Option Bundle
 | [c0,c1,c2,c3]=>match c0.aS (.int .i64),c1.aS (.list (.int .u8)),c2.aS (.list (.int .u8)),c3.aS (.list (.int .u8)) with
  |some a0,some a1,some a2,some a3=>some ⟨a0,a1,a2,a3⟩
  |_,_,_,_=>none
 |_=>none
def Bundle.of_cs (cs:List (Cell UU)) (x:Bundle) (h:Bundle.of cs=some x):x.cs=cs:=by
 unfold Bundle.of at h;split at h
 ·split at h
  ·rename_i h0 h1 h2 h3;simp only [X0] at h;subst h;rw [Bundle.cs,Cell.as_eq h0,Cell.as_eq h1,Cell.as_eq h2,Cell.as_eq h3]
  ·cases h
 ·cases h
def Tale.cs (x:Tale):List (Cell UU):= [⟨.int .u8,x.Kind⟩,⟨.int .i64,x.Server⟩,⟨.int .i64,x.Index⟩,⟨.int .i64,x.Version⟩,⟨.int .i64,x.Entry_Term⟩,⟨.int .u8,x.Entry_Kind⟩,⟨.int .i64,x.Entry_Version⟩,⟨.int .i64,x.Entry_Server⟩,⟨.bool,x.Entry_Good⟩,⟨.list (.int .u8),x.Entry_Data⟩,⟨.int .i64,x.Err⟩,⟨.int .u64,x.Verdict⟩,⟨.list (.int .u8),x.Bytes⟩]
def Tale.of:List (Cell UU)->Option Tale
 | [c0,c1,c2,c3,c4,c5,c6,c7,c8,c9,c10,c11,c12]=>match c0.aS (.int .u8),c1.aS (.int .i64),c2.aS (.int .i64),c3.aS (.int .i64),c4.aS (.int .i64),c5.aS (.int .u8),c6.aS (.int .i64),c7.aS (.int .i64),c8.aS (.bool),c9.aS (.list (.int .u8)),c10.aS (.int .i64),c11.aS (.int .u64),c12.aS (.list (.int .u8)) with
  |some a0,some a1,some a2,some a3,some a4,some a5,some a6,some a7,some a8,some a9,some a10,some a11,some a12=>some ⟨a0,a1,a2,a3,a4,a5,a6,a7,a8,a9,a10,a11,a12⟩
  |_,_,_,_,_,_,_,_,_,_,_,_,_=>none
 |_=>none
def Tale.of_cs (cs:List (Cell UU)) (x:Tale) (h:Tale.of cs=some x):x.cs=cs:=by
 unfold Tale.of at h;split at h
 ·split at h
  ·rename_i h0 h1 h2 h3 h4 h5 h6 h7 h8 h9 h10 h11 h12;simp only [X0] at h;subst h;rw [Tale.cs,Cell.as_eq h0,Cell.as_eq h1,Cell.as_eq h2,Cell.as_eq h3,Cell.as_eq h4,Cell.as_eq h5,Cell.as_eq h6,Cell.as_eq h7,Cell.as_eq h8,Cell.as_eq h9,Cell.as_eq h10,Cell.as_eq h11,Cell.as_eq h12]
  ·cases h
 ·cases h
def Ins.cs (x:Ins):List (Cell UU):= [⟨.int .u8,x.Op⟩,⟨.bool,x.Narrow⟩,⟨.int .i64,x.Dst⟩,⟨.int .i64,x.Src⟩,⟨.bool,x.UseImm⟩,⟨.int .i64,x.Off⟩,⟨.int .i64,x.Imm⟩,⟨.int .i64,x.Size⟩]
def Ins.of:List (Cell UU)->Option Ins
 | [c0,c1,c2,c3,c4,c5,c6,c7]=>match c0.aS (.int .u8),c1.aS (.bool),c2.aS (.int .i64),c3.aS (.int .i64),c4.aS (.bool),c5.aS (.int .i64),c6.aS (.int .i64),c7.aS (.int .i64) with
  |some a0,some a1,some a2,some a3,some a4,some a5,some a6,some a7=>some ⟨a0,a1,a2,a3,a4,a5,a6,a7⟩
  |_,_,_,_,_,_,_,_=>none
 |_=>none
def Ins.of_cs (cs:List (Cell UU)) (x:Ins) (h:Ins.of cs=some x):x.cs=cs:=by
 unfold Ins.of at h;split at h
 ·split at h
  ·rename_i h0 h1 h2 h3 h4 h5 h6 h7;simp only [X0] at h;subst h;rw [Ins.cs,Cell.as_eq h0,Cell.as_eq h1,Cell.as_eq h2,Cell.as_eq h3,Cell.as_eq h4,Cell.as_eq h5,Cell.as_eq h6,Cell.as_eq h7]
  ·cases h
 ·cases h
def Fault.cs (x:Fault):List (Cell UU):= [⟨.int .i64,x.Err⟩,⟨.int .i64,x.At⟩]
def Fault.of:List (Cell UU)->Option Fault
 | [c0,c1]=>match c0.aS (.int .i64),c1.aS (.int .i64) with
  |some a0,some a1=>some ⟨a0,a1⟩
  |_,_=>none
 |_=>none
def Fault.of_cs (cs:List (Cell UU)) (x:Fault) (h:Fault.of cs=some x):x.cs=cs:=by
 unfold Fault.of at h;split at h
 ·split at h
  ·rename_i h0 h1;simp only [X0] at h;subst h;rw [Fault.cs,Cell.as_eq h0,Cell.as_eq h1]
  ·cases h
 ·cases h
def Outcome.cs (x:Outcome):List (Cell UU):= [⟨.int .i64,x.Err⟩,⟨.int .i64,x.At⟩,⟨.int .u64,x.Verdict⟩,⟨.int .i64,x.Steps⟩]
def Outcome.of:List (Cell UU)->Option Outcome
 | [c0,c1,c2,c3]=>match c0.aS (.int .i64),c1.aS (.int .i64),c2.aS (.int .u64),c3.aS (.int .i64) with
  |some a0,some a1,some a2,some a3=>some ⟨a0,a1,a2,a3⟩
  |_,_,_,_=>none
 |_=>none
def Outcome.of_cs (cs:List (Cell UU)) (x:Outcome) (h:Outcome.of cs=some x):x.cs=cs:=by
 unfold Outcome.of at h;split at h
 ·split at h
  ·rename_i h0 h1 h2 h3;simp only [X0] at h;subst h;rw [Outcome.cs,Cell.as_eq h0,Cell.as_eq h1,Cell.as_eq h2,Cell.as_eq h3]
  ·cases h
 ·cases h
def Val.cs (x:Val):List (Cell UU):= [⟨.int .u8,x.kind⟩,⟨.int .u64,x.n⟩]
def Val.of:List (Cell UU)->Option Val
 | [c0,c1]=>match c0.aS (.int .u8),c1.aS (.int .u64) with
  |some a0,some a1=>some ⟨a0,a1⟩
  |_,_=>none
 |_=>none
def Val.of_cs (cs:List (Cell UU)) (x:Val) (h:Val.of cs=some x):x.cs=cs:=by
 unfold Val.of at h;split at h
 ·split at h
  ·rename_i h0 h1;simp only [X0] at h;subst h;rw [Val.cs,Cell.as_eq h0,Cell.as_eq h1]
  ·cases h
 ·cases h
def TT:Tab where
 U:=UU
 d:=fun i=>match i with
  |0=>ye4
  |1=>uf6
  |2=>vl7
  |3=>gb0
  |4=>v6
  |5=>zb2
  |6=>wa8
  |7=>ka6
  |8=>zl6
  |_+9=>()
 size:=fun i=>match i with
  |0=>6
  |1=>2
  |2=>6
  |3=>4
  |4=>13
  |5=>8
  |6=>2
  |7=>4
  |8=>2
  |_+9=>0
 cells:=fun i=>match i with
  |0=>Entry.cs
  |1=>Held.cs
  |2=>Registry.cs
  |3=>Bundle.cs
  |4=>Tale.cs
  |5=>Ins.cs
  |6=>Fault.cs
  |7=>Outcome.cs
  |8=>Val.cs
  |_+9=>fun _=> []
 len:=fun i=>match i with
  |0=>fun _=>rfl
  |1=>fun _=>rfl
  |2=>fun _=>rfl
  |3=>fun _=>rfl
  |4=>fun _=>rfl
  |5=>fun _=>rfl
  |6=>fun _=>rfl
  |7=>fun _=>rfl
  |8=>fun _=>rfl
  |_+9=>fun _=>rfl
 pack:=fun i=>match i with
  |0=>Entry.of
  |1=>Held.of
  |2=>Registry.of
  |3=>Bundle.of
  |4=>Tale.of
  |5=>Ins.of
  |6=>Fault.of
  |7=>Outcome.of
  |8=>Val.of
  |_+9=>fun cl=>match cl with| []=>some ()|_::_=>none
 packed:=fun i=>match i with
  |0=>Entry.of_cs
  |1=>Held.of_cs
  |2=>Registry.of_cs
  |3=>Bundle.of_cs
  |4=>Tale.of_cs
  |5=>Ins.of_cs
  |6=>Fault.of_cs
  |7=>Outcome.of_cs
  |8=>Val.of_cs
  |_+9=>fun cl x h=>by cases cl with|nil=>rfl|cons a r=>cases h
 scal:=fun i=>match i with
  |0=>false
  |1=>false
  |2=>false
  |3=>false
  |4=>false
  |5=>true
  |6=>true
  |7=>true
  |8=>true
  |_+9=>true
 scals:=fun i=>match i with
  |0=>fun _ h=>by cases h
  |1=>fun _ h=>by cases h
  |2=>fun _ h=>by cases h
  |3=>fun _ h=>by cases h
  |4=>fun _ h=>by cases h
  |5=>fun x _ c hc=>by simp only [Ins.cs,Z0,J4,or_false] at hc;rcases hc with rfl|rfl|rfl|rfl|rfl|rfl|rfl|rfl<;>rfl
  |6=>fun x _ c hc=>by simp only [Fault.cs,Z0,J4,or_false] at hc;rcases hc with rfl|rfl<;>rfl
  |7=>fun x _ c hc=>by simp only [Outcome.cs,Z0,J4,or_false] at hc;rcases hc with rfl|rfl|rfl|rfl<;>rfl
  |8=>fun x _ c hc=>by simp only [Val.cs,Z0,J4,or_false] at hc;rcases hc with rfl|rfl<;>rfl
  |_+9=>fun _ _ c hc=>by cases hc
def gk1:List (Nat×Ty)->Nat->Option Ty
 | [],_=>none
 |(j,t)::r,i=>match Nat.beq j i with|true=>some t|false=>gk1 r i
def yu0 (t:TypeId):Option Ty:=gk1 [(22,.user 4),(28,.user 0),(34,.int .u8),(44,.user 0),(56,.list (.int .u8)),(57,.bool),(68,.user 1),(69,.int .i64),(91,.user 5),(148,.bool)] t
def kj7:List (Nat×Lay)->Nat->Option Lay
 | [],_=>none
 |(j,l)::r,i=>match Nat.beq j i with|true=>some l|false=>kj7 r i
def zt9 (t:TypeId):Option Lay:=kj7 [(122,[some (.user 8,11)]),(123,[some (.int .u8,512)]),(124,[some (.bool,512)]),(126,[some (.user 8,11),some (.int .u8,512),some (.bool,512),none,none,none]),(127,[some (.user 8,11),some (.int .u8,512),some (.bool,512),none,none,none]),(211,[some (.bool,9)])] t
def kj6:List (Nat×(Nat×List TypeId))->Nat->Option (Nat×List TypeId)
 | [],_=>none
 |(j,l)::r,i=>match Nat.beq j i with|true=>some l|false=>kj6 r i
def yt1 (t:TypeId):Option (Nat×List TypeId):=kj6 [] t
def kj8:List (Nat×(TypeId×Nat))->Nat->Option (TypeId×Nat)
 | [],_=>none
 |(j,l)::r,i=>match Nat.beq j i with|true=>some l|false=>kj8 r i
def yt7 (t:TypeId):Option (TypeId×Nat):=kj8 [] t
abbrev v7:Nat:=1000000000
def pfM:Tryz.prog.follows .mixedOrders=true:=by kernel_rfl
abbrev EE:= {E:List (FuncId×CallSpec TT) // zc5 TT Tryz.prog E}
def eN:EE:=⟨[],zl7⟩
noncomputable def cE {f:FuncId} {cs:CallSpec TT} (h:w9 TT Tryz.prog f cs/\zh3 TT Tryz.prog f cs/\zp3 cs) (r:EE):EE:=⟨(f,cs)::r.1,jl6 h r.2⟩
noncomputable def cF {f:FuncId} {s:FnSpec TT} (h:vd1 TT Tryz.prog f s) (r:EE):EE:=cE (zo9 h) r
noncomputable def cG {f:FuncId} {s:GSpec TT} (h:GOk TT Tryz.prog f s) (r:EE):EE:=cE (q8 h (q9 f)) r
noncomputable def cP {f:FuncId} {s:PSpec TT} (h:POk TT Tryz.prog f s) (r:EE):EE:=cE (ze9 h (q9 f)) r
noncomputable def mC (e:EE) (p:Nat) (m:List (Nat×Nat)):Ctx TT:=⟨yu0,e.1,p,m,zt9,yt1,yt7⟩
abbrev n0:Nl:=⟨[],[],[],[],[]⟩
abbrev z0:Zw:=⟨[],[]⟩
structure KF where
 e:EE
 p:Nat
 m:List (Nat×Nat)
 c:List (Pos×Cut)
 f:Func
 z:Zw
 ps:List PT
 rs:List RT
structure KG where
 e:EE
 p:Nat
 m:List (Nat×Nat)
 c:List (Pos×Cut)
 f:Func
 nl:Nl
 ps:List Sh
 post:List PE
 rs:List Sh
structure KP extends KG where
 pv:Sh
noncomputable def tF (k:KF):Nat->zy7 TT k.ps->Option (zt5 TT (zb8 k.ps) (zt6 TT k.rs)):=un1 TT Tryz.prog (mC k.e k.p k.m) k.c k.f (zb1 k.f) k.z k.ps k.rs
noncomputable def tG (k:KG):Nat->ze2 TT k.ps->Option (zn7 TT k.post×ze2 TT k.rs):=un2 TT Tryz.prog (mC k.e k.p k.m) k.c k.f (zb1 k.f) k.nl k.ps k.post k.rs
noncomputable def tP (k:KP):Nat->ze2 TT k.ps->Option (zn7 TT k.post×(ze2 TT k.rs⊕ze2 TT [k.pv])):=un3 TT Tryz.prog (mC k.e k.p k.m) k.c k.f (zb1 k.f) k.nl k.ps k.post k.rs k.pv
noncomputable def uF (k:KF):Nat->Pos->St TT->Option (zt5 TT (zb8 k.ps) (zt6 TT k.rs)):=uo1 TT Tryz.prog (mC k.e k.p k.m) k.c k.f (zb1 k.f) k.z k.ps k.rs
noncomputable def uG (k:KG):Nat->Pos->St TT->Option (zn7 TT k.post×ze2 TT k.rs):=uo2 TT Tryz.prog (mC k.e k.p k.m) k.c k.f (zb1 k.f) k.nl k.post k.rs
noncomputable def uP (k:KP):Nat->Pos->St TT->Option (zn7 TT k.post×(ze2 TT k.rs⊕ze2 TT [k.pv])):=uo3 TT Tryz.prog (mC k.e k.p k.m) k.c k.f (zb1 k.f) k.nl k.post k.rs k.pv
noncomputable abbrev sF (k:KF):FnSpec TT:=⟨k.ps,k.rs,tF k v7⟩
noncomputable abbrev sG (k:KG):GSpec TT:=⟨k.ps,k.post,k.rs,tG k v7⟩
noncomputable abbrev sP (k:KP):PSpec TT:=⟨k.ps,k.post,k.rs,k.pv,tP k v7⟩
def okF (k:KF) {f:FuncId} (hf:Tryz.prog.funcs[f]?=some k.f) (hb:k.f.body=some (zb1 k.f):=by rfl) (hs:Nat.ble k.ps.length k.f.ntmps=true:=by rfl) (hp:Nat.ble (zb8 k.ps).length k.p=true:=by rfl):vd1 TT Tryz.prog f (sF k):=ve4 (C:=mC k.e k.p k.m) pfM k.e.2 hf hb hs hp fun x y h=>⟨v7,h⟩
def okN (k:KF) (N:zy7 TT k.ps->Nat) {f:FuncId} (hf:Tryz.prog.funcs[f]?=some k.f) (hb:k.f.body=some (zb1 k.f):=by rfl) (hs:Nat.ble k.ps.length k.f.ntmps=true:=by rfl) (hp:Nat.ble (zb8 k.ps).length k.p=true:=by rfl):vd1 TT Tryz.prog f ⟨k.ps,k.rs,fun x=>tF k (N x) x⟩:=ve4 (C:=mC k.e k.p k.m) pfM k.e.2 hf hb hs hp fun x y h=>⟨N x,h⟩
def okG (k:KG) {f:FuncId} (hf:Tryz.prog.funcs[f]?=some k.f) (hb:k.f.body=some (zb1 k.f):=by rfl) (hs:Nat.ble k.ps.length k.f.ntmps=true:=by rfl) (hp:Nat.ble (zb0 k.ps) k.p=true:=by rfl) (ho:Nat.beq k.post.length (zb0 k.ps)=true:=by rfl):GOk TT Tryz.prog f (sG k):=wc0 (C:=mC k.e k.p k.m) pfM k.e.2 hf hb hs hp ho fun x y h=>⟨v7,h⟩
def okP (k:KP) {f:FuncId} (hf:Tryz.prog.funcs[f]?=some k.f) (hb:k.f.body=some (zb1 k.f):=by rfl) (hs:Nat.ble k.ps.length k.f.ntmps=true:=by rfl) (hp:Nat.ble (zb0 k.ps) k.p=true:=by rfl) (ho:Nat.beq k.post.length (zb0 k.ps)=true:=by rfl):POk TT Tryz.prog f (sP k):=we2 (C:=mC k.e k.p k.m) pfM k.e.2 hf hb hs hp ho fun x y h=>⟨v7,h⟩
abbrev I:=true
abbrev O:=false
abbrev qt (l:List Nat):Cut:=⟨l,[],false,[],0,false⟩
abbrev u4:=Int×Unit
abbrev u19:=((List Ins×Unit)×Unit)×u4
abbrev u18:=(Nat×Nat)×Unit
abbrev u17:=(u4×u4×u4×Unit)×u4
abbrev u5:=List Val×List Int×List Bool×List Int×Int×Unit×Unit
abbrev u16:=(u5×Unit)×u4
abbrev u7:=(Nat×Nat)×Bool×Bool×Unit
abbrev u15:=u7×List Int×Unit
abbrev u8:=Unit×Unit
abbrev u14:=Unit×(u8×Unit)
abbrev u6:=Unit×Int×Int×Int×Unit
abbrev u3:=Int×Unit×Int×Int×Int×Unit×Bool×Unit
abbrev u1:=Int×List Int
abbrev u2:=Int×Bool
abbrev u13:=((Unit×Unit×Unit)×List Entry×Unit×u6×u3×(List u1)×(List u2)×Unit)×u4
abbrev u12:=List Entry×Unit×Unit
abbrev u11:=List Int×Unit
abbrev u10:=(u4×u4×Unit)×u4
abbrev u9:=u3×(List u1)×(List u2)×Unit
abbrev ci (x:Int):AV TT.U:=.cell ⟨.int .i64,x⟩
abbrev cb (x:Bool):AV TT.U:=.cell ⟨.bool,x⟩
abbrev cu8 (x:Int):AV TT.U:=.cell ⟨.int .u8,x⟩
abbrev ud9 (x:Int):AV TT.U:=.cell ⟨.int .u32,x⟩
abbrev qr9 (x:Int):AV TT.U:=.cell ⟨.int .u64,x⟩
abbrev PE.g1:PE:=.blk 101 [.at_ 2 0]
abbrev Sh.f4:Sh:=.arr (.int .u8) 512
abbrev Sh.a1:Sh:=.val (.int .i64)
abbrev PT.a1:PT:=.val (.int .i64)
abbrev RT.a1:RT:=.val (.int .i64)
abbrev PE.f2:PE:=.blk 2 [.a1]
abbrev Sh.f1:Sh:=.ptr 0 25 [.a1]
abbrev PE.e9:PE:=.blk 34 [.asp 1 22 1 512]
abbrev Sh.e8:Sh:=.ptr 0 2 [.a1]
abbrev Sh.b2:Sh:=.val (.int .u8)
abbrev PT.b2:PT:=.val (.int .u8)
abbrev RT.b2:RT:=.val (.int .u8)
abbrev PE.e7:PE:=.blk 51 [.at_ 16 0,.a1,.a1,.b2]
abbrev Sh.a4:Sh:=.val (.bool)
abbrev PT.a4:PT:=.val (.bool)
abbrev RT.a4:RT:=.val (.bool)
abbrev PE.e6:PE:=.blk 59 [.a1,.mpo 21,.a1,.a1,.a1,.mpo 22,.a4]
abbrev Sh.b3:Sh:=.ptr 0 138 [.slr 5 (.int .u8),.a4,.a4]
abbrev Sh.e5:Sh:=.ptr 0 101 [.b3]
abbrev Sh.b9:Sh:=.row 36 (.user 0)
abbrev PE.b9:PE:=.row 36 (.user 0)
abbrev PE.e4:PE:=.blk 46 [.b9,.mpo 2]
abbrev Sh.e3:Sh:=.val (.user 4)
abbrev PT.e3:PT:=.val (.user 4)
abbrev RT.e3:RT:=.val (.user 4)
abbrev PE.e2:PE:=.blk 3 [.a1]
abbrev Ent.e1:Ent TT.U:=.blk 46 [.own 1,.mp 2]
abbrev PE.d9:PE:=.blk 51 [.at_ 12 0,.a1,.a1,.b2]
abbrev Sh.d8:Sh:=.val (.user 0)
abbrev PT.d8:PT:=.val (.user 0)
abbrev RT.d8:RT:=.val (.user 0)
abbrev Sh.d7:Sh:=.ptr 0 3 [.a1]
abbrev PE.d6:PE:=.blk 138 [.part 3 1,.a4,.a4]
abbrev PE.d5:PE:=.blk 59 [.a1,.mpo 17,.a1,.a1,.a1,.mpo 18,.a4]
abbrev PE.d4:PE:=.blk 51 [.at_ 8 0,.a1,.a1,.b2]
abbrev Sh.d3:Sh:=.row 3 (.int .i64)
abbrev PE.d3:PE:=.row 3 (.int .i64)
abbrev Sh.a7:Sh:=.row 5 (.int .u8)
abbrev PE.a7:PE:=.row 5 (.int .u8)
abbrev Sh.d2:Sh:=.ptr 0 138 [.a7,.a4,.a4]
abbrev Sh.d1:Sh:=.val (.user 5)
abbrev PT.d1:PT:=.val (.user 5)
abbrev RT.d1:RT:=.val (.user 5)
abbrev Sh.c9:Sh:=.val (.list (.user 4))
abbrev PT.c9:PT:=.val (.list (.user 4))
abbrev RT.c9:RT:=.val (.list (.user 4))
abbrev PE.c8:PE:=.blk 59 [.a1,.mpo 13,.a1,.a1,.a1,.mpo 14,.a4]
abbrev Sh.c7:Sh:=.val (.list (.user 5))
abbrev PT.c7:PT:=.val (.list (.user 5))
abbrev RT.c7:RT:=.val (.list (.user 5))
abbrev PE.c6:PE:=.blk 59 [.a1,.mpo 9,.a1,.a1,.a1,.mpo 10,.a4]
abbrev Sh.a9:Sh:=.val (.int .u32)
abbrev PT.a9:PT:=.val (.int .u32)
abbrev RT.a9:RT:=.val (.int .u32)
abbrev PE.c5:PE:=.blk 147 [.a9]
abbrev PE.c4:PE:=.blk 51 [.at_ 4 0,.a1,.a1,.b2]
abbrev PE.c3:PE:=.blk 138 [.part 1 1,.a4,.a4]
abbrev Sh.c2:Sh:=.ptr 0 147 [.a9]
abbrev Sh.a6:Sh:=.val (.int .u64)
abbrev PT.a6:PT:=.val (.int .u64)
abbrev RT.a6:RT:=.val (.int .u64)
abbrev PE.c1:PE:=.blk 37 [.a6]
abbrev Ent.b8:Ent TT.U:=.blk 151 [.fn (.func 76) [] [.ptr 1 0],.fn (.func 78) [] [.ptr 1 0],.fn (.func 80) [] [.ptr 1 0],.fn (.func 81) [] [.ptr 1 0,.ptr 2 0]]
abbrev Sh.b7:Sh:=.ptr 0 37 [.a6]
abbrev Sh.b1:Sh:=.val (.list (.int .u8))
abbrev PT.b1:PT:=.val (.list (.int .u8))
abbrev RT.b1:RT:=.val (.list (.int .u8))
abbrev Sh.b6:Sh:=.asn 127 [.arr (.user 8) 11,.f4,.arr (.bool) 512,.b1,.a1,.nilp] 22 1 512
abbrev PE.b5:PE:=.blk 59 [.a1,.mpo 1,.a1,.a1,.a1,.mpo 2,.a4]
abbrev PE.b4:PE:=.blk 59 [.a1,.mpo 5,.a1,.a1,.a1,.mpo 6,.a4]
abbrev Sh.a8:Sh:=.ptr 0 59 [.a1,.tm .i64 (.list (.int .u8)),.a1,.a1,.a1,.tm .i64 (.bool),.a4]
abbrev Sh.a5:Sh:=.ptr 0 127 [.arr (.user 8) 11,.f4,.arr (.bool) 512,.b1,.a1,.nilp]
abbrev PE.a3:PE:=.blk 127 [.arr (.user 8) 11,.f4,.arr (.bool) 512,.b1,.a1,.nilp]
abbrev Sh.a2:Sh:=.ptr 0 51 [.a8,.a1,.a1,.b2]
abbrev Ent.k1 (a:Int) (b:Bool) (c d:Int) (e:Bool) (f g h:Int):Ent TT.U:=.blk 111 [cu8 a,cb b,ci c,ci d,cb e,ci f,ci g,ci h]
abbrev Ent.k2 (a:List Val) (b:List Int) (c:List Bool) (d:List Int) (e:Int):Ent TT.U:=.blk 127 [.arr (.user 8) 11 a,.arr (.int .u8) 512 b,.arr (.bool) 512 c,.cell ⟨.list (.int .u8),d⟩,ci e,.raw (.pointer none)]
abbrev Ent.k3 (a b c d:Int) (e:Bool) (f:List Int):Ent TT.U:=.blk 36 [ci a,cu8 b,ci c,ci d,cb e,.cell ⟨.list (.int .u8),f⟩]
abbrev Ent.k4 (a b c d e f g h:Int) (i:Bool) (j:List Int) (k l:Int) (m:List Int):Ent TT.U:=.blk 39 [cu8 a,ci b,ci c,ci d,ci e,cu8 f,ci g,ci h,cb i,.cell ⟨.list (.int .u8),j⟩,ci k,qr9 l,.cell ⟨.list (.int .u8),m⟩]
abbrev Ent.k5 (a b c d:Int) (e:Bool):Ent TT.U:=.blk 59 [ci a,.mp 1,ci b,ci c,ci d,.mp 2,cb e]
abbrev Ent.k6 (a b c:Int):Ent TT.U:=.blk 51 [.ptr 10 0,ci a,ci b,cu8 c]
abbrev Ent.k7 (a b c:Int):Ent TT.U:=.blk 51 [.ptr 9 0,ci a,ci b,cu8 c]
abbrev Ent.k8 (a b c d:Int) (e:Bool):Ent TT.U:=.blk 59 [ci a,.mp 16,ci b,ci c,ci d,.mp 17,cb e]
abbrev Ent.k9 (a b c d:Int) (e:Bool):Ent TT.U:=.blk 59 [ci a,.mp 17,ci b,ci c,ci d,.mp 18,cb e]
abbrev Ent.k10 (a b c d:Int) (e:Bool):Ent TT.U:=.blk 59 [ci a,.mp 5,ci b,ci c,ci d,.mp 6,cb e]
abbrev Ent.k11 (a b c:Int):Ent TT.U:=.blk 51 [.ptr 11 0,ci a,ci b,cu8 c]
abbrev Ent.k12 (a b c:Int):Ent TT.U:=.blk 51 [.ptr 8 0,ci a,ci b,cu8 c]
abbrev Ent.k13 (a b:Int):Ent TT.U:=.blk 121 [cu8 a,qr9 b]
abbrev Ent.k14 (a:List Entry):Ent TT.U:=.row 36 (.user 0) a
abbrev Ent.k15 (a b c:Int):Ent TT.U:=.blk 51 [.ptr 12 0,ci a,ci b,cu8 c]
abbrev Ent.k16 (a b c:Int):Ent TT.U:=.blk 51 [.ptr 4 0,ci a,ci b,cu8 c]
abbrev Ent.k17 (a b c:Int):Ent TT.U:=.blk 51 [.ptr 7 0,ci a,ci b,cu8 c]
abbrev Ent.k18 (a b c d:Int) (e:Bool):Ent TT.U:=.blk 59 [ci a,.mp 12,ci b,ci c,ci d,.mp 13,cb e]
abbrev Ent.k19 (a b c d:Int) (e:Bool):Ent TT.U:=.blk 59 [ci a,.mp 13,ci b,ci c,ci d,.mp 14,cb e]
abbrev Ent.k20 (a b c d:Int) (e:Bool):Ent TT.U:=.blk 59 [ci a,.mp 14,ci b,ci c,ci d,.mp 15,cb e]
abbrev Ent.k21 (a b c d:Int) (e:Bool):Ent TT.U:=.blk 59 [ci a,.mp 15,ci b,ci c,ci d,.mp 16,cb e]
abbrev Ent.k22 (a b c d:Int) (e:Bool):Ent TT.U:=.blk 59 [ci a,.mp 18,ci b,ci c,ci d,.mp 19,cb e]
abbrev Ent.k23 (a b c d:Int) (e:Bool):Ent TT.U:=.blk 59 [ci a,.mp 20,ci b,ci c,ci d,.mp 21,cb e]
abbrev Ent.k24 (a b c d:Int) (e:Bool):Ent TT.U:=.blk 59 [ci a,.mp 19,ci b,ci c,ci d,.mp 20,cb e]
abbrev Ent.k25 (a b c d:Int) (e:Bool):Ent TT.U:=.blk 59 [ci a,.mp 21,ci b,ci c,ci d,.mp 22,cb e]
abbrev Ent.k26 (a b c:Int):Ent TT.U:=.blk 51 [.ptr 13 0,ci a,ci b,cu8 c]
abbrev Ent.k27 (a b c:Int):Ent TT.U:=.blk 51 [.ptr 6 0,ci a,ci b,cu8 c]
abbrev Ent.k28 (a b c d:Int) (e:Bool):Ent TT.U:=.blk 59 [ci a,.mp 10,ci b,ci c,ci d,.mp 11,cb e]
abbrev Ent.k29 (a b c d:Int) (e:Bool):Ent TT.U:=.blk 59 [ci a,.mp 11,ci b,ci c,ci d,.mp 12,cb e]
abbrev Ent.k30 (a b c d:Int) (e:Bool):Ent TT.U:=.blk 59 [ci a,.mp 22,ci b,ci c,ci d,.mp 23,cb e]
abbrev Ent.k31 (a b c d:Int) (e:Bool):Ent TT.U:=.blk 59 [ci a,.mp 24,ci b,ci c,ci d,.mp 25,cb e]
abbrev Ent.k32 (a b c d:Int) (e:Bool):Ent TT.U:=.blk 59 [ci a,.mp 23,ci b,ci c,ci d,.mp 24,cb e]
abbrev Ent.k33 (a b c d:Int) (e:Bool):Ent TT.U:=.blk 59 [ci a,.mp 25,ci b,ci c,ci d,.mp 26,cb e]
abbrev Ent.k34 (a b c d:Int) (e:Bool):Ent TT.U:=.blk 59 [ci a,.mp 9,ci b,ci c,ci d,.mp 10,cb e]
abbrev Ent.k35 (a b c d:Int) (e:Bool):Ent TT.U:=.blk 59 [ci a,.mp 8,ci b,ci c,ci d,.mp 9,cb e]
abbrev Ent.k36 (a b c:Int):Ent TT.U:=.blk 51 [.ptr 14 0,ci a,ci b,cu8 c]
abbrev Ent.k37 (a b c:Int):Ent TT.U:=.blk 51 [.ptr 5 0,ci a,ci b,cu8 c]
abbrev Ent.k38 (a b:Nat) (c d:Bool):Ent TT.U:=.blk 138 [.sl 1 1 a b,cb c,cb d]
abbrev Ent.k39 (a:List Int):Ent TT.U:=.row 3 (.int .i64) a
abbrev Ent.k40 (a:List Ins):Ent TT.U:=.blk 91 [.cell ⟨.list (.user 5),a⟩]
abbrev Ent.k41 (a b:Int):Ent TT.U:=.blk 116 [ci a,ci b]
abbrev Ent.k42 (a b c d:Int):Ent TT.U:=.blk 95 [ci a,ci b,qr9 c,ci d]
abbrev Ent.k43 (a:List Int):Ent TT.U:=.row 5 (.int .u8) a
abbrev Ent.k44 (a b c:Int):Ent TT.U:=.blk 51 [.ptr 15 0,ci a,ci b,cu8 c]
end Go.X
