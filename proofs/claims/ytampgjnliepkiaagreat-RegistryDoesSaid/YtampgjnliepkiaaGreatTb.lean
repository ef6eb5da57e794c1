import Derived.Test.YtampgjnliepkiaaGreatAB
import Derived.Test.YtampgjnliepkiaaGreatAE
import Derived.Test.YtampgjnliepkiaaGreatProg
set_option linter.defProp false
namespace Go.X
open Go.RowKit Go.V Go.Proofs
def za4 (f:Func):Code:=match f.body with|some c=>c|none=>.skip
structure Entry where
 Term:Int
 Kind:Int
 Version:Int
 Server:Int
 Good:Bool
 Data:List Int
def jd0:Entry:=⟨(0:Int),(0:Int),(0:Int),(0:Int),false,([]:List Int)⟩
structure Held where
 Version:Int
 Data:List Int
def zt3:Held:=⟨(0:Int),([]:List Int)⟩
structure Registry where
 Held:List Held
 Active:Int
 Before:Int
 Rollout:Int
 Yes:List Int
 No:Bool
def vo0:Registry:=⟨([]:List Held),(0:Int),(0:Int),(0:Int),([]:List Int),false⟩
structure Bundle where
 Version:Int
 Code:List Int
 Digest:List Int
 Tag:List Int
def gb2:Bundle:=⟨(0:Int),([]:List Int),([]:List Int),([]:List Int)⟩
def UU:Nat->Type
 |0=>Entry
 |1=>Held
 |2=>Registry
 |3=>Bundle
 |_=>Unit
def Entry.cs (x:Entry):List (Cell UU):= [⟨.int .i64,x.Term⟩,⟨.int .u8,x.Kind⟩,⟨.int .i64,x.Version⟩,⟨.int .i64,x.Server⟩,⟨.bool,x.Good⟩,⟨.list (.int .u8),x.Data⟩]
def Entry.of:List (Cell UU)->Option Entry
 | [c0,c1,c2,c3,c4,c5]=>match c0.aS (.int .i64),c1.aS (.int .u8),c2.aS (.int .i64),c3.aS (.int .i64),c4.aS (.bool),c5.aS (.list (.int .u8)) with
  |some a0,some a1,some a2,some a3,some a4,some a5=>some ⟨a0,a1,a2,a3,a4,a5⟩
  |_,_,_,_,_,_=>none
 |_=>none
def Entry.of_cs (cs:List (Cell UU)) (x:Entry) (h:Entry.of cs=some x):x.cs=cs:=by
 unfold Entry.of at h;split at h
 ·split at h
  ·rename_i h0 h1 h2 h3 h4 h5;simp only [X0] at h;subst h;rw [Entry.cs,Cell.as_eq h0,Cell.as_eq h1,Cell.as_eq h2,Cell.as_eq h3,Cell.as_eq h4,Cell.as_eq h5]
  ·cases h
 ·cases h
def Held.cs (x:Held):List (Cell UU):= [⟨.int .i64,x.Version⟩,⟨.list (.int .u8),x.Data⟩]
def Held.of:List (Cell UU)->Option Held
 | [c0,c1]=>match c0.aS (.int .i64),c1.aS (.list (.int .u8)) with
  |some a0,some a1=>some ⟨a0,a1⟩
  |_,_=>none
 |_=>none
def Held.of_cs (cs:List (Cell UU)) (x:Held) (h:Held.of cs=some x):x.cs=cs:=by
 unfold Held.of at h;split at h
 ·split at h
  ·rename_i h0 h1;simp only [X0] at h;subst h;rw [Held.cs,Cell.as_eq h0,Cell.as_eq h1]
  ·cases h
 ·cases h
def Registry.cs (x:Registry):List (Cell UU):= [⟨.list (.user 1),x.Held⟩,⟨.int .i64,x.Active⟩,⟨.int .i64,x.Before⟩,⟨.int .i64,x.Rollout⟩,⟨.list (.int .i64),x.Yes⟩,⟨.bool,x.No⟩]
def Registry.of:List (Cell UU)->Option Registry
 | [c0,c1,c2,c3,c4,c5]=>match c0.aS (.list (.user 1)),c1.aS (.int .i64),c2.aS (.int .i64),c3.aS (.int .i64),c4.aS (.list (.int .i64)),c5.aS (.bool) with
  |some a0,some a1,some a2,some a3,some a4,some a5=>some ⟨a0,a1,a2,a3,a4,a5⟩
  |_,_,_,_,_,_=>none
 |_=>none
def Registry.of_cs (cs:List (Cell UU)) (x:Registry) (h:Registry.of cs=some x):x.cs=cs:=by
 unfold Registry.of at h;split at h
 ·split at h
  ·rename_i h0 h1 h2 h3 h4 h5;simp only [X0] at h;subst h;rw [Registry.cs,Cell.as_eq h0,Cell.as_eq h1,Cell.as_eq h2,Cell.as_eq h3,Cell.as_eq h4,Cell.as_eq h5]
  ·cases h
 ·cases h
def Bundle.cs (x:Bundle):List (Cell UU):= [⟨.int .i64,x.Version⟩,⟨.list (.int .u8),x.Code⟩,⟨.list (.int .u8),x.Digest⟩,⟨.list (.int .u8),x.Tag⟩]
def Bundle.of:List (Cell UU)->Option Bundle
 | [c0,c1,c2,c3]=>match c0.aS (.int .i64),c1.aS (.list (.int .u8)),c2.aS (.list (.int .u8)),c3.aS (.list (.int .u8)) with
  |some a0,some a1,some a2,some a3=>some ⟨a0,a1,a2,a3⟩
  |_,_,_,_=>none
 |_=>none
def Bundle.of_cs (cs:List (Cell UU)) (x:Bundle) (h:Bundle.of cs=some x):x.cs=cs:=by
 unfold Bundle.of at h;split at h
 ·split at h
  ·rename_i h0 h1 h2 h3;simp only [X0] at h;subst h;rw [Bundle.cs,Cell.as_eq h0,Cell.as_eq h1,Cell.as_eq h2,Cell.as_eq h3]
  ·cases h
 ·cases h
def TT:Tab where
 U:=UU
 d:=fun i=>match i with
  |0=>jd0
  |1=>zt3
  |2=>vo0
  |3=>gb2
  |_+4=>()
 size:=fun i=>match i with
  |0=>6
  |1=>2
  |2=>6
  |3=>4
  |_+4=>0
 cells:=fun i=>match i with
  |0=>Entry.cs
  |1=>Held.cs
  |2=>Registry.cs
  |3=>Bundle.cs
  |_+4=>fun _=> []
 len:=fun i=>match i with
  |0=>fun _=>rfl
  |1=>fun _=>rfl
  |2=>fun _=>rfl
  |3=>fun _=>rfl
  |_+4=>fun _=>rfl
 pack:=fun i=>match i with
  |0=>Entry.of
  |1=>Held.of
  |2=>Registry.of
  |3=>Bundle.of
  |_+4=>fun cl=>match cl with| []=>some ()|_::_=>none
 packed:=fun i=>match i with
  |0=>Entry.of_cs
  |1=>Held.of_cs
  |2=>Registry.of_cs
  |3=>Bundle.of_cs
  |_+4=>fun cl x h=>by cases cl with|nil=>rfl|cons a r=>cases h
 scal:=fun i=>match i with
  |0=>false
  |1=>false
  |2=>false
  |3=>false
  |_+4=>true
 scals:=fun i=>match i with
  |0=>fun _ h=>by cases h
  |1=>fun _ h=>by cases h
  |2=>fun _ h=>by cases h
  |3=>fun _ h=>by cases h
  |_+4=>fun _ _ c hc=>by cases hc
 fe:=fun i=>match i with
  |0=> []
  |1=> [0,5]
  |2=> []
  |3=> []
  |_+4=> []
def gn5:List (Nat×Ty)->Nat->Option Ty
 | [],_=>none
 |(j,t)::r,i=>match Nat.beq j i with|true=>some t|false=>gn5 r i
def qt3 (t:TypeId):Option Ty:=gn5 [(22,.user 0),(28,.user 1),(29,.int .i64),(38,.int .u8),(55,.user 2),(56,.list (.user 2)),(61,.list (.int .u8)),(62,.bool),(79,.list (.int .u32)),(80,.list (.int .u64)),(81,.list (.int .i64)),(82,.list (.int .i64)),(83,.list (.str)),(84,.list (.int .u8)),(85,.list (.bool)),(93,.list (.user 3)),(94,.list (.user 0)),(95,.list (.user 1)),(145,.int .u32),(147,.int .u64),(149,.int .i64),(150,.str),(152,.bool),(185,.user 3)] t
def wp9 {α β:Type} (f:α->Option β):List α->Option β
 | [e]=>f e
 |_=>none
def qm4 {α β:Type} {f:α->Option β} {g:List α->Option β} (hfg: ∀e,g [e]=f e): ∀ {x:List α} {y:β},wp9 f x=some y->g x=some y
 | [e],y,h=>(hfg e).trans h
 | [],y,h=>by cases h
 |_::_::_,y,h=>by cases h
def asT (l:List Nat) (f:TypeId->Option (Nat×List TypeId)) (t:TypeId):Option (Nat×List TypeId):=match l.any (Nat.beq t) with|true=>some (0,[])|false=>f t
def go0 (l:List Nat) (f:TypeId->Option Ty) (t:TypeId):Option Ty:=match l.any (Nat.beq t) with|true=>none|false=>f t
def kr1:List (Nat×Lay)->Nat->Option Lay
 | [],_=>none
 |(j,l)::r,i=>match Nat.beq j i with|true=>some l|false=>kr1 r i
def yv9 (t:TypeId):Option Lay:=kr1 [] t
def kr0:List (Nat×(Nat×List TypeId))->Nat->Option (Nat×List TypeId)
 | [],_=>none
 |(j,l)::r,i=>match Nat.beq j i with|true=>some l|false=>kr0 r i
def gb5 (t:TypeId):Option (Nat×List TypeId):=kr0 [(28,(1,[0,5]))] t
def kr3:List (Nat×(TypeId×Nat))->Nat->Option (TypeId×Nat)
 | [],_=>none
 |(j,l)::r,i=>match Nat.beq j i with|true=>some l|false=>kr3 r i
def qm6 (t:TypeId):Option (TypeId×Nat):=kr3 [] t
abbrev BIG:Nat:=1000000000
def pzG:Nat→Nat→Pos
  |0,_=> []
  |m+1,k=>match Nat.beq k 1 with
    |true=> []
    |false=>Nat.beq (k%2) 1::pzG m (k/2)
def zc0 (k:Nat):Pos:=pzG 99 k
def ctZ (E:List (FuncId×CallSpec TT)) (p:Nat) (m:List (Nat×Nat)):Ctx TT:=⟨qt3,E,p,m,yv9,fun _=>none,qm6⟩
abbrev nl0:Nl:=⟨[],[],[],[],[]⟩
noncomputable def zh0 (C:Ctx TT) (cuts:List (Pos×Cut)) (f:Func) (nl:Nl) (A:List Sh) (B:List PE) (R:List Sh):Nat→zf1 TT A→Option (zq1 TT B×zf1 TT R):=gk5 TT Tryz.prog C cuts f (za4 f) nl A B R
noncomputable def yx4 (C:Ctx TT) (cuts:List (Pos×Cut)) (f:Func) (nl:Nl) (B:List PE) (R:List Sh) (n:Nat) (p:Nat) (s:St TT):Option (zq1 TT B×zf1 TT R):=un7 TT Tryz.prog C cuts f (za4 f) nl B R n (zc0 p) s
def spZ {A:List Sh} {B:List PE} {R:List Sh} (t:Nat→zf1 TT A→Option (zq1 TT B×zf1 TT R)):GSpec TT:=⟨A,B,R,t BIG⟩
def spY {A:List PT} {R:List RT} (t:Nat→zv0 TT A→Option (zt4 TT (zb4 A) (zq5 TT R))):FnSpec TT:=⟨A,R,t BIG⟩
abbrev zh4 (k:FuncId) (s:GSpec TT):Prop:=GOk TT Tryz.prog k s
abbrev zn7 (k:FuncId) (s:FnSpec TT):Prop:=jy2 TT Tryz.prog k s
def okZ {C:Ctx TT} {cuts:List (Pos×Cut)} {k:FuncId} {f:Func} {nl:Nl} {A:List Sh} {B:List PE} {R:List Sh} (hE:zb2 TT Tryz.prog C.E) (hf:Tryz.prog.funcs[k]?=some f) (hb:f.body=some (za4 f):=by kernel_rfl) (hs:Nat.ble A.length f.ntmps=true:=by kernel_rfl) (hp:Nat.ble (zb1 A) C.pin=true:=by kernel_rfl) (hq:Nat.beq B.length (zb1 A)=true:=by kernel_rfl):GOk TT Tryz.prog k ⟨A,B,R,zh0 C cuts f nl A B R BIG⟩:=qc4 (C:=C) (cuts:=cuts) (by kernel_rfl) hE hf hb hs hp hq fun _ _ h=>⟨BIG,h⟩
noncomputable def zn0 (C:Ctx TT) (cuts:List (Pos×Cut)) (f:Func) (z:Zw) (A:List PT) (R:List RT):Nat→zv0 TT A→Option (zt4 TT (zb4 A) (zq5 TT R)):=gz6 TT Tryz.prog C cuts f (za4 f) z A R
noncomputable def yx3 (C:Ctx TT) (cuts:List (Pos×Cut)) (f:Func) (z:Zw) (A:List PT) (R:List RT) (n:Nat) (p:Nat) (s:St TT):Option (zt4 TT (zb4 A) (zq5 TT R)):=un6 TT Tryz.prog C cuts f (za4 f) z A R n (zc0 p) s
def okY {C:Ctx TT} {cuts:List (Pos×Cut)} {k:FuncId} {f:Func} {z:Zw} {A:List PT} {R:List RT} (hE:zb2 TT Tryz.prog C.E) (hf:Tryz.prog.funcs[k]?=some f) (hb:f.body=some (za4 f):=by kernel_rfl) (hs:Nat.ble A.length f.ntmps=true:=by kernel_rfl) (hp:Nat.ble (zb4 A).length C.pin=true:=by kernel_rfl):jy2 TT Tryz.prog k ⟨A,R,zn0 C cuts f z A R BIG⟩:=jy9 (C:=C) (cuts:=cuts) (by kernel_rfl) hE hf hb hs hp fun _ _ h=>⟨BIG,h⟩
abbrev ci (x:Int):AV TT.U:=.cell ⟨.int .i64,x⟩
abbrev cb (x:Bool):AV TT.U:=.cell ⟨.bool,x⟩
abbrev cu8 (x:Int):AV TT.U:=.cell ⟨.int .u8,x⟩
abbrev up3 (x:Int):AV TT.U:=.cell ⟨.int .u32,x⟩
abbrev yq1 (x:Int):AV TT.U:=.cell ⟨.int .u64,x⟩
abbrev yc7:Type:=Int×Int×Int×Int×Bool×List Int×Int×Int×Int×Int×Bool×List Int×Int×Int×Int×Int×Bool×List Int×Int×Int×Int×Int×Bool×List Int×Int×Int×Int×Int×Bool×List Int×Int×Int×Int×Int×Bool×List Int×Int×Int×Int×Int×Bool×List Int×Int×Int×Int×Int×Bool×List Int×Int×Int×Int×Int×Bool×List Int×Int×Int×Int×Int×Bool×List Int×Int×Int×Int×Int×Bool×List Int×Int×Int×Int×Int×Bool×List Int×Unit
abbrev jd5:List Sh:=.val (.int .i64):: .val (.int .u8):: .val (.int .i64):: .val (.int .i64):: .val (.bool):: .val (.list (.int .u8)):: .val (.int .i64):: .val (.int .u8):: .val (.int .i64):: .val (.int .i64):: .val (.bool):: .val (.list (.int .u8)):: .val (.int .i64):: .val (.int .u8):: .val (.int .i64):: .val (.int .i64):: .val (.bool):: .val (.list (.int .u8)):: .val (.int .i64):: .val (.int .u8):: .val (.int .i64):: .val (.int .i64):: .val (.bool):: .val (.list (.int .u8)):: .val (.int .i64):: .val (.int .u8):: .val (.int .i64):: .val (.int .i64):: .val (.bool):: .val (.list (.int .u8)):: .val (.int .i64):: .val (.int .u8):: .val (.int .i64):: .val (.int .i64):: .val (.bool):: .val (.list (.int .u8)):: .val (.int .i64):: .val (.int .u8):: .val (.int .i64):: .val (.int .i64):: .val (.bool):: .val (.list (.int .u8)):: .val (.int .i64):: .val (.int .u8):: .val (.int .i64):: .val (.int .i64):: .val (.bool):: .val (.list (.int .u8)):: .val (.int .i64):: .val (.int .u8):: .val (.int .i64):: .val (.int .i64):: .val (.bool):: .val (.list (.int .u8)):: .val (.int .i64):: .val (.int .u8):: .val (.int .i64):: .val (.int .i64):: .val (.bool):: .val (.list (.int .u8)):: .val (.int .i64):: .val (.int .u8):: .val (.int .i64):: .val (.int .i64):: .val (.bool):: .val (.list (.int .u8)):: .val (.int .i64):: .val (.int .u8):: .val (.int .i64):: .val (.int .i64):: .val (.bool):: .val (.list (.int .u8)):: []
abbrev qv0:Sh:=.val (.bool)
abbrev vw9:Sh:=.val (.user 0)
abbrev yh9:PT:=.val (.int .i64)
abbrev jf2:PT:=.val (.int .u64)
abbrev jq5:RT:=.val (.int .i64)
abbrev yq2:Sh:=.val (.int .i64)
abbrev zq6:PE:=.row 5 (.int .u8)
abbrev qb9:PE:=.row 53 (.user 1)
abbrev yv1:Sh:=.row 5 (.int .u8)
abbrev qu9:PE:=.row 3 (.int .i64)
abbrev qb7:PE:=.tmap .i64 (.bool)
abbrev yh8:PT:=.val (.list (.int .u8))
abbrev jn5:Sh:=.val (.list (.int .u8))
abbrev qb8:PE:=.tmap .i64 (.list (.int .u8))
abbrev ko6:PE:=.blk 242 [.part 1 1,.val (.bool),.val (.bool)]
abbrev yo1:Sh:=.ptr 0 242 [.row 5 (.int .u8),.val (.bool),.val (.bool)]
abbrev yd2:Sh:=.ptr 0 242 [.slr 5 (.int .u8),.val (.bool),.val (.bool)]
abbrev ko8:Sh:=.agg [.val (.int .i64),.val (.int .u8),.val (.int .i64),.val (.int .i64),.val (.bool),.nils]
abbrev qc0:Sh:=.agg [.val (.int .i64),.val (.int .u8),.val (.int .i64),.val (.int .i64),.val (.bool),.slr 5 (.int .u8)]
abbrev ko7:PE:=.blk 64 [.val (.int .i64),.mpo 1,.val (.int .i64),.val (.int .i64),.val (.int .i64),.mpo 2,.val (.bool)]
abbrev vb3:Sh:=.agg [.dr 53 1 [0,5],.val (.int .i64),.val (.int .i64),.val (.int .i64),.row 3 (.int .i64),.val (.bool)]
abbrev vb4:Sh:=.ptr 0 33 [.val (.int .i64),.row 53 (.user 1),.val (.int .i64),.val (.int .i64),.val (.int .i64),.row 3 (.int .i64),.val (.bool)]
abbrev vb5:Sh:=.asq 40 (.val (.int .i64):: .val (.int .u8):: .val (.int .i64):: .val (.int .i64):: .val (.bool):: .slr 5 (.int .u8)::jd5) 0 6 13 0 1
abbrev yi0:Sh:=.ptr 0 64 [.val (.int .i64),.tm .i64 (.list (.int .u8)),.val (.int .i64),.val (.int .i64),.val (.int .i64),.tm .i64 (.bool),.val (.bool)]
abbrev zn9:List RT:= [.val (.bool)]
abbrev ym3:List Sh:= [qv0]
abbrev vx3:List PT:= [.val (.user 3)]
abbrev vx4:List RT:= [.val (.int .u64)]
abbrev zd1:List Sh:= [yq2]
abbrev yi3:List RT:= [.own 5 (.int .u8)]
abbrev kx2:List Sh:= [.slr 5 (.int .u8)]
abbrev qd2:List RT:= [.own 148 (.int .u64)]
abbrev yq9:List PT:= [yh8]
abbrev kx1:List RT:= [.val (.user 3),jq5]
abbrev vb8:List PE:= [.blk 38 [.val (.list (.int .u8))]]
abbrev yt5:List PT:= [yh9,yh9]
abbrev kq5:List Sh:= [.ptr 0 38 [.val (.list (.int .u8))]]
abbrev jo1:List PT:= [yh8,yh8]
abbrev kq3:List PT:= [.val (.list (.int .i64)),.val (.list (.int .i64))]
abbrev qd1:List PT:= [.val (.list (.int .u64)),.val (.list (.int .u64))]
abbrev kq4:List PT:= [yh9,.val (.list (.user 0)),yh9]
abbrev qd3:List Sh:= [.ptr 0 246 [.row 5 (.int .u8),.val (.int .i64),.val (.bool)]]
abbrev zr9:List PE:= [ko6,zq6]
abbrev jo0:List PE:= [.blk 246 [.own 1,.val (.int .i64),.val (.bool)],zq6]
abbrev kq6:List Sh:= [.ptr 0 213 [.ptr 0 242 [.row 5 (.int .u8),.val (.bool),.val (.bool)]]]
abbrev kq7:List Sh:= [.ptr 0 213 [.ptr 0 242 [.slr 5 (.int .u8),.val (.bool),.val (.bool)]]]
abbrev qd4:List Sh:= [.agg [.val (.int .i64),.row 5 (.int .u8),.row 5 (.int .u8),.row 5 (.int .u8)]]
abbrev qc9:List PE:= [.blk 213 [.at_ 1 0],.blk 242 [.part 2 1,.val (.bool),.val (.bool)],zq6]
abbrev kp9:List PE:= [ko6,zq6,.blk 213 [.at_ 0 0]]
abbrev qd5:List Sh:= [ko8,qv0]
abbrev kq0:List PE:= [.blk 33 [.val (.int .i64),.row 53 (.user 1),.val (.int .i64),.val (.int .i64),.val (.int .i64),.row 3 (.int .i64),.val (.bool)],.gone,.gone]
abbrev qd0:List PE:= [.blk 33 [.val (.int .i64),.own 1,.val (.int .i64),.val (.int .i64),.val (.int .i64),.row 3 (.int .i64),.val (.bool)],qb9,.gone]
abbrev kq1:List PE:= [.blk 33 [.val (.int .i64),.row 53 (.user 1),.val (.int .i64),.val (.int .i64),.val (.int .i64),.own 2,.val (.bool)],.gone,qu9]
abbrev kq2:List PE:= [.blk 33 [.val (.int .i64),.own 1,.val (.int .i64),.val (.int .i64),.val (.int .i64),.own 2,.val (.bool)],qb9,qu9]
abbrev qd6:List Sh:= [vb4,vw9]
abbrev yt6:List Sh:= [yi0,vw9]
abbrev zj0:List PE:= [ko7,qb8,qb7]
abbrev ya5:List PE:= [ko7,qb8,qb7,zq6]
abbrev yt7:List Sh:= [yi0,ko8]
abbrev yt8:List Sh:= [yi0,qc0]
abbrev tZ0:=Option (List Int)
abbrev tZ1:=Option (Bool)
abbrev tZ2:=Option (Int)
abbrev tZ3:=Option (Bundle×Int)
abbrev tZ4:=Option (((Int×Unit×Int×Int×Int×Unit×Bool×Unit)×(List (Int×List Int))×(List (Int×Bool))×Unit)×((Int×Int×Int×Int×Bool×Unit×Unit)×Bool×Unit))
abbrev tZ5:=Option (((Int×Unit×Int×Int×Int×Unit×Bool×Unit)×(List (Int×List Int))×(List (Int×Bool))×Unit)×((List Held×Int×Int×Int×List Int×Bool×Unit)×Unit))
abbrev tZ6:=Option (((Int×Unit×Int×Int×Int×Unit×Bool×Unit)×(List (Int×List Int))×(List (Int×Bool))×Unit)×(Int×Unit))
abbrev tZ7:=Option ((((Nat×Nat)×Bool×Bool×Unit)×List Int×Unit)×(((Nat×Nat)×Unit)⊕(Unit×Unit)))
abbrev tZ8:=Option ((((Nat×Nat)×Bool×Bool×Unit)×List Int×Unit)×((Int×Unit)⊕(Unit×Unit)))
abbrev tZ9:=Option ((Int×Unit)×(Unit×Unit)×((Nat×Nat)×Bool×Bool×Unit)×List Int×Unit)
abbrev um8:=Option ((((Nat×Nat)×Bool×Bool×Unit)×List Int×Unit)×(Bool×Unit))
abbrev um9:=Option ((List Int×List Int×List Int×Unit)×((Unit)⊕(Int×Unit)))
abbrev un0:=Option ((Unit)×((List Int×Nat×Nat)×Unit))
abbrev un1:=Option ((Unit)×((Int×Int×Int×Int×Bool×(List Int×Nat×Nat)×yc7)×Unit))
abbrev jx2:=Option (((Int×Unit×Int×Int×Int×Unit×Bool×Unit)×(List (Int×List Int))×(List (Int×Bool))×List Int×Unit)×(Int×Unit))
abbrev gz1:=Option ((List Int×Unit)×(Bool×Unit))
abbrev un2:=Option (((Int×Int×Int×Int×Bool×(Nat×Nat)×yc7)×List Int×Unit)×(Bool×Unit))
abbrev wq2:=Option (((Unit×Int×Bool×Unit)×List Int×Unit)×(Int×Unit))
abbrev un3:=Option (((Unit×Int×Bool×Unit)×List Int×Unit)×(List Int×Unit))
abbrev kw0:=Option (((Int×List Held×Int×Int×Int×Unit×Bool×Unit)×Unit×List Int×Unit)×(Int×Unit))
abbrev va1:=Option (((Int×Unit×Int×Int×Int×List Int×Bool×Unit)×List Held×Unit×Unit)×(Int×Unit))
abbrev wq3:=Option (((Int×List Held×Int×Int×Int×List Int×Bool×Unit)×Unit×Unit×Unit)×(Int×Unit))
abbrev wq4:=Option ((List Int×Unit)×(Unit))
abbrev un4:=Option (((Int×Unit×Int×Int×Int×Unit×Bool×Unit)×List Held×List Int×Unit)×((Int×Int×Int×Int×Bool×Unit×Unit)×Bool×Unit))
abbrev un5:=Option ((List Held×List Held×Unit)×(Bool×Unit))
end Go.X
