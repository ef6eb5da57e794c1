import Derived.Test.YtbanjakljpjknaaGreatXN
import Derived.Test.YtbanjakljpjknaaGreatAB
import Derived.Test.YtbanjakljpjknaaGreatProg
set_option linter.defProp false
namespace Go.X
open Go.RowKit Go.V Go.Proofs
def k7 (f:Func):Code:=match f.body with|some c=>c|none=>.skip
structure Span where
 Lo:Int
 Hi:Int
def zal1:Span:=⟨(0:Int),(0:Int)⟩
structure Known where
 Kind:Int
 In_Lo:Int
 In_Hi:Int
def v5:Known:=⟨(0:Int),(0:Int),(0:Int)⟩
structure Ins where
 Op:Int
 Narrow:Bool
 Dst:Int
 Src:Int
 UseImm:Bool
 Off:Int
 Imm:Int
 Size:Int
def zb5:Ins:=⟨(0:Int),false,(0:Int),(0:Int),false,(0:Int),(0:Int),(0:Int)⟩
structure Fault where
 Err:Int
 At:Int
def ug9:Fault:=⟨(0:Int),(0:Int)⟩
structure Place where
 Live:Bool
 Regs:List Known
 Bytes:List Bool
 Least:Int
def v6:Place:=⟨false,([]:List Known),([]:List Bool),(0:Int)⟩
structure RVal where
 Kind:Int
 N:Int
def zal0:RVal:=⟨(0:Int),(0:Int)⟩
structure Work where
 a_Lo:Int
 a_Hi:Int
 b_Lo:Int
 b_Hi:Int
 narrow:Bool
 most:Int
 size:Int
def zal2:Work:=⟨(0:Int),(0:Int),(0:Int),(0:Int),false,(0:Int),(0:Int)⟩
structure Flat where
 Do:Int
 What:Int
 Narrow:Bool
 D:Int
 A:Int
 B:Int
 N:Int
 Size:Int
 To:Int
def k9:Flat:=⟨(0:Int),(0:Int),false,(0:Int),(0:Int),(0:Int),(0:Int),(0:Int),(0:Int)⟩
structure Outcome where
 Err:Int
 At:Int
 Verdict:Int
 Steps:Int
def ks4:Outcome:=⟨(0:Int),(0:Int),(0:Int),(0:Int)⟩
def UU:Nat->Type
 |0=>Span
 |1=>Known
 |2=>Ins
 |3=>Fault
 |4=>Place
 |5=>RVal
 |6=>Work
 |7=>Flat
 |8=>Outcome
 |_=>Unit
def Span.cs (x:Span):List (Cell UU):= [⟨.int .u64,x.Lo⟩,⟨.int .u64,x.Hi⟩]
def Span.of:List (Cell UU)->Option Span
 | [c0,c1]=>match c0.aS (.int .u64),c1.aS (.int .u64) with
  |some a0,some a1=>some ⟨a0,a1⟩
  |_,_=>none
 |_=>none
def Span.of_cs (cs:List (Cell UU)) (x:Span) (h:Span.of cs=some x):x.cs=cs:=by
 unfold Span.of at h;split at h
 ·split at h
  ·rename_i h0 h1;simp only [X0] at h;subst h;rw [Span.cs,Cell.as_eq h0,Cell.as_eq h1]
  ·cases h
 ·cases h
def Known.cs (x:Known):List (Cell UU):= [⟨.int .u8,x.Kind⟩,⟨.int .u64,x.In_Lo⟩,⟨.int .u64,x.In_Hi⟩]
def Known.of:List (Cell UU)->Option Known
 | [c0,c1,c2]=>match c0.aS (.int .u8),c1.aS (.int .u64),c2.aS (.int .u64) with
  |some a0,some a1,some a2=>some ⟨a0,a1,a2⟩
  |_,_,_=>none
 |_=>none
def Known.of_cs (cs:List (Cell UU)) (x:Known) (h:Known.of cs=some x):x.cs=cs:=by
 unfold Known.of at h;split at h
 ·split at h
  ·rename_i h0 h1 h2;simp only [X0] at h;subst h;rw [Known.cs,Cell.as_eq h0,Cell.as_eq h1,Cell.as_eq h2]
  ·cases h
 ·cases h
def Ins.cs (x:Ins):List (Cell UU):= [⟨.int .u8,x.Op⟩,⟨.bool,x.Narrow⟩,⟨.int .i64,x.Dst⟩,⟨.int .i64,x.Src⟩,⟨.bool,x.UseImm⟩,⟨.int .i64,x.Off⟩,⟨.int .i64,x.Imm⟩,⟨.int .i64,x.Size⟩]
def Ins.of:List (Cell UU)->Option Ins
 | [c0,c1,c2,c3,c4,c5,c6,c7]=>match c0.aS (.int .u8),c1.aS (.bool),c2.aS (.int .i64),c3.aS (.int .i64),c4.aS (.bool),c5.aS (.int .i64),c6.aS (.int .i64),c7.aS (.int .i64) with
  |some a0,some a1,some a2,some a3,some a4,some a5,some a6,some a7=>some ⟨a0,a1,a2,a3,a4,a5,a6,a7⟩
  |_,_,_,_,_,_,_,_=>none
 |_=>none
def Ins.of_cs (cs:List (Cell UU)) (x:Ins) (h:Ins.of cs=some x):x.cs=cs:=by
 unfold Ins.of at h;split at h
 ·split at h
  ·rename_i h0 h1 h2 h3 h4 h5 h6 h7;simp only [X0] at h;subst h;rw [Ins.cs,Cell.as_eq h0,Cell.as_eq h1,Cell.as_eq h2,Cell.as_eq h3,Cell.as_eq h4,Cell.as_eq h5,Cell.as_eq h6,Cell.as_eq h7]
  ·cases h
 ·cases h
def Fault.cs (x:Fault):List (Cell UU):= [⟨.int .i64,x.Err⟩,⟨.int .i64,x.At⟩]
def Fault.of:List (Cell UU)->Option Fault
 | [c0,c1]=>match c0.aS (.int .i64),c1.aS (.int .i64) with
  |some a0,some a1=>some ⟨a0,a1⟩
  |_,_=>none
 |_=>none
def Fault.of_cs (cs:List (Cell UU)) (x:Fault) (h:Fault.of cs=some x):x.cs=cs:=by
 unfold Fault.of at h;split at h
 ·split at h
  ·rename_i h0 h1;simp only [X0] at h;subst h;rw [Fault.cs,Cell.as_eq h0,Cell.as_eq h1]
  ·cases h
 ·cases h
def Place.cs (x:Place):List (Cell UU):= [⟨.bool,x.Live⟩,⟨.list (.user 1),x.Regs⟩,⟨.list (.bool),x.Bytes⟩,⟨.int .i64,x.Least⟩]
def Place.of:List (Cell UU)->Option Place
 | [c0,c1,c2,c3]=>match c0.aS (.bool),c1.aS (.list (.user 1)),c2.aS (.list (.bool)),c3.aS (.int .i64) with
  |some a0,some a1,some a2,some a3=>some ⟨a0,a1,a2,a3⟩
  |_,_,_,_=>none
 |_=>none
def Place.of_cs (cs:List (Cell UU)) (x:Place) (h:Place.of cs=some x):x.cs=cs:=by
 unfold Place.of at h;split at h
 ·split at h
  ·rename_i h0 h1 h2 h3;simp only [X0] at h;subst h;rw [Place.cs,Cell.as_eq h0,Cell.as_eq h1,Cell.as_eq h2,Cell.as_eq h3]
  ·cases h
 ·cases h
def RVal.cs (x:RVal):List (Cell UU):= [⟨.int .u8,x.Kind⟩,⟨.int .u64,x.N⟩]
def RVal.of:List (Cell UU)->Option RVal
 | [c0,c1]=>match c0.aS (.int .u8),c1.aS (.int .u64) with
  |some a0,some a1=>some ⟨a0,a1⟩
  |_,_=>none
 |_=>none
def RVal.of_cs (cs:List (Cell UU)) (x:RVal) (h:RVal.of cs=some x):x.cs=cs:=by
 unfold RVal.of at h;split at h
 ·split at h
  ·rename_i h0 h1;simp only [X0] at h;subst h;rw [RVal.cs,Cell.as_eq h0,Cell.as_eq h1]
  ·cases h
 ·cases h
def Work.cs (x:Work):List (Cell UU):= [⟨.int .u64,x.a_Lo⟩,⟨.int .u64,x.a_Hi⟩,⟨.int .u64,x.b_Lo⟩,⟨.int .u64,x.b_Hi⟩,⟨.bool,x.narrow⟩,⟨.int .u64,x.most⟩,⟨.int .u64,x.size⟩]
def Work.of:List (Cell UU)->Option Work
 | [c0,c1,c2,c3,c4,c5,c6]=>match c0.aS (.int .u64),c1.aS (.int .u64),c2.aS (.int .u64),c3.aS (.int .u64),c4.aS (.bool),c5.aS (.int .u64),c6.aS (.int .u64) with
  |some a0,some a1,some a2,some a3,some a4,some a5,some a6=>some ⟨a0,a1,a2,a3,a4,a5,a6⟩
  |_,_,_,_,_,_,_=>none
 |_=>none
def Work.of_cs (cs:List (Cell UU)) (x:Work) (h:Work.of cs=some x):x.cs=cs:=by
 unfold Work.of at h;split at h
 ·split at h
  ·rename_i h0 h1 h2 h3 h4 h5 h6;simp only [X0] at h;subst h;rw [Work.cs,Cell.as_eq h0,Cell.as_eq h1,Cell.as_eq h2,Cell.as_eq h3,Cell.as_eq h4,Cell.as_eq h5,Cell.as_eq h6]
  ·cases h
 ·cases h
def Flat.cs (x:Flat):List (Cell UU):= [⟨.int .u8,x.Do⟩,⟨.int .u8,x.What⟩,⟨.bool,x.Narrow⟩,⟨.int .i64,x.D⟩,⟨.int .i64,x.A⟩,⟨.int .i64,x.B⟩,⟨.int .u64,x.N⟩,⟨.int .i64,x.Size⟩,⟨.int .i64,x.To⟩]
def Flat.of:List (Cell UU)->Option Flat
 | [c0,c1,c2,c3,c4,c5,c6,c7,c8]=>match c0.aS (.int .u8),c1.aS (.int .u8),c2.aS (.bool),c3.aS (.int .i64),c4.aS (.int .i64),c5.aS (.int .i64),c6.aS (.int .u64),c7.aS (.int .i64),c8.aS (.int .i64) with
  |some a0,some a1,some a2,some a3,some a4,some a5,some a6,some a7,some a8=>some ⟨a0,a1,a2,a3,a4,a5,a6,a7,a8⟩
  |_,_,_,_,_,_,_,_,_=>none
 |_=>none
def Flat.of_cs (cs:List (Cell UU)) (x:Flat) (h:Flat.of cs=some x):x.cs=cs:=by
 unfold Flat.of at h;split at h
 ·split at h
  ·rename_i h0 h1 h2 h3 h4 h5 h6 h7 h8;simp only [X0] at h;subst h;rw [Flat.cs,Cell.as_eq h0,Cell.as_eq h1,Cell.as_eq h2,Cell.as_eq h3,Cell.as_eq h4,Cell.as_eq h5,Cell.as_eq h6,Cell.as_eq h7,Cell.as_eq h8]
  ·cases h
 ·cases h
def Outcome.cs (x:Outcome):List (Cell UU):= [⟨.int .i64,x.Err⟩,⟨.int .i64,x.At⟩,⟨.int .u64,x.Verdict⟩,⟨.int .i64,x.Steps⟩]
def Outcome.of:List (Cell UU)->Option Outcome
 | [c0,c1,c2,c3]=>match c0.aS (.int .i64),c1.aS (.int .i64),c2.aS (.int .u64),c3.aS (.int .i64) with
  |some a0,some a1,some a2,some a3=>some ⟨a0,a1,a2,a3⟩
  |_,_,_,_=>none
 |_=>none
def Outcome.of_cs (cs:List (Cell UU)) (x:Outcome) (h:Outcome.of cs=some x):x.cs=cs:=by
 unfold Outcome.of at h;split at h
 ·split at h
  ·rename_i h0 h1 h2 h3;simp only [X0] at h;subst h;rw [Outcome.cs,Cell.as_eq h0,Cell.as_eq h1,Cell.as_eq h2,Cell.as_eq h3]
  ·cases h
 ·cases h
def TT:Tab where
 U:=UU
 d:=fun i=>match i with
  |0=>zal1
  |1=>v5
  |2=>zb5
  |3=>ug9
  |4=>v6
  |5=>zal0
  |6=>zal2
  |7=>k9
  |8=>ks4
  |_+9=>()
 size:=fun i=>match i with
  |0=>2
  |1=>3
  |2=>8
  |3=>2
  |4=>4
  |5=>2
  |6=>7
  |7=>9
  |8=>4
  |_+9=>0
 cells:=fun i=>match i with
  |0=>Span.cs
  |1=>Known.cs
  |2=>Ins.cs
  |3=>Fault.cs
  |4=>Place.cs
  |5=>RVal.cs
  |6=>Work.cs
  |7=>Flat.cs
  |8=>Outcome.cs
  |_+9=>fun _=> []
 len:=fun i=>match i with
  |0=>fun _=>rfl
  |1=>fun _=>rfl
  |2=>fun _=>rfl
  |3=>fun _=>rfl
  |4=>fun _=>rfl
  |5=>fun _=>rfl
  |6=>fun _=>rfl
  |7=>fun _=>rfl
  |8=>fun _=>rfl
  |_+9=>fun _=>rfl
 pack:=fun i=>match i with
  |0=>Span.of
  |1=>Known.of
  |2=>Ins.of
  |3=>Fault.of
  |4=>Place.of
  |5=>RVal.of
  |6=>Work.of
  |7=>Flat.of
  |8=>Outcome.of
  |_+9=>fun cl=>match cl with| []=>some ()|_::_=>none
 packed:=fun i=>match i with
  |0=>Span.of_cs
  |1=>Known.of_cs
  |2=>Ins.of_cs
  |3=>Fault.of_cs
  |4=>Place.of_cs
  |5=>RVal.of_cs
  |6=>Work.of_cs
  |7=>Flat.of_cs
  |8=>Outcome.of_cs
  |_+9=>fun cl x h=>by cases cl with|nil=>rfl|cons a r=>cases h
 scal:=fun i=>match i with
  |0=>true
  |1=>true
  |2=>true
  |3=>true
  |4=>false
  |5=>true
  |6=>true
  |7=>true
  |8=>true
  |_+9=>true
 scals:=fun i=>match i with
  |0=>fun x _ c hc=>by simp only [Span.cs,Z0,M8,or_false] at hc;rcases hc with rfl|rfl<;>rfl
  |1=>fun x _ c hc=>by simp only [Known.cs,Z0,M8,or_false] at hc;rcases hc with rfl|rfl|rfl<;>rfl
  |2=>fun x _ c hc=>by simp only [Ins.cs,Z0,M8,or_false] at hc;rcases hc with rfl|rfl|rfl|rfl|rfl|rfl|rfl|rfl<;>rfl
  |3=>fun x _ c hc=>by simp only [Fault.cs,Z0,M8,or_false] at hc;rcases hc with rfl|rfl<;>rfl
  |4=>fun _ h=>by cases h
  |5=>fun x _ c hc=>by simp only [RVal.cs,Z0,M8,or_false] at hc;rcases hc with rfl|rfl<;>rfl
  |6=>fun x _ c hc=>by simp only [Work.cs,Z0,M8,or_false] at hc;rcases hc with rfl|rfl|rfl|rfl|rfl|rfl|rfl<;>rfl
  |7=>fun x _ c hc=>by simp only [Flat.cs,Z0,M8,or_false] at hc;rcases hc with rfl|rfl|rfl|rfl|rfl|rfl|rfl|rfl|rfl<;>rfl
  |8=>fun x _ c hc=>by simp only [Outcome.cs,Z0,M8,or_false] at hc;rcases hc with rfl|rfl|rfl|rfl<;>rfl
  |_+9=>fun _ _ c hc=>by cases hc
 fe:=fun i=>match i with
  |0=> []
  |1=> []
  |2=> []
  |3=> []
  |4=> [0,133,0,0]
  |5=> []
  |6=> []
  |7=> []
  |8=> []
  |_+9=> []
def wl4:List (Nat×Ty)->Nat->Option Ty
 | [],_=>none
 |(j,t)::r,i=>match Nat.beq j i with|true=>some t|false=>wl4 r i
def za3 (t:TypeId):Option Ty:=wl4 [(22,.user 2),(23,.int .u8),(26,.user 7),(32,.user 4),(56,.int .i64),(62,.user 1),(63,.bool),(78,.user 5),(82,.int .u64),(94,.list (.int .u32)),(95,.list (.int .u64)),(96,.list (.int .i64)),(97,.list (.int .i64)),(98,.list (.str)),(99,.list (.int .u8)),(100,.list (.bool)),(101,.list (.user 2)),(102,.list (.user 0)),(103,.list (.user 1)),(104,.list (.user 4)),(105,.list (.user 3)),(106,.list (.user 8)),(204,.int .u32),(206,.int .i64),(207,.str),(210,.user 0),(215,.user 3),(217,.user 8)] t
def gj5:List (Nat×Lay)->Nat->Option Lay
 | [],_=>none
 |(j,l)::r,i=>match Nat.beq j i with|true=>some l|false=>gj5 r i
def v7 (t:TypeId):Option Lay:=gj5 [(303,[some (.bool,512)]),(304,[some (.bool,512)]),(339,[some (.int .u8,28)])] t
def gj4:List (Nat×(Nat×List TypeId))->Nat->Option (Nat×List TypeId)
 | [],_=>none
 |(j,l)::r,i=>match Nat.beq j i with|true=>some l|false=>gj4 r i
def za4 (t:TypeId):Option (Nat×List TypeId):=gj4 [(32,(4,[0,133,0,0]))] t
def gj7:List (Nat×(TypeId×Nat))->Nat->Option (TypeId×Nat)
 | [],_=>none
 |(j,l)::r,i=>match Nat.beq j i with|true=>some l|false=>gj7 r i
def za2 (t:TypeId):Option (TypeId×Nat):=gj7 [] t
abbrev g9:Nat:=1000000000
def pzG:Nat→Nat→Pos
  |0,_=> []
  |m+1,k=>match Nat.beq k 1 with
    |true=> []
    |false=>Nat.beq (k%2) 1::pzG m (k/2)
def zb3 (k:Nat):Pos:=pzG 99 k
def ctZ (E:List (FuncId×CallSpec TT)) (p:Nat) (m:List (Nat×Nat)):Ctx TT:=⟨za3,E,p,m,v7,fun _=>none,za2⟩
abbrev nl0:Nl:=⟨[],[],[],[],[]⟩
noncomputable def zd6 (C:Ctx TT) (cuts:List (Pos×Cut)) (f:Func) (nl:Nl) (A:List Sh) (B:List PE) (R:List Sh):Nat→ze8 TT A→Option (zn9 TT B×ze8 TT R):=topG TT Tryz.prog C cuts f (k7 f) nl A B R
noncomputable def ko8 (C:Ctx TT) (cuts:List (Pos×Cut)) (f:Func) (nl:Nl) (B:List PE) (R:List Sh) (n:Nat) (p:Nat) (s:St TT):Option (zn9 TT B×ze8 TT R):=cutG TT Tryz.prog C cuts f (k7 f) nl B R n (zb3 p) s
def spZ {A:List Sh} {B:List PE} {R:List Sh} (t:Nat→ze8 TT A→Option (zn9 TT B×ze8 TT R)):GSpec TT:=⟨A,B,R,t g9⟩
def spY {A:List PT} {R:List RT} (t:Nat→zr4 TT A→Option (zt8 TT (zc5 A) (zp7 TT R))):FnSpec TT:=⟨A,R,t g9⟩
abbrev zd7 (k:FuncId) (s:GSpec TT):Prop:=GOk TT Tryz.prog k s
abbrev ze3 (k:FuncId) (s:FnSpec TT):Prop:=vr3 TT Tryz.prog k s
def okZ {C:Ctx TT} {cuts:List (Pos×Cut)} {k:FuncId} {f:Func} {nl:Nl} {A:List Sh} {B:List PE} {R:List Sh} (hE:zb1 TT Tryz.prog C.E) (hf:Tryz.prog.funcs[k]?=some f) (hb:f.body=some (k7 f):=by kernel_rfl) (hs:Nat.ble A.length f.ntmps=true:=by kernel_rfl) (hp:Nat.ble (zb9 A) C.pin=true:=by kernel_rfl) (hq:Nat.beq B.length (zb9 A)=true:=by kernel_rfl):GOk TT Tryz.prog k ⟨A,B,R,zd6 C cuts f nl A B R g9⟩:=uh6 (C:=C) (cuts:=cuts) (by kernel_rfl) hE hf hb hs hp hq fun _ _ h=>⟨g9,h⟩
noncomputable def ze2 (C:Ctx TT) (cuts:List (Pos×Cut)) (f:Func) (z:Zw) (A:List PT) (R:List RT):Nat→zr4 TT A→Option (zt8 TT (zc5 A) (zp7 TT R)):=topF TT Tryz.prog C cuts f (k7 f) z A R
noncomputable def jm9 (C:Ctx TT) (cuts:List (Pos×Cut)) (f:Func) (z:Zw) (A:List PT) (R:List RT) (n:Nat) (p:Nat) (s:St TT):Option (zt8 TT (zc5 A) (zp7 TT R)):=cutF TT Tryz.prog C cuts f (k7 f) z A R n (zb3 p) s
def okY {C:Ctx TT} {cuts:List (Pos×Cut)} {k:FuncId} {f:Func} {z:Zw} {A:List PT} {R:List RT} (hE:zb1 TT Tryz.prog C.E) (hf:Tryz.prog.funcs[k]?=some f) (hb:f.body=some (k7 f):=by kernel_rfl) (hs:Nat.ble A.length f.ntmps=true:=by kernel_rfl) (hp:Nat.ble (zc5 A).length C.pin=true:=by kernel_rfl):vr3 TT Tryz.prog k ⟨A,R,ze2 C cuts f z A R g9⟩:=gy6 (C:=C) (cuts:=cuts) (by kernel_rfl) hE hf hb hs hp fun _ _ h=>⟨g9,h⟩
abbrev ci (x:Int):AV TT.U:=.cell ⟨.int .i64,x⟩
abbrev cb (x:Bool):AV TT.U:=.cell ⟨.bool,x⟩
abbrev cu8 (x:Int):AV TT.U:=.cell ⟨.int .u8,x⟩
abbrev cu32 (x:Int):AV TT.U:=.cell ⟨.int .u32,x⟩
abbrev k8 (x:Int):AV TT.U:=.cell ⟨.int .u64,x⟩
abbrev jj2:PT:=.val (.bool)
abbrev yo7:Sh:=.val (.bool)
abbrev yz6:PT:=.val (.user 0)
abbrev yo6:PT:=.val (.user 1)
abbrev kl2:PT:=.val (.user 6)
abbrev yz8:Sh:=.val (.user 0)
abbrev qo6:Sh:=.val (.user 6)
abbrev yz7:PT:=.val (.int .u8)
abbrev yu7:Sh:=.val (.int .u8)
abbrev zi4:PT:=.val (.int .i64)
abbrev jk4:PT:=.val (.int .u32)
abbrev zi3:PT:=.val (.int .u64)
abbrev yk9:RT:=.val (.int .i64)
abbrev jk5:RT:=.val (.int .u64)
abbrev ze9:Sh:=.val (.int .i64)
abbrev jy9:PE:=.row 65 (.user 4)
abbrev vm7:PT:=.io 3 (.int .i64)
abbrev jz0:PE:=.row 133 (.user 1)
abbrev yg0:PE:=.row 3 (.int .i64)
abbrev jk6:Sh:=.slr 3 (.int .i64)
abbrev jz2:PT:=.val (.list (.bool))
abbrev yr7:PT:=.val (.list (.user 7))
abbrev qo3:PT:=.val (.list (.int .u8))
abbrev yx4:PE:=.blk 37 [.val (.int .u64)]
abbrev yx5:PE:=.blk 205 [.val (.int .u32)]
abbrev yx7:Sh:=.ptr 0 37 [.val (.int .u64)]
abbrev yx8:Sh:=.ptr 0 205 [.val (.int .u32)]
abbrev yx6:PE:=.blk 63 [.val (.list (.bool))]
abbrev jz1:PE:=.blk 22 [.val (.list (.user 2))]
abbrev jz3:Sh:=.ptr 0 63 [.val (.list (.bool))]
abbrev qo4:Sh:=.ptr 0 22 [.val (.list (.user 2))]
abbrev vm8:Sh:=.agg [.val (.bool),.own 2,.val (.list (.bool)),.val (.int .i64)]
abbrev jk7:Sh:=.agg [.val (.bool),.row 133 (.user 1),.val (.list (.bool)),.val (.int .i64)]
abbrev gg9:PE:=.blk 58 [.val (.list (.user 2)),.own 1,.val (.int .i64),.row 48 (.user 7),.own 3]
abbrev gh0:PE:=.blk 58 [.val (.list (.user 2)),.own 2,.val (.int .i64),.row 48 (.user 7),.own 4]
abbrev qo5:Sh:=.ptr 0 58 [.val (.list (.user 2)),.row 65 (.user 4),.val (.int .i64),.row 48 (.user 7),.row 3 (.int .i64)]
abbrev gh1:PE:=.blk 119 [.val (.list (.user 2)),.own 1,.val (.int .i64),.val (.bool),.own 2,.val (.list (.bool)),.val (.int .i64)]
abbrev gh2:Sh:=.ptr 0 55 [.ptr 0 58 [.val (.list (.user 2)),.row 65 (.user 4),.val (.int .i64),.row 48 (.user 7),.row 3 (.int .i64)]]
abbrev yl0:Sh:=.ptr 0 119 [.val (.list (.user 2)),.dr 65 4 [0,133,0,0],.val (.int .i64),.val (.bool),.row 133 (.user 1),.val (.list (.bool)),.val (.int .i64)]
abbrev zk0:List RT:= [.val (.bool)]
abbrev ye0:List Sh:= [yo7]
abbrev ja7:List PT:= [kl2]
abbrev yd9:List RT:= [.val (.user 0)]
abbrev ye1:List Sh:= [yz8]
abbrev yp6:List Sh:= [qo6]
abbrev yp5:List RT:= [yk9]
abbrev kl7:List Sh:= [.row 304 (.bool)]
abbrev jo8:List Sh:= [ze9]
abbrev yl4:List Sh:= [.val (.int .u32)]
abbrev zw4:List Sh:= [.val (.int .u64)]
abbrev vn7:List RT:= [.val (.list (.bool))]
abbrev qp6:List Sh:= [.val (.list (.bool))]
abbrev jz9:List PT:= [.val (.list (.user 2))]
abbrev qa0:List PT:= [yz6,yz6]
abbrev yg5:List Sh:= [yz8,yz8]
abbrev jl1:List Sh:= [qo6,yu7]
abbrev gi8:List RT:= [.own 48 (.user 7),.val (.user 3)]
abbrev qa1:List RT:= [jk5,yk9]
abbrev gi9:List Sh:= [.lpk (.bool) 0 0,ze9,ze9]
abbrev ys4:List PE:= [yx4,yx4]
abbrev ys5:List PE:= [yx5,yx5]
abbrev ys7:List Sh:= [yx7,yx7]
abbrev ys8:List Sh:= [yx8,yx8]
abbrev vn6:List PT:= [yz7,jj2,zi3,zi3]
abbrev gj0:List Sh:= [.ptr 0 304 [.arr (.bool) 512],ze9,ze9]
abbrev gi6:List PE:= [jz1,.blk 63 [.own 2],.row 4 (.bool)]
abbrev vn3:List PE:= [yx4,yx4,yx4]
abbrev jl0:List PE:= [yx6,.blk 2 [.val (.int .i64)],.blk 3 [.val (.int .i64)]]
abbrev vn4:List PE:= [yx5,yx5,yx5]
abbrev vn8:List Sh:= [yx7,yx7,yx7]
abbrev qp7:List Sh:= [jz3,.ptr 0 2 [.val (.int .i64)],.ptr 0 3 [.val (.int .i64)]]
abbrev vn9:List Sh:= [yx8,yx8,yx8]
abbrev qa2:List Sh:= [qo5,.val (.user 2)]
abbrev ys6:List PE:= [gg9,jy9,.gone,yg0]
abbrev zm1:List PE:= [gh1,.dr 65 4 [0,133,0,0],jz0]
abbrev zy1:List Sh:= [yl0,.val (.user 2)]
abbrev gi7:List PE:= [.blk 179 [.fn 103 [] [.at_ 1 0],.fn 106 [] [.at_ 1 0],.fn 107 [] [.at_ 1 0],.fn 108 [] [.at_ 1 0,.at_ 2 0]],jz1,.blk 63 [.own 3],.row 4 (.bool)]
abbrev qp5:List PE:= [gh1,.dr 65 4 [0,133,0,0],jz0,jz0]
abbrev yb9:List Sh:= [.agg [.val (.int .u8),.val (.int .u8),.val (.bool),.val (.int .i64),.val (.int .i64),.val (.int .i64),.val (.int .u64),.val (.int .i64),.val (.int .i64),.val (.int .i64),.val (.int .i64)]]
abbrev vo0:List Sh:= [gh2,.ptr 0 53 [.val (.int .u8),.val (.bool),.val (.int .i64),.val (.int .i64),.val (.bool),.val (.int .i64),.val (.int .i64),.val (.int .i64)]]
abbrev vn5:List PE:= [.blk 55 [.at_ 1 0],gh0,jy9,.gone,yg0,.blk 53 [.val (.int .u8),.val (.bool),.val (.int .i64),.val (.int .i64),.val (.bool),.val (.int .i64),.val (.int .i64),.val (.int .i64)]]
abbrev tZ0:=Option (Int)
abbrev tZ1:=Option (Bool)
abbrev tZ2:=Option (((List Ins×Unit)×Unit)×(Int×Unit))
abbrev tZ3:=Option (List Int×Unit)
abbrev tZ4:=Option ((List Int×Unit)×(Unit))
abbrev tZ5:=Option ((List Int×Unit)×((Nat×Nat)×Unit))
abbrev tZ6:=Option ((Unit)×((List Int×Nat×Nat)×Unit))
abbrev tZ7:=Option (((List Ins×Unit)×(Unit×Unit)×List Bool×Unit)×(Int×Unit))
abbrev tZ8:=Option (((((Unit)×(Unit×Unit))×((Unit)×(Unit×Unit))×((Unit)×(Unit×Unit))×((Unit)×(Unit×Unit×Unit))×Unit)×(List Ins×Unit)×(Unit×Unit)×List Bool×Unit)×(Fault×Unit))
abbrev tZ9:=Option (List Bool)
abbrev gp1:=Option ((Unit)×((List Bool×Unit)⊕(Int×Unit)))
abbrev tZ11:=Option (((List Bool×Unit)×(Int×Unit)×(Int×Unit)×Unit)×((Bool×Unit)⊕(Int×Unit)))
abbrev ue9:=Option ((Int×Unit)×Unit)
abbrev tZ13:=Option (((List Bool×Unit)×(List Bool×Unit)×Unit)×((List Bool×Unit)⊕(Int×Unit)))
abbrev wh7:=Option (((List Bool×Unit)×Unit)×(((Nat×Nat)×Unit)⊕(Int×Unit)))
abbrev tZ15:=Option (((List Bool×Unit)×(Int×Unit)×(Int×Unit)×Unit)×((List Bool×Unit)⊕(Int×Unit)))
abbrev ji8:=Option (Span)
abbrev uf0:=Option (Known)
abbrev qn5:=Option ((Unit)×((Span×Unit)⊕(Unit×Unit)))
abbrev tZ19:=Option ((Bool×Unit)×(Int×Int×Unit)×Unit)
abbrev vy9:=Option (Int×Int)
abbrev ji9:=Option (((Int×Unit)×(Int×Unit)×Unit)×(Int×Unit))
abbrev gp2:=Option (((Int×Unit)×(Int×Unit)×(Int×Unit)×Unit)×(Int×Unit))
abbrev uf1:=Option (((Int×Unit)×Unit)×(Int×Unit))
abbrev vd5:=Option (Known×Int)
abbrev gp3:=Option ((Unit)×(((Unit)×(Unit))×Unit))
abbrev tZ26:=Option ((Unit)×((Unit)⊕(Int×Unit)))
abbrev wh8:=Option (((List Ins×Unit×Int×Bool×Unit×List Bool×Int×Unit)×List Place×List Known×Unit)×(Unit))
abbrev qb9:=Option (((List Ins×Unit×Int×Bool×Unit×List Bool×Int×Unit)×List Place×List Known×Unit)×((Unit)⊕(Int×Unit)))
abbrev qn6:=Option ((Unit)×((Span×Span×Unit)⊕(Unit×Unit)))
abbrev tZ30:=Option ((Int×Int×Unit)×(Int×Int×Unit)×(Bool×Unit)×Unit)
abbrev tZ31:=Option ((Unit)×(Span×Span×Bool×Unit))
abbrev uf2:=Option (((List Ins×Unit×Int×Bool×Unit×List Bool×Int×Unit)×List Place×List Known×List Known×Unit)×(Unit))
abbrev wh9:=Option ((Unit)×(List Place×Fault×Unit))
abbrev vz0:=Option (((List Ins×Unit×Int×List Flat×Unit×Unit)×List Place×Unit×List Int×Unit)×(Unit))
abbrev tZ35:=Option (((Unit×Unit)×(List Ins×Unit×Int×List Flat×Unit×Unit)×List Place×Unit×List Int×(Int×Bool×Int×Int×Bool×Int×Int×Int×Unit)×Unit)×(Unit))
abbrev gp4:=Option (List Flat×Fault)
abbrev vd6:=Option ((Unit)×(Bool×Unit))
end Go.X
