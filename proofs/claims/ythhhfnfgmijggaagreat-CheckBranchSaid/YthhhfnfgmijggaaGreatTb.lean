import Derived.Test.YthhhfnfgmijggaaGreatXN
import Derived.Test.YthhhfnfgmijggaaGreatX22
import Derived.Test.YthhhfnfgmijggaaGreatProg
namespace Go.X
open Go.RowKit Go.V Go.Proofs
def j5 (f:Func):Code:=match f.body with|some c=>c|none=>.skip
structure Span where
 Lo:Int
 Hi:Int
def ur2:Span:=⟨(0:Int),(0:Int)⟩
structure Known where
 Kind:Int
 In_Lo:Int
 In_Hi:Int
def v8:Known:=⟨(0:Int),(0:Int),(0:Int)⟩
structure Ins where
 Op:Int
 Narrow:Bool
 Dst:Int
 Src:Int
 UseImm:Bool
 Off:Int
 Imm:Int
 Size:Int
def zb2:Ins:=⟨(0:Int),false,(0:Int),(0:Int),false,(0:Int),(0:Int),(0:Int)⟩
structure Fault where
 Err:Int
 At:Int
def uc2:Fault:=⟨(0:Int),(0:Int)⟩
structure Place where
 Live:Bool
 Regs:List Known
 Bytes:List Bool
 Least:Int
def v6:Place:=⟨false,([]:List Known),([]:List Bool),(0:Int)⟩
structure RVal where
 Kind:Int
 N:Int
def uo9:RVal:=⟨(0:Int),(0:Int)⟩
structure Work where
 a_Lo:Int
 a_Hi:Int
 b_Lo:Int
 b_Hi:Int
 narrow:Bool
 most:Int
 size:Int
def uo7:Work:=⟨(0:Int),(0:Int),(0:Int),(0:Int),false,(0:Int),(0:Int)⟩
def UU:Nat->Type
 |0=>Span
 |1=>Known
 |2=>Ins
 |3=>Fault
 |4=>Place
 |5=>RVal
 |6=>Work
 |_=>Unit
def Span.cs (x:Span):List (Cell UU):= [⟨.int .u64,x.Lo⟩,⟨.int .u64,x.Hi⟩]
def Span.of:List (Cell UU)->Option Span
 | [c0,c1]=>match c0.as (.int .u64),c1.as (.int .u64) with
  |some a0,some a1=>some ⟨a0,a1⟩
  |_,_=>none
 |_=>none
theorem Span.of_cs (cs:List (Cell UU)) (x:Span) (h:Span.of cs=some x):x.cs=cs:=by
 unfold Span.of at h;split at h
 ·split at h
  ·rename_i h0 h1;simp only [X0] at h;subst h;rw [Span.cs,Cell.as_eq h0,Cell.as_eq h1]
  ·cases h
 ·cases h
def Known.cs (x:Known):List (Cell UU):= [⟨.int .u8,x.Kind⟩,⟨.int .u64,x.In_Lo⟩,⟨.int .u64,x.In_Hi⟩]
def Known.of:List (Cell UU)->Option Known
 | [c0,c1,c2]=>match c0.as (.int .u8),c1.as (.int .u64),c2.as (.int .u64) with
  |some a0,some a1,some a2=>some ⟨a0,a1,a2⟩
  |_,_,_=>none
 |_=>none
theorem Known.of_cs (cs:List (Cell UU)) (x:Known) (h:Known.of cs=some x):x.cs=cs:=by
 unfold Known.of at h;split at h
 ·split at h
  ·rename_i h0 h1 h2;simp only [X0] at h;subst h;rw [Known.cs,Cell.as_eq h0,Cell.as_eq h1,Cell.as_eq h2]
  ·cases h
 ·cases h
def Ins.cs (x:Ins):List (Cell UU):= [⟨.int .u8,x.Op⟩,⟨.bool,x.Narrow⟩,⟨.int .i64,x.Dst⟩,⟨.int .i64,x.Src⟩,⟨.bool,x.UseImm⟩,⟨.int .i64,x.Off⟩,⟨.int .i64,x.Imm⟩,⟨.int .i64,x.Size⟩]
def Ins.of:List (Cell UU)->Option Ins
 | [c0,c1,c2,c3,c4,c5,c6,c7]=>match c0.as (.int .u8),c1.as (.bool),c2.as (.int .i64),c3.as (.int .i64),c4.as (.bool),c5.as (.int .i64),c6.as (.int .i64),c7.as (.int .i64) with
  |some a0,some a1,some a2,some a3,some a4,some a5,some a6,some a7=>some ⟨a0,a1,a2,a3,a4,a5,a6,a7⟩
  |_,_,_,_,_,_,_,_=>none
 |_=>none
theorem Ins.of_cs (cs:List (Cell UU)) (x:Ins) (h:Ins.of cs=some x):x.cs=cs:=by
 unfold Ins.of at h;split at h
 ·split at h
  ·rename_i h0 h1 h2 h3 h4 h5 h6 h7;simp only [X0] at h;subst h;rw [Ins.cs,Cell.as_eq h0,Cell.as_eq h1,Cell.as_eq h2,Cell.as_eq h3,Cell.as_eq h4,Cell.as_eq h5,Cell.as_eq h6,Cell.as_eq h7]
  ·cases h
 ·cases h
def Fault.cs (x:Fault):List (Cell UU):= [⟨.int .i64,x.Err⟩,⟨.int .i64,x.At⟩]
def Fault.of:List (Cell UU)->Option Fault
 | [c0,c1]=>match c0.as (.int .i64),c1.as (.int .i64) with
  |some a0,some a1=>some ⟨a0,a1⟩
  |_,_=>none
 |_=>none
theorem Fault.of_cs (cs:List (Cell UU)) (x:Fault) (h:Fault.of cs=some x):x.cs=cs:=by
 unfold Fault.of at h;split at h
 ·split at h
  ·rename_i h0 h1;simp only [X0] at h;subst h;rw [Fault.cs,Cell.as_eq h0,Cell.as_eq h1]
  ·cases h
 ·cases h
def Place.cs (x:Place):List (Cell UU):= [⟨.bool,x.Live⟩,⟨.list (.user 1),x.Regs⟩,⟨.list (.bool),x.Bytes⟩,⟨.int .i64,x.Least⟩]
def Place.of:List (Cell UU)->Option Place
 | [c0,c1,c2,c3]=>match c0.as (.bool),c1.as (.list (.user 1)),c2.as (.list (.bool)),c3.as (.int .i64) with
  |some a0,some a1,some a2,some a3=>some ⟨a0,a1,a2,a3⟩
  |_,_,_,_=>none
 |_=>none
theorem Place.of_cs (cs:List (Cell UU)) (x:Place) (h:Place.of cs=some x):x.cs=cs:=by
 unfold Place.of at h;split at h
 ·split at h
  ·rename_i h0 h1 h2 h3;simp only [X0] at h;subst h;rw [Place.cs,Cell.as_eq h0,Cell.as_eq h1,Cell.as_eq h2,Cell.as_eq h3]
  ·cases h
 ·cases h
def RVal.cs (x:RVal):List (Cell UU):= [⟨.int .u8,x.Kind⟩,⟨.int .u64,x.N⟩]
def RVal.of:List (Cell UU)->Option RVal
 | [c0,c1]=>match c0.as (.int .u8),c1.as (.int .u64) with
  |some a0,some a1=>some ⟨a0,a1⟩
  |_,_=>none
 |_=>none
theorem RVal.of_cs (cs:List (Cell UU)) (x:RVal) (h:RVal.of cs=some x):x.cs=cs:=by
 unfold RVal.of at h;split at h
 ·split at h
  ·rename_i h0 h1;simp only [X0] at h;subst h;rw [RVal.cs,Cell.as_eq h0,Cell.as_eq h1]
  ·cases h
 ·cases h
def Work.cs (x:Work):List (Cell UU):= [⟨.int .u64,x.a_Lo⟩,⟨.int .u64,x.a_Hi⟩,⟨.int .u64,x.b_Lo⟩,⟨.int .u64,x.b_Hi⟩,⟨.bool,x.narrow⟩,⟨.int .u64,x.most⟩,⟨.int .u64,x.size⟩]
def Work.of:List (Cell UU)->Option Work
 | [c0,c1,c2,c3,c4,c5,c6]=>match c0.as (.int .u64),c1.as (.int .u64),c2.as (.int .u64),c3.as (.int .u64),c4.as (.bool),c5.as (.int .u64),c6.as (.int .u64) with
  |some a0,some a1,some a2,some a3,some a4,some a5,some a6=>some ⟨a0,a1,a2,a3,a4,a5,a6⟩
  |_,_,_,_,_,_,_=>none
 |_=>none
theorem Work.of_cs (cs:List (Cell UU)) (x:Work) (h:Work.of cs=some x):x.cs=cs:=by
 unfold Work.of at h;split at h
 ·split at h
  ·rename_i h0 h1 h2 h3 h4 h5 h6;simp only [X0] at h;subst h;rw [Work.cs,Cell.as_eq h0,Cell.as_eq h1,Cell.as_eq h2,Cell.as_eq h3,Cell.as_eq h4,Cell.as_eq h5,Cell.as_eq h6]
  ·cases h
 ·cases h
def TT:Tab where
 U:=UU
 d:=fun i=>match i with
  |0=>ur2
  |1=>v8
  |2=>zb2
  |3=>uc2
  |4=>v6
  |5=>uo9
  |6=>uo7
  |_+7=>()
 size:=fun i=>match i with
  |0=>2
  |1=>3
  |2=>8
  |3=>2
  |4=>4
  |5=>2
  |6=>7
  |_+7=>0
 cells:=fun i=>match i with
  |0=>Span.cs
  |1=>Known.cs
  |2=>Ins.cs
  |3=>Fault.cs
  |4=>Place.cs
  |5=>RVal.cs
  |6=>Work.cs
  |_+7=>fun _=> []
 len:=fun i=>match i with
  |0=>fun _=>rfl
  |1=>fun _=>rfl
  |2=>fun _=>rfl
  |3=>fun _=>rfl
  |4=>fun _=>rfl
  |5=>fun _=>rfl
  |6=>fun _=>rfl
  |_+7=>fun _=>rfl
 pack:=fun i=>match i with
  |0=>Span.of
  |1=>Known.of
  |2=>Ins.of
  |3=>Fault.of
  |4=>Place.of
  |5=>RVal.of
  |6=>Work.of
  |_+7=>fun cl=>match cl with| []=>some ()|_::_=>none
 packed:=fun i=>match i with
  |0=>Span.of_cs
  |1=>Known.of_cs
  |2=>Ins.of_cs
  |3=>Fault.of_cs
  |4=>Place.of_cs
  |5=>RVal.of_cs
  |6=>Work.of_cs
  |_+7=>fun cl x h=>by cases cl with|nil=>rfl|cons a r=>cases h
 scal:=fun i=>match i with
  |0=>true
  |1=>true
  |2=>true
  |3=>true
  |4=>false
  |5=>true
  |6=>true
  |_+7=>true
 scals:=fun i=>match i with
  |0=>fun x _ c hc=>by simp only [Span.cs,Z0,List.not_mem_nil,or_false] at hc;rcases hc with rfl|rfl<;>rfl
  |1=>fun x _ c hc=>by simp only [Known.cs,Z0,List.not_mem_nil,or_false] at hc;rcases hc with rfl|rfl|rfl<;>rfl
  |2=>fun x _ c hc=>by simp only [Ins.cs,Z0,List.not_mem_nil,or_false] at hc;rcases hc with rfl|rfl|rfl|rfl|rfl|rfl|rfl|rfl<;>rfl
  |3=>fun x _ c hc=>by simp only [Fault.cs,Z0,List.not_mem_nil,or_false] at hc;rcases hc with rfl|rfl<;>rfl
  |4=>fun _ h=>by cases h
  |5=>fun x _ c hc=>by simp only [RVal.cs,Z0,List.not_mem_nil,or_false] at hc;rcases hc with rfl|rfl<;>rfl
  |6=>fun x _ c hc=>by simp only [Work.cs,Z0,List.not_mem_nil,or_false] at hc;rcases hc with rfl|rfl|rfl|rfl|rfl|rfl|rfl<;>rfl
  |_+7=>fun _ _ c hc=>by cases hc
def wg1:List (Nat×Ty)->Nat->Option Ty
 | [],_=>none
 |(j,t)::r,i=>match Nat.beq j i with|true=>some t|false=>wg1 r i
def za5 (t:TypeId):Option Ty:=wg1 [(22,.user 2),(23,.int .u8),(25,.user 4),(34,.user 1),(35,.bool),(67,.user 5),(95,.int .i64)] t
def ga7:List (Nat×Lay)->Nat->Option Lay
 | [],_=>none
 |(j,l)::r,i=>match Nat.beq j i with|true=>some l|false=>ga7 r i
def k9 (t:TypeId):Option Lay:=ga7 [(84,[some (.int .u8,512)]),(85,[some (.bool,512)]),(87,[none,none,none,none,none,none,none,none,none,none,none,none,none,none,none,none,none,none,none,none,none,none,some (.int .u8,512),some (.bool,512),none,none,none]),(88,[none,none,none,none,none,none,none,none,none,none,none,none,none,none,none,none,none,none,none,none,none,none,some (.int .u8,512),some (.bool,512),none,none,none]),(157,[some (.bool,512)]),(204,[some (.int .u8,28)]),(213,[some (.bool,9)])] t
def gd8:List (Nat×(Nat×List TypeId))->Nat->Option (Nat×List TypeId)
 | [],_=>none
 |(j,l)::r,i=>match Nat.beq j i with|true=>some l|false=>gd8 r i
def za6 (t:TypeId):Option (Nat×List TypeId):=gd8 [(25,(4,[0,59,0,0]))] t
abbrev v9:Nat:=1000000000
end Go.X
