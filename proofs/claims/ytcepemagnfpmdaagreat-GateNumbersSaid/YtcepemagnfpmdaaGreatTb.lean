import Derived.Test.YtcepemagnfpmdaaGreatXN
import Derived.Test.YtcepemagnfpmdaaGreatAB
import Derived.Test.YtcepemagnfpmdaaGreatAC
import Derived.Test.YtcepemagnfpmdaaGreatProg
set_option linter.defProp false
namespace Go.X
open Go.RowKit Go.V Go.Proofs
def z9 (f:Func):Code:=match f.body with|some c=>c|none=>.skip
structure Span where
 Lo:Int
 Hi:Int
def gw9:Span:=⟨(0:Int),(0:Int)⟩
structure Known where
 Kind:Int
 In_Lo:Int
 In_Hi:Int
def vx3:Known:=⟨(0:Int),(0:Int),(0:Int)⟩
structure Ins where
 Op:Int
 Narrow:Bool
 Dst:Int
 Src:Int
 UseImm:Bool
 Off:Int
 Imm:Int
 Size:Int
def wa3:Ins:=⟨(0:Int),false,(0:Int),(0:Int),false,(0:Int),(0:Int),(0:Int)⟩
structure Fault where
 Err:Int
 At:Int
def gd8:Fault:=⟨(0:Int),(0:Int)⟩
structure Place where
 Live:Bool
 Regs:List Known
 Bytes:List Bool
 Least:Int
def gd9:Place:=⟨false,([]:List Known),([]:List Bool),(0:Int)⟩
structure Flat where
 Do:Int
 What:Int
 Narrow:Bool
 D:Int
 A:Int
 B:Int
 N:Int
 Size:Int
 To:Int
def gw7:Flat:=⟨(0:Int),(0:Int),false,(0:Int),(0:Int),(0:Int),(0:Int),(0:Int),(0:Int)⟩
structure Outcome where
 Err:Int
 At:Int
 Verdict:Int
 Steps:Int
def vs1:Outcome:=⟨(0:Int),(0:Int),(0:Int),(0:Int)⟩
structure RVal where
 Kind:Int
 N:Int
def gw8:RVal:=⟨(0:Int),(0:Int)⟩
def UU:Nat->Type
 |0=>Span
 |1=>Known
 |2=>Ins
 |3=>Fault
 |4=>Place
 |5=>Flat
 |6=>Outcome
 |7=>RVal
 |_=>Unit
def Span.cs (x:Span):List (Cell UU):= [⟨.int .u64,x.Lo⟩,⟨.int .u64,x.Hi⟩]
def Span.of:List (Cell UU)->Option Span
 | [c0,c1]=>match c0.as (.int .u64),c1.as (.int .u64) with
  |some a0,some a1=>some ⟨a0,a1⟩
  |_,_=>none
 |_=>none
def Span.of_cs (cs:List (Cell UU)) (x:Span) (h:Span.of cs=some x):x.cs=cs:=by
 unfold Span.of at h;split at h
 ·split at h
  ·rename_i h0 h1;simp only [X0] at h;subst h;rw [Span.cs,Cell.as_eq h0,Cell.as_eq h1]
  ·cases h
 ·cases h
def Known.cs (x:Known):List (Cell UU):= [⟨.int .u8,x.Kind⟩,⟨.int .u64,x.In_Lo⟩,⟨.int .u64,x.In_Hi⟩]
def Known.of:List (Cell UU)->Option Known
 | [c0,c1,c2]=>match c0.as (.int .u8),c1.as (.int .u64),c2.as (.int .u64) with
  |some a0,some a1,some a2=>some ⟨a0,a1,a2⟩
  |_,_,_=>none
 |_=>none
def Known.of_cs (cs:List (Cell UU)) (x:Known) (h:Known.of cs=some x):x.cs=cs:=by
 unfold Known.of at h;split at h
 ·split at h
  ·rename_i h0 h1 h2;simp only [X0] at h;subst h;rw [Known.cs,Cell.as_eq h0,Cell.as_eq h1,Cell.as_eq h2]
  ·cases h
 ·cases h
def Ins.cs (x:Ins):List (Cell UU):= [⟨.int .u8,x.Op⟩,⟨.bool,x.Narrow⟩,⟨.int .i64,x.Dst⟩,⟨.int .i64,x.Src⟩,⟨.bool,x.UseImm⟩,⟨.int .i64,x.Off⟩,⟨.int .i64,x.Imm⟩,⟨.int .i64,x.Size⟩]
def Ins.of:List (Cell UU)->Option Ins
 | [c0,c1,c2,c3,c4,c5,c6,c7]=>match c0.as (.int .u8),c1.as (.bool),c2.as (.int .i64),c3.as (.int .i64),c4.as (.bool),c5.as (.int .i64),c6.as (.int .i64),c7.as (.int .i64) with
  |some a0,some a1,some a2,some a3,some a4,some a5,some a6,some a7=>some ⟨a0,a1,a2,a3,a4,a5,a6,a7⟩
  |_,_,_,_,_,_,_,_=>none
 |_=>none
def Ins.of_cs (cs:List (Cell UU)) (x:Ins) (h:Ins.of cs=some x):x.cs=cs:=by
 unfold Ins.of at h;split at h
 ·split at h
  ·rename_i h0 h1 h2 h3 h4 h5 h6 h7;simp only [X0] at h;subst h;rw [Ins.cs,Cell.as_eq h0,Cell.as_eq h1,Cell.as_eq h2,Cell.as_eq h3,Cell.as_eq h4,Cell.as_eq h5,Cell.as_eq h6,Cell.as_eq h7]
  ·cases h
 ·cases h
def Fault.cs (x:Fault):List (Cell UU):= [⟨.int .i64,x.Err⟩,⟨.int .i64,x.At⟩]
def Fault.of:List (Cell UU)->Option Fault
 | [c0,c1]=>match c0.as (.int .i64),c1.as (.int .i64) with
  |some a0,some a1=>some ⟨a0,a1⟩
  |_,_=>none
 |_=>none
def Fault.of_cs (cs:List (Cell UU)) (x:Fault) (h:Fault.of cs=some x):x.cs=cs:=by
 unfold Fault.of at h;split at h
 ·split at h
  ·rename_i h0 h1;simp only [X0] at h;subst h;rw [Fault.cs,Cell.as_eq h0,Cell.as_eq h1]
  ·cases h
 ·cases h
def Place.cs (x:Place):List (Cell UU):= [⟨.bool,x.Live⟩,⟨.list (.user 1),x.Regs⟩,⟨.list (.bool),x.Bytes⟩,⟨.int .i64,x.Least⟩]
def Place.of:List (Cell UU)->Option Place
 | [c0,c1,c2,c3]=>match c0.as (.bool),c1.as (.list (.user 1)),c2.as (.list (.bool)),c3.as (.int .i64) with
  |some a0,some a1,some a2,some a3=>some ⟨a0,a1,a2,a3⟩
  |_,_,_,_=>none
 |_=>none
def Place.of_cs (cs:List (Cell UU)) (x:Place) (h:Place.of cs=some x):x.cs=cs:=by
 unfold Place.of at h;split at h
 ·split at h
  ·rename_i h0 h1 h2 h3;simp only [X0] at h;subst h;rw [Place.cs,Cell.as_eq h0,Cell.as_eq h1,Cell.as_eq h2,Cell.as_eq h3]
  ·cases h
 ·cases h
def Flat.cs (x:Flat):List (Cell UU):= [⟨.int .u8,x.Do⟩,⟨.int .u8,x.What⟩,⟨.bool,x.Narrow⟩,⟨.int .i64,x.D⟩,⟨.int .i64,x.A⟩,⟨.int .i64,x.B⟩,⟨.int .u64,x.N⟩,⟨.int .i64,x.Size⟩,⟨.int .i64,x.To⟩]
def Flat.of:List (Cell UU)->Option Flat
 | [c0,c1,c2,c3,c4,c5,c6,c7,c8]=>match c0.as (.int .u8),c1.as (.int .u8),c2.as (.bool),c3.as (.int .i64),c4.as (.int .i64),c5.as (.int .i64),c6.as (.int .u64),c7.as (.int .i64),c8.as (.int .i64) with
  |some a0,some a1,some a2,some a3,some a4,some a5,some a6,some a7,some a8=>some ⟨a0,a1,a2,a3,a4,a5,a6,a7,a8⟩
  |_,_,_,_,_,_,_,_,_=>none
 |_=>none
def Flat.of_cs (cs:List (Cell UU)) (x:Flat) (h:Flat.of cs=some x):x.cs=cs:=by
 unfold Flat.of at h;split at h
 ·split at h
  ·rename_i h0 h1 h2 h3 h4 h5 h6 h7 h8;simp only [X0] at h;subst h;rw [Flat.cs,Cell.as_eq h0,Cell.as_eq h1,Cell.as_eq h2,Cell.as_eq h3,Cell.as_eq h4,Cell.as_eq h5,Cell.as_eq h6,Cell.as_eq h7,Cell.as_eq h8]
  ·cases h
 ·cases h
def Outcome.cs (x:Outcome):List (Cell UU):= [⟨.int .i64,x.Err⟩,⟨.int .i64,x.At⟩,⟨.int .u64,x.Verdict⟩,⟨.int .i64,x.Steps⟩]
def Outcome.of:List (Cell UU)->Option Outcome
 | [c0,c1,c2,c3]=>match c0.as (.int .i64),c1.as (.int .i64),c2.as (.int .u64),c3.as (.int .i64) with
  |some a0,some a1,some a2,some a3=>some ⟨a0,a1,a2,a3⟩
  |_,_,_,_=>none
 |_=>none
def Outcome.of_cs (cs:List (Cell UU)) (x:Outcome) (h:Outcome.of cs=some x):x.cs=cs:=by
 unfold Outcome.of at h;split at h
 ·split at h
  ·rename_i h0 h1 h2 h3;simp only [X0] at h;subst h;rw [Outcome.cs,Cell.as_eq h0,Cell.as_eq h1,Cell.as_eq h2,Cell.as_eq h3]
  ·cases h
 ·cases h
def RVal.cs (x:RVal):List (Cell UU):= [⟨.int .u8,x.Kind⟩,⟨.int .u64,x.N⟩]
def RVal.of:List (Cell UU)->Option RVal
 | [c0,c1]=>match c0.as (.int .u8),c1.as (.int .u64) with
  |some a0,some a1=>some ⟨a0,a1⟩
  |_,_=>none
 |_=>none
def RVal.of_cs (cs:List (Cell UU)) (x:RVal) (h:RVal.of cs=some x):x.cs=cs:=by
 unfold RVal.of at h;split at h
 ·split at h
  ·rename_i h0 h1;simp only [X0] at h;subst h;rw [RVal.cs,Cell.as_eq h0,Cell.as_eq h1]
  ·cases h
 ·cases h
def TT:Tab where
 U:=UU
 d:=fun i=>match i with
  |0=>gw9
  |1=>vx3
  |2=>wa3
  |3=>gd8
  |4=>gd9
  |5=>gw7
  |6=>vs1
  |7=>gw8
  |_+8=>()
 size:=fun i=>match i with
  |0=>2
  |1=>3
  |2=>8
  |3=>2
  |4=>4
  |5=>9
  |6=>4
  |7=>2
  |_+8=>0
 cells:=fun i=>match i with
  |0=>Span.cs
  |1=>Known.cs
  |2=>Ins.cs
  |3=>Fault.cs
  |4=>Place.cs
  |5=>Flat.cs
  |6=>Outcome.cs
  |7=>RVal.cs
  |_+8=>fun _=> []
 len:=fun i=>match i with
  |0=>fun _=>rfl
  |1=>fun _=>rfl
  |2=>fun _=>rfl
  |3=>fun _=>rfl
  |4=>fun _=>rfl
  |5=>fun _=>rfl
  |6=>fun _=>rfl
  |7=>fun _=>rfl
  |_+8=>fun _=>rfl
 pack:=fun i=>match i with
  |0=>Span.of
  |1=>Known.of
  |2=>Ins.of
  |3=>Fault.of
  |4=>Place.of
  |5=>Flat.of
  |6=>Outcome.of
  |7=>RVal.of
  |_+8=>fun cl=>match cl with| []=>some ()|_::_=>none
 packed:=fun i=>match i with
  |0=>Span.of_cs
  |1=>Known.of_cs
  |2=>Ins.of_cs
  |3=>Fault.of_cs
  |4=>Place.of_cs
  |5=>Flat.of_cs
  |6=>Outcome.of_cs
  |7=>RVal.of_cs
  |_+8=>fun cl x h=>by cases cl with|nil=>rfl|cons a r=>cases h
 scal:=fun i=>match i with
  |0=>true
  |1=>true
  |2=>true
  |3=>true
  |4=>false
  |5=>true
  |6=>true
  |7=>true
  |_+8=>true
 scals:=fun i=>match i with
  |0=>fun x _ c hc=>by simp only [Span.cs,Z0,K4,or_false] at hc;rcases hc with rfl|rfl<;>rfl
  |1=>fun x _ c hc=>by simp only [Known.cs,Z0,K4,or_false] at hc;rcases hc with rfl|rfl|rfl<;>rfl
  |2=>fun x _ c hc=>by simp only [Ins.cs,Z0,K4,or_false] at hc;rcases hc with rfl|rfl|rfl|rfl|rfl|rfl|rfl|rfl<;>rfl
  |3=>fun x _ c hc=>by simp only [Fault.cs,Z0,K4,or_false] at hc;rcases hc with rfl|rfl<;>rfl
  |4=>fun _ h=>by cases h
  |5=>fun x _ c hc=>by simp only [Flat.cs,Z0,K4,or_false] at hc;rcases hc with rfl|rfl|rfl|rfl|rfl|rfl|rfl|rfl|rfl<;>rfl
  |6=>fun x _ c hc=>by simp only [Outcome.cs,Z0,K4,or_false] at hc;rcases hc with rfl|rfl|rfl|rfl<;>rfl
  |7=>fun x _ c hc=>by simp only [RVal.cs,Z0,K4,or_false] at hc;rcases hc with rfl|rfl<;>rfl
  |_+8=>fun _ _ c hc=>by cases hc
 fe:=fun i=>match i with
  |0=> []
  |1=> []
  |2=> []
  |3=> []
  |4=> [0,149,4,0]
  |5=> []
  |6=> []
  |7=> []
  |_+8=> []
def gb0:List (Nat×Ty)->Nat->Option Ty
 | [],_=>none
 |(j,t)::r,i=>match Nat.beq j i with|true=>some t|false=>gb0 r i
def k9 (t:TypeId):Option Ty:=gb0 [(22,.int .u8),(38,.user 2),(46,.int .i64),(67,.user 5),(80,.user 4),(99,.user 1),(100,.bool),(137,.user 7)] t
def vy5:List (Nat×Lay)->Nat->Option Lay
 | [],_=>none
 |(j,l)::r,i=>match Nat.beq j i with|true=>some l|false=>vy5 r i
def q7 (t:TypeId):Option Lay:=vy5 [(120,[some (.int .u64,16)]),(121,[some (.int .u64,16)]),(122,[some (.int .u8,512)]),(123,[some (.int .u64,16),some (.int .u8,512),none,none,none,none]),(124,[some (.int .u64,16),some (.int .u8,512),none,none,none,none]),(235,[some (.bool,512)]),(236,[some (.bool,512)]),(293,[some (.int .u8,28)]),(305,[some (.bool,9)])] t
def vy4:List (Nat×(Nat×List TypeId))->Nat->Option (Nat×List TypeId)
 | [],_=>none
 |(j,l)::r,i=>match Nat.beq j i with|true=>some l|false=>vy4 r i
def k7 (t:TypeId):Option (Nat×List TypeId):=vy4 [(80,(4,[0,149,4,0]))] t
def vy7:List (Nat×(TypeId×Nat))->Nat->Option (TypeId×Nat)
 | [],_=>none
 |(j,l)::r,i=>match Nat.beq j i with|true=>some l|false=>vy7 r i
def k8 (t:TypeId):Option (TypeId×Nat):=vy7 [] t
abbrev w7:Nat:=1000000000
end Go.X
