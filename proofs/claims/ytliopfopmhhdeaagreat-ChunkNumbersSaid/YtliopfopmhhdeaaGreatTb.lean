import Derived.Test.YtliopfopmhhdeaaGreatXN
import Derived.Test.YtliopfopmhhdeaaGreatXU
import Derived.Test.YtliopfopmhhdeaaGreatAB
import Derived.Test.YtliopfopmhhdeaaGreatAE
import Derived.Test.YtliopfopmhhdeaaGreatProg
set_option linter.defProp false
namespace Go.X
open Go.RowKit Go.V Go.Proofs
def j9 (f:Func):Code:=match f.body with|some c=>c|none=>.skip
structure Do where
 Op:Int
 Version:Int
 At:Int
 Whole:Int
 Full:Bool
 Piece:List Int
def dDo:Do:=⟨(0:Int),(0:Int),(0:Int),(0:Int),false,([]:List Int)⟩
structure Come where
 version:Int
 at_:Int
 whole:Int
 piece:List Int
def zi4:Come:=⟨(0:Int),(0:Int),(0:Int),([]:List Int)⟩
structure Row8 where
 l:List Int
def zz0:Row8:=⟨([]:List Int)⟩
structure Upload where
 pieces:List (List Int)
 whole:Int
def jw4:Upload:=⟨[],(0:Int)⟩
def zr0 {α:Type} (n:Nat) (d:α) (l:List α):List α:=(List.range n).map fun j=>l.getD j d
def qz6 {α:Type} {n:Nat} {d:α} {l:List α} (h:l.length=n):zr0 n d l=l:=by
 refine List.ext_getElem (by simp [zr0,h]) fun j h1 h2=>?_;simp only [zr0,List.getElem_map,List.getElem_range];rw [Y2,Y0 h2];rfl
def UU:Nat->Type
 |0=>Do
 |1=>Come
 |2=>Row8
 |3=>Upload
 |_=>Unit
def Upload.bl (x:Upload):List (AV UU):= [.arr (.nl (.int .u8)) 40 (zr0 40 ([]:List Int) x.pieces),.cell ⟨.int .i64,x.whole⟩]
def Upload.rb:List (AV UU)->Option Upload
 | [.arr (.nl (.int .u8)) 40 a0,.cell ⟨.int .i64,a1⟩]=>some ⟨a0,a1⟩
 |_=>none
def Upload.rbl (cs:List (AV UU)) (x:Upload) (h:Upload.rb cs=some x) (hl:kf8 cs):x.bl=cs:=by
 unfold Upload.rb at h;split at h
 ·rename_i a0 a1;simp only [X0] at h;subst h;have h0:=qz6 (d:=(([]:List Int):List Int)) (hl _ _ _ (by simp only [Z0,true_or,or_true]:AV.arr (.nl (.int .u8)) 40 a0∈_));exact congrArg (fun z=>([.arr (.nl (.int .u8)) 40 z,.cell ⟨.int .i64,a1⟩]:List (AV UU))) h0
 ·cases h
def Do.cs (x:Do):List (Cell UU):= [⟨.int .i64,x.Op⟩,⟨.int .i64,x.Version⟩,⟨.int .i64,x.At⟩,⟨.int .i64,x.Whole⟩,⟨.bool,x.Full⟩,⟨.list (.int .u8),x.Piece⟩]
def Do.of:List (Cell UU)->Option Do
 | [c0,c1,c2,c3,c4,c5]=>match c0.aS (.int .i64),c1.aS (.int .i64),c2.aS (.int .i64),c3.aS (.int .i64),c4.aS (.bool),c5.aS (.list (.int .u8)) with
  |some a0,some a1,some a2,some a3,some a4,some a5=>some ⟨a0,a1,a2,a3,a4,a5⟩
  |_,_,_,_,_,_=>none
 |_=>none
def Do.of_cs (cs:List (Cell UU)) (x:Do) (h:Do.of cs=some x):x.cs=cs:=by
 unfold Do.of at h;split at h
 ·split at h
  ·rename_i h0 h1 h2 h3 h4 h5;simp only [X0] at h;subst h;rw [Do.cs,Cell.as_eq h0,Cell.as_eq h1,Cell.as_eq h2,Cell.as_eq h3,Cell.as_eq h4,Cell.as_eq h5]
  ·cases h
 ·cases h
def Come.cs (x:Come):List (Cell UU):= [⟨.int .i64,x.version⟩,⟨.int .i64,x.at_⟩,⟨.int .i64,x.whole⟩,⟨.list (.int .u8),x.piece⟩]
def Come.of:List (Cell UU)->Option Come
 | [c0,c1,c2,c3]=>match c0.aS (.int .i64),c1.aS (.int .i64),c2.aS (.int .i64),c3.aS (.list (.int .u8)) with
  |some a0,some a1,some a2,some a3=>some ⟨a0,a1,a2,a3⟩
  |_,_,_,_=>none
 |_=>none
def Come.of_cs (cs:List (Cell UU)) (x:Come) (h:Come.of cs=some x):x.cs=cs:=by
 unfold Come.of at h;split at h
 ·split at h
  ·rename_i h0 h1 h2 h3;simp only [X0] at h;subst h;rw [Come.cs,Cell.as_eq h0,Cell.as_eq h1,Cell.as_eq h2,Cell.as_eq h3]
  ·cases h
 ·cases h
def Row8.cs (x:Row8):List (Cell UU):= [⟨.list (.int .u8),x.l⟩]
def Row8.of:List (Cell UU)->Option Row8
 | [c0]=>match c0.aS (.list (.int .u8)) with
  |some a0=>some ⟨a0⟩
  |_=>none
 |_=>none
def Row8.of_cs (cs:List (Cell UU)) (x:Row8) (h:Row8.of cs=some x):x.cs=cs:=by
 unfold Row8.of at h;split at h
 ·split at h
  ·rename_i h0;simp only [X0] at h;subst h;rw [Row8.cs,Cell.as_eq h0]
  ·cases h
 ·cases h
def TT:Tab where
 U:=UU
 d:=fun i=>match i with
  |0=>dDo
  |1=>zi4
  |2=>zz0
  |3=>jw4
  |_+4=>()
 size:=fun i=>match i with
  |0=>6
  |1=>4
  |2=>1
  |3=>0
  |_+4=>0
 cells:=fun i=>match i with
  |0=>Do.cs
  |1=>Come.cs
  |2=>Row8.cs
  |3=>fun _=> []
  |_+4=>fun _=> []
 len:=fun i=>match i with
  |0=>fun _=>rfl
  |1=>fun _=>rfl
  |2=>fun _=>rfl
  |3=>fun _=>rfl
  |_+4=>fun _=>rfl
 pack:=fun i=>match i with
  |0=>Do.of
  |1=>Come.of
  |2=>Row8.of
  |3=>fun cl=>match cl with| []=>some jw4|_::_=>none
  |_+4=>fun cl=>match cl with| []=>some ()|_::_=>none
 packed:=fun i=>match i with
  |0=>Do.of_cs
  |1=>Come.of_cs
  |2=>Row8.of_cs
  |3=>fun cl x h=>by cases cl with|nil=>rfl|cons a r=>cases h
  |_+4=>fun cl x h=>by cases cl with|nil=>rfl|cons a r=>cases h
 scal:=fun i=>match i with
  |0=>false
  |1=>false
  |2=>false
  |3=>true
  |_+4=>true
 scals:=fun i=>match i with
  |0=>fun _ h=>by cases h
  |1=>fun _ h=>by cases h
  |2=>fun _ h=>by cases h
  |3=>fun _ _ c hc=>by cases hc
  |_+4=>fun _ _ c hc=>by cases hc
 fe:=fun i=>match i with
  |0=> []
  |1=> []
  |2=> [5]
  |3=> []
  |_+4=> []
 bl:=fun i=>match i with
  |0=>fun _=> []
  |1=>fun _=> []
  |2=>fun _=> []
  |3=>Upload.bl
  |_+4=>fun _=> []
 rb:=fun i=>match i with
  |0=>fun _=>none
  |1=>fun _=>none
  |2=>fun _=>none
  |3=>Upload.rb
  |_+4=>fun _=>none
 rbl:=fun i=>match i with
  |0=>fun _ _ h=>by cases h
  |1=>fun _ _ h=>by cases h
  |2=>fun _ _ h=>by cases h
  |3=>Upload.rbl
  |_+4=>fun _ _ h=>by cases h
 bl0:=fun i=>match i with
  |0=>fun _=>rfl
  |1=>fun _=>rfl
  |2=>fun _=>rfl
  |3=>fun _=>rfl
  |_+4=>fun _=>rfl
def ks2:List (Nat×Ty)->Nat->Option Ty
 | [],_=>none
 |(j,t)::r,i=>match Nat.beq j i with|true=>some t|false=>ks2 r i
def zn8 (t:TypeId):Option Ty:=ks2 [(22,.int .u8),(25,.list (.int .u8)),(31,.user 0),(45,.int .i64),(56,.list (.int .u32)),(57,.list (.int .u64)),(58,.list (.int .i64)),(59,.list (.str)),(60,.list (.bool)),(82,.user 1),(125,.int .u32),(127,.int .u64),(128,.int .i64),(129,.str),(131,.bool)] t
def kc3:List (Nat×Lay)->Nat->Option Lay
 | [],_=>none
 |(j,l)::r,i=>match Nat.beq j i with|true=>some l|false=>kc3 r i
def ze4 (t:TypeId):Option Lay:=kc3 [(89,[some (.nl (.int .u8),40)]),(90,[some (.nl (.int .u8),40),none]),(91,[some (.nl (.int .u8),40),none])] t
def kc2:List (Nat×(Nat×List TypeId))->Nat->Option (Nat×List TypeId)
 | [],_=>none
 |(j,l)::r,i=>match Nat.beq j i with|true=>some l|false=>kc2 r i
def zn2 (t:TypeId):Option (Nat×List TypeId):=kc2 [(25,(2,[5]))] t
def kc4:List (Nat×(TypeId×Nat))->Nat->Option (TypeId×Nat)
 | [],_=>none
 |(j,l)::r,i=>match Nat.beq j i with|true=>some l|false=>kc4 r i
def zn5 (t:TypeId):Option (TypeId×Nat):=kc4 [(77,(91,3))] t
abbrev BIG:Nat:=1000000000
end Go.X
