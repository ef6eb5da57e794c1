import Derived.Test.YthhhfnfgmijggaaGreatX1
namespace Go.X
open Go.RowKit Go.V
section
variable (T:Tab) (P:Program)
abbrev AF:=List (Nat×AV T.U)
def AF.get:AF T->Nat->Option (AV T.U)
 | [],_=>none
 |(j,v)::r,i=>match Nat.beq j i with|true=>some v|false=>AF.get r i
def zb7 (F:AF T) (dst:Option Tmp) (v:AV T.U):AF T:=match dst with|some d=>(d,v)::F|none=>F
structure St where
 F:AF T
 H:List (Ent T.U)
def ys3:Value->AV T.U
 | .int k x=>.cell ⟨.int k,x⟩
 | .bool b=>.cell ⟨.bool,b⟩
 | .string s=>.cell ⟨.str,s⟩
 |v=>.raw v
def ofV:Value->AV T.U
 | .agg cs=>.agg (cs.toList.map (ys3 T))
 |v=>ys3 T v
def aev (F:AF T):Operand->Option (AV T.U)
 | .tmp t=>F.get T t
 | .const v=>some (ofV T v)
 | .func f=>some (.fn (.func f) [] [])
 | .global _=>none
def zu7 (F:AF T):List Operand->Option (List (AV T.U))
 | []=>some []
 |x::r=>match aev T F x,zu7 F r with|some a,some l=>some (a::l)|_,_=>none
def kf0:AV T.U->Option Value
 | .cell ⟨.int k,x⟩=>some (.int k x)
 | .cell ⟨.bool,b⟩=>some (.bool b)
 | .cell ⟨.str,s⟩=>some (.string s)
 | .raw v=>some v
 |_=>none
def ve4:List (AV T.U)->Option (List Value)
 | []=>some []
 |a::r=>match kf0 T a,ve4 r with|some v,some l=>some (v::l)|_,_=>none
def wg6:AV T.U->Option Value
 | .agg cs=>match ve4 T cs with|some l=>some (.agg l.toArray)|none=>none
 |a=>kf0 T a
abbrev cI (k:IntKind) (x:Int):AV T.U:=.cell ⟨.int k,x⟩
abbrev cB (b:Bool):AV T.U:=.cell ⟨.bool,b⟩
def wh2 (b:BinOp) (k:IntKind) (x y:Int):Option (AV T.U):=
 match b with
 | .add=>some (cI T k (k.wrap (x+y)))
 | .sub=>some (cI T k (k.wrap (x-y)))
 | .mul=>some (cI T k (k.wrap (x*y)))
 | .and=>some (cI T k (zb1 k x y))
 | .or=>some (cI T k (bOr k x y))
 | .xor=>some (cI T k (jc2 k x y))
 | .andNot=>some (cI T k (vr9 k x y))
 | .eql=>some (cB T (x==y))
 | .neq=>some (cB T (x != y))
 | .lss=>some (cB T (decide (x<y)))
 | .leq=>some (cB T (decide (x<=y)))
 | .gtr=>some (cB T (decide (x>y)))
 | .geq=>some (cB T (decide (x>=y)))
 |_=>none
def zi4 (a b:IntKind):Bool:=match a,b with
 | .i8,.i8| .i16,.i16| .i32,.i32| .i64,.i64| .u8,.u8| .u16,.u16| .u32,.u32| .u64,.u64=>true
 |_,_=>false
def wk3 (t:TypeId) (lit:Bool):AV T.U->AV T.U->Option Bool
 | .raw n,a=>match P.underlying t with
  |some (.pointer _)=>match n with
   | .pointer none=>(match a with| .raw (.pointer none)=>some true| .ptr _ _=>some false| .eptr _ _ _ _=>some false| .lptr _ _ _ _=>some false| .aptr _ _ _ _ _ _=>some false|_=>none)
   |_=>none
  |some (.func _ _ _)=>match n with
   | .nilFunc=>(match a with| .raw .nilFunc=>some true| .fn _ _ _=>some false|_=>none)
   |_=>none
  |some (.interface ms)=>match n with
   | .nilIface=>(match a with| .ifc _ _=>some false| .raw .nilIface=>(match lit||ms.isEmpty with|true=>some true|false=>none)|_=>none)
   |_=>none
  |some (.map _ _)=>match n with
   | .map none=>(match a with| .raw (.map none)=>some true| .mp _=>some false|_=>none)
   |_=>none
  |some (.slice _)=>match n with
   | .slice none _ _=>(match a with| .raw (.slice none _ _)=>some true| .asl _ _ _ _ _ _=>some false|_=>none)
   |_=>none
  |_=>none
 |_,_=>none
def zg4 (neg r:Bool):Bool:=match neg with|true=> !r|false=>r
def eqA (t:TypeId) (lit:Bool) (a b:AV T.U) (neg:Bool):Option (AV T.U):=
 match wk3 T P t lit a b with
 |some r=>some (cB T (zg4 neg r))
 |none=>match wk3 T P t lit b a with
 |some r=>some (cB T (zg4 neg r))
 |none=>match wg6 T a,wg6 T b with
 |some (.bool x),some (.bool y)=>match eqB P 10000 t (.bool x) (.bool y) with|some r=>some (cB T (match neg with|true=> !r|false=>r))|none=>none
 |some (.agg x),some (.agg y)=>let x:=Value.agg x;let y:=Value.agg y;match P.eqGuardType P.depth t with
  |false=>match eqB P 10000 t x y with|some r=>some (cB T (match neg with|true=> !r|false=>r))|none=>none
  |true=>none
 |_,_=>none
def jj0:Operand->Bool| .const _=>true|_=>false
def gk1 (b:BinOp) (t:TypeId) (lit:Bool) (x y:AV T.U):Option (AV T.U):=
 match b,x,y with
 |b,.cell ⟨.int k,x⟩,.cell ⟨.int k',y⟩=>match zi4 k k' with|true=>wh2 T b k x y|false=>none
 | .eql,.cell ⟨.str,x⟩,.cell ⟨.str,y⟩=>some (cB T (ByteArray.toList x==ByteArray.toList y))
 | .neq,.cell ⟨.str,x⟩,.cell ⟨.str,y⟩=>some (cB T (!(ByteArray.toList x==ByteArray.toList y)))
 | .eql,x,y=>eqA T P t lit x y false
 | .neq,x,y=>eqA T P t lit x y true
 |_,_,_=>none
def unI (u:UnOp) (k:IntKind) (x:Int):Option (AV T.U):=match u with| .neg=>some (cI T k (k.wrap (0-x)))| .xor=>some (cI T k (jc2 k (if k.signed then-1 else k.max) x))|_=>none
def unA (u:UnOp):AV T.U->Option (AV T.U)
 | .cell ⟨.int k,x⟩=>unI T u k x
 | .cell ⟨.bool,b⟩=>match u with| .not=>some (cB T (!b))|_=>none
 |_=>none
def qh5 (t:TypeId) (j:Nat):Option (TypeId×Nat×Nat×Bool):=
 match P.underlying t with
 |some (.struct fs)=>match fs[j]? with
  |some f=>match P.info? f.type,P.underlying f.type with|some i,some d=>some (f.type,f.offset,i.size,yb6 d)|_,_=>none
  |none=>none
 |_=>none
def ys7 (cs:List (AV T.U)) (o n:Nat) (agg:Bool):Option (AV T.U):=
 match agg with
 |true=>match Nat.ble (o+n) cs.length with|true=>some (.agg ((cs.drop o).take n))|false=>none
 |false=>cs[o]?
def qg3 (t:TypeId) (j:Nat):AV T.U->Option (AV T.U)
 | .agg cs=>match qh5 P t j with|some (_,o,n,ag)=>ys7 T cs o n ag|none=>none
 |_=>none
def zf0:AV T.U->List (AV T.U)
 | .agg cs=>cs
 |a=> [a]
def yi4 (cs:List (AV T.U)) (o:Nat):List (AV T.U)->List (AV T.U)
 | []=>cs
 |a::r=>yi4 (cs.set o a) (o+1) r
def wh9:AV T.U->Option Int
 | .cell ⟨.int _,x⟩=>some x
 |_=>none
def us8 (c:Bool) (x y:Int):Int:=if c=true then x else y
def ut5 (c:Bool) (x y:Bool):Bool:=if c=true then x else y
def gi4 (c:Bool):AV T.U->AV T.U->Option (AV T.U)
 | .cell ⟨.int k,x⟩,.cell ⟨.int k',y⟩=>match zi4 k k' with|true=>some (cI T k (us8 c x y))|false=>none
 | .cell ⟨.bool,x⟩,.cell ⟨.bool,y⟩=>some (cB T (ut5 c x y))
 |_,_=>none
def ky4 (f:Field):Option (Nat×Nat):=match P.info? f.type with|some i=>some (f.offset,i.size)|none=>none
def go2 {α β:Type} (f:α->Option β):List α->Option (List β)
 | []=>some []
 |x::r=>match f x,go2 f r with|some y,some l=>some (y::l)|_,_=>none
def ze1 (t:TypeId):Option (List (Nat×Nat)):=
 match P.underlying t with
 |some (.struct fs)=>go2 (ky4 P) fs.toList
 |_=>none
def gd9 (t:TypeId):Option (Nat->Option (Nat×Nat)):=
 match P.underlying t with
 |some (.struct _)=>match ze1 P t with|some pl=>some (fun i=>pl[i]?)|none=>none
 |some (.array _ e)=>match P.info? e with|some i=>some (fun k=>some (k*i.size,i.size))|none=>none
 |_=>none
def zv0:AV T.U->Bool
 | .agg _=>false| .tup _=>false| .eptr _ _ _ _=>false| .lptr _ _ _ _=>false| .raw (.agg _)=>false| .raw (.tuple _)=>false| .arr _ _ _=>false
 |_=>true
def ya3:AV T.U->Bool
 | .agg _=>true
 |a=>zv0 T a
def yw5 (place:Nat->Option (Nat×Nat)) (cs:List (AV T.U)):List (Nat×AV T.U)->Option (List (AV T.U))
 | []=>some cs
 |(i,a)::r=>match place i with
  |some (o,n)=>match ya3 T a&&(Nat.beq (zf0 T a).length n&&Nat.ble (o+(zf0 T a).length) cs.length) with
   |true=>yw5 place (yi4 T cs o (zf0 T a)) r
   |false=>none
  |none=>none
def qi6 (e:TypeId):Option (List (AV T.U)):=match qi9 P e with|some c=>some (c.toList.map (ys3 T))|none=>none
def zz9 (F:AF T):List (Nat×Operand)->Option (List (Nat×AV T.U))
 | []=>some []
 |(i,x)::r=>match aev T F x,zz9 F r with|some a,some l=>some ((i,a)::l)|_,_=>none
def ul9:List (AV T.U)->Option (AV T.U)
 | [.cell ⟨.int k,x⟩]=>some (cI T k x)
 | [.cell ⟨.int k,x⟩,.cell ⟨.int k',y⟩]=>match zi4 k k' with|true=>some (cI T k (yj2 x y))|false=>none
 |_=>none
def um4:List (AV T.U)->Option (AV T.U)
 | [.cell ⟨.int k,x⟩]=>some (cI T k x)
 | [.cell ⟨.int k,x⟩,.cell ⟨.int k',y⟩]=>match zi4 k k' with|true=>some (cI T k (zk5 x y))|false=>none
 |_=>none
def ky9 (t:TypeId):Option IntKind:=match P.underlying t with|some (.int k)=>some k|_=>none
def ve2 (a:AV T.U) (f:Nat):Option (AV T.U):=
 match a with
 | .ptr i o=>some (.ptr i (o+f))
 | .eptr i sz k c=>some (.eptr i sz k (c+f))
 | .lptr e xs k c=>some (.lptr e xs k (c+f))
 | .aptr i o sz n k c=>some (.aptr i o sz n k (c+f))
 |_=>none
def ji4 (o:Op) (F:AF T):Option (AV T.U):=
 match o with
 | .move x=>aev T F x
 | .assign x=>aev T F x
 | .binOp b t x y _=>match aev T F x,aev T F y with|some a,some c=>gk1 T P b t (jj0 x||jj0 y) a c|_,_=>none
 | .unOp u _ x=>match aev T F x with|some a=>unA T u a|none=>none
 | .convert s d x=>match aev T F x,ky9 P d,P.underlying s with|some (.cell ⟨.int _,x⟩),some k,some _=>some (cI T k (k.wrap x))|_,_,_=>none
 | .extract x i=>match aev T F x with|some (.tup vs)=>vs[i]?|_=>none
 | .field t x j=>match aev T F x with|some a=>qg3 T P t j a|none=>none
 | .makeInterface t x=>match aev T F x,P.underlying t with
  |some a,some d=>(match d with| .interface _=>none|_=>some (.ifc t a))
  |_,_=>none
 | .makeFunc f a b=>match zu7 T F a.toList,zu7 T F b.toList with|some x,some y=>some (.fn f x y)|_,_=>none
 | .build t ps=>match gd9 P t,qi6 T P t,zz9 T F ps.toList with
  |some pf,some z,some l=>(match yw5 T pf z l with|some cs=>some (.agg cs)|none=>none)
  |_,_,_=>none
 | .fieldAddr t x j=>match aev T F x,qh5 P t j with
  |some a,some (_,f,n,_)=>(match Nat.beq n 0 with|true=>none|false=>ve2 T a f)
  |_,_=>none
 |_=>none
def divA {R:Type} (b:BinOp) (x y:AV T.U) (K:AV T.U->Option R):Option R:=
 match b,x,y with
 | .quo,.cell ⟨.int k,x⟩,.cell ⟨.int k',y⟩=>match zi4 k k' with|true=>divI k x y K|false=>none
 | .rem,.cell ⟨.int k,x⟩,.cell ⟨.int k',y⟩=>match zi4 k k' with|true=>remI k x y K|false=>none
 | .shl,.cell ⟨.int k,x⟩,.cell ⟨.int _,y⟩=>shlI k x y K
 | .shr,.cell ⟨.int k,x⟩,.cell ⟨.int _,y⟩=>shrI k x y K
 |_,_,_=>none
where
 divI {R:Type} (k:IntKind) (x y:Int) (K:AV T.U->Option R):Option R:=if y=0 then none else K (cI T k (k.wrap (x.tdiv y)))
 remI {R:Type} (k:IntKind) (x y:Int) (K:AV T.U->Option R):Option R:=if y=0 then none else K (cI T k (x.tmod y))
 shlI {R:Type} (k:IntKind) (x y:Int) (K:AV T.U->Option R):Option R:=if y<0 then none else K (cI T k (ya4 k x y))
 shrI {R:Type} (k:IntKind) (x y:Int) (K:AV T.U->Option R):Option R:=if y<0 then none else K (cI T k (zc0 k x y))
def jd1 {R:Type} (s:ByteArray) (j:Int) (K:Int->Option R):Option R:=match (if 0<=j then s[j.toNat]? else none) with|some b=>K (b.toNat:Int)|none=>none
def uz0 (H:List (Ent T.U)):AV T.U->Option Nat
 | .cell ⟨.list _,xs⟩=>some (List.length (α:=den T.U _) xs)
 | .own i=>match H[i]? with|some (.row _ _ xs)=>some xs.length|some (.drow _ _ _ xs _)=>some xs.length|_=>none
 | .sl _ _ _ n=>some n
 | .asl _ _ _ _ _ m=>some m
 | .raw (.slice none 0 0)=>some 0
 |_=>none
section
variable {R:Type}
def zr2 (t:TypeId) (cs:List (AV T.U)) (o:Nat):Option (AV T.U):=
 match P.info? t,P.underlying t with
 |some i,some d=>ys7 T cs o i.size (yb6 d)
 |_,_=>none
def jc1:List (AV T.U)->Nat->Option (List (AV T.U))
 | [],_=>none
 |a::r,o=>match Nat.beq o 0 with
  |true=>some (a::r)
  |false=>match Nat.ble (wd T a) o with|true=>jc1 r (o-wd T a)|false=>none
def yw6 (f:List (AV T.U)->Option (List (AV T.U))):List (AV T.U)->Nat->Option (List (AV T.U))
 | [],o=>match Nat.beq o 0 with|true=>f []|false=>none
 |a::r,o=>match Nat.beq o 0 with
  |true=>f (a::r)
  |false=>match Nat.ble (wd T a) o with
   |true=>(match yw6 f r (o-wd T a) with|some l=>some (a::l)|none=>none)
   |false=>none
def jg1 {U:Nat->Type}:AV U->Option ((t:Ty)×Nat×List (den U t))| .arr t n xs=>some ⟨t,n,xs⟩|_=>none
def qe0 (cs:List (AV T.U)) (o n:Nat) (agg:Bool):Option (AV T.U):=
 match jc1 T cs o with
 |some (a::r)=>match agg with
  |false=>match zb6 T a with|true=>some a|false=>none
  |true=>match jg1 a with
   |some ⟨t,m,xs⟩=>match Nat.beq (m*szT T t) n with|true=>some (.arr t m xs)|false=>none
   |none=>match Nat.ble n (r.length+1)&&((a::r).take n).all (zb6 T) with|true=>some (.agg ((a::r).take n))|false=>none
 |_=>none
def jd0 (t:TypeId) (cs:List (AV T.U)) (o:Nat):Option (AV T.U):=
 match P.info? t,P.underlying t with
 |some i,some d=>qe0 T cs o i.size (yb6 d)
 |_,_=>none
def zg9 (t:TypeId):Option (Nat×Nat):=
 match P.underlying t with
 |some (.array n e)=>match P.info? e with|some i=>some (n,i.size)|none=>none
 |_=>none
def putOnes:List (AV T.U)->List (AV T.U)->Option (List (AV T.U))
 |cs,[]=>some cs
 | [],_::_=>none
 |a::r,b::l=>match zb6 T a&&zb6 T b with|true=>(match putOnes r l with|some s=>some (b::s)|none=>none)|false=>none
def qg1 (t:Ty) (n:Nat) (xs:List (den T.U t)):List (AV T.U)->Option (List (AV T.U))
 |a::r=>match jg1 a with
  |some ⟨t',n',_⟩=>match Nat.beq n' n&&Nat.beq (szT T t') (szT T t) with|true=>some (.arr t n xs::r)|false=>none
  |none=>none
 | []=>none
def zt4 (t:Ty) (x:den T.U t):List (AV T.U):=(zd1 T t x).map .cell
def loadA (t:TypeId) (H:List (Ent T.U)):AV T.U->Option (AV T.U)
 | .ptr i o=>match H[i]? with|some (.blk _ cs)=>(match jd0 T P t cs o with|some (.eptr _ _ _ _)=>none|r=>r)|_=>none
 | .aptr i o sz n k c=>match H[i]? with
  |some (.blk _ cs)=>match jc1 T cs o with
   |some (a::_)=>match jg1 a with
    |some ⟨ty,n',xs⟩=>match Nat.beq n' n&&Nat.beq (szT T ty) sz with|true=>zr2 T P t (zt4 T ty (xs.getD k (zy2 T ty))) c|false=>none
    |none=>none
   |_=>none
  |_=>none
 | .eptr i _ k c=>match H[i]? with|some (.row _ ty xs)=>zr2 T P t (zt4 T ty (xs.getD k (zy2 T ty))) c|_=>none
 | .lptr e xs k c=>zr2 T P t (zt4 T e (xs.getD k (zy2 T e))) c
 |_=>none
def qg2:AV T.U->Option (Cell T.U)
 | .cell c=>some c
 |_=>none
def cellsOf:List (AV T.U)->Option (List (Cell T.U))
 | []=>some []
 |a::r=>match qg2 T a,cellsOf r with|some c,some l=>some (c::l)|_,_=>none
def kx0 (cs:List (Cell T.U)) (o:Nat):List (Cell T.U)->List (Cell T.U)
 | []=>cs
 |a::r=>kx0 (cs.set o a) (o+1) r
def jr7 (t:TypeId) (o n:Nat) (a:AV T.U):Bool:=
 match P.info? t with
 |some i=>ya3 T a&&(Nat.beq (zf0 T a).length i.size&&(Nat.ble (o+i.size) n&&(zf0 T a).all (zv0 T)))
 |none=>false
def qd3 (n sz k c:Nat) (l:List (Cell T.U)):List (AV T.U)->Option (List (AV T.U))
 |a::r=>match jg1 a with
  |some ⟨ty,n',xs⟩=>match Nat.beq n' n&&(Nat.beq (szT T ty) sz&&Nat.ble (c+l.length) sz) with
   |true=>match yo1 T ty (kx0 T (zd1 T ty (xs.getD k (zy2 T ty))) c l) with|some y=>some (.arr ty n' (xs.set k y)::r)|none=>none
   |false=>none
  |none=>none
 | []=>none
def jl3 (ty:Ty):Nat->List (AV T.U)->Option (List (den T.U ty))
 |0,[]=>some []
 |0,_=>none
 |n+1,cs=>match cellsOf T (cs.take (szT T ty)) with
  |some l=>match yo1 T ty l,jl3 ty n (cs.drop (szT T ty)) with|some x,some r=>some (x::r)|_,_=>none
  |none=>none
def vj7 (bs:List (AV T.U)):List (AV T.U)->Option (List (AV T.U))
 |a::r=>match jg1 a with
  |some ⟨t,n,_⟩=>match jl3 T t n bs with|some xs=>qg1 T t n xs (a::r)|none=>none
  |none=>none
 | []=>none
def wb7 (bs l:List (AV T.U)):Option (List (AV T.U)):=match putOnes T l bs with|some r=>some r|none=>vj7 T bs l
def js9 (t:TypeId) (cs:List (AV T.U)) (o:Nat) (a:AV T.U):Option (List (AV T.U)):=
 match jg1 a with
 |some ⟨ty,n,xs⟩=>match P.info? t with
  |some i=>match Nat.beq (n*szT T ty) i.size with|true=>yw6 T (qg1 T ty n xs) cs o|false=>none
  |none=>none
 |none=>match jr7 T P t 0 (zf0 T a).length a with|true=>yw6 T (wb7 T (zf0 T a)) cs o|false=>none
def je8 (t:TypeId) (H:List (Ent T.U)) (p a:AV T.U):Option (List (Ent T.U)):=
 match p with
 | .ptr i o=>match H[i]? with
  |some (.blk e cs)=>match js9 T P t cs o a with|some cs'=>some (H.set i (.blk e cs'))|none=>none
  |_=>none
 | .aptr i o sz n k c=>match H[i]? with
  |some (.blk e cs)=>match jr7 T P t 0 (zf0 T a).length a,cellsOf T (zf0 T a) with
   |true,some l=>(match yw6 T (qd3 T n sz k c l) cs o with|some cs'=>some (H.set i (.blk e cs'))|none=>none)
   |_,_=>none
  |_=>none
 | .eptr i _ k c=>match H[i]? with
  |some (.row e ty xs)=>match jr7 T P t c (szT T ty) a,cellsOf T (zf0 T a) with
   |true,some l=>match yo1 T ty (kx0 T (zd1 T ty (xs.getD k (zy2 T ty))) c l) with|some y=>some (H.set i (.row e ty (xs.set k y)))|none=>none
   |_,_=>none
  |_=>none
 |_=>none
structure Elems where
 ty:TypeId->Option Ty
def yt3 (t:TypeId) (e:Ty):Bool:=match zx7 P t with|some s=>Nat.beq s (szT T e)|none=>false
def zz6 (t:TypeId) (H:List (Ent T.U)) (s:AV T.U) (j:Int) (K:AV T.U->Option R):Option R:=
 match s with
 | .cell ⟨.list e,xs⟩=>match yt3 T P t e with
  |true=>if 0<=j/\j<((List.length (α:=den T.U e) xs:Nat):Int) then K (.lptr e xs j.toNat 0) else none
  |false=>none
 | .own i=>match H[i]? with
  |some (.row _ ty xs)=>match yt3 T P t ty with
   |true=>if 0<=j/\j<((xs.length:Nat):Int) then K (.eptr i (szT T ty) j.toNat 0) else none
   |false=>none
  |_=>none
 | .sl i sz o n=>match H[i]? with
  |some (.row _ ty xs)=>match yt3 T P t ty,Nat.beq sz (szT T ty) with
   |true,true=>if 0<=j/\j<((n:Nat):Int) then (if o+j.toNat<xs.length then K (.eptr i sz (o+j.toNat) 0) else none) else none
   |_,_=>none
  |some (.blk _ _)=>match zx7 P t with
   |some s=>match Nat.beq s sz with
    |true=>if 0<=j/\j<((n:Nat):Int) then K (.ptr i ((o+j.toNat)*sz)) else none
    |false=>none
   |none=>none
  |_=>none
 | .asl i o sz n lo m=>match zx7 P t with
  |some s=>match Nat.beq s sz with
   |true=>if 0<=j/\j<((m:Nat):Int) then K (.aptr i o sz n (lo+j.toNat) 0) else none
   |false=>none
  |none=>none
 |_=>none
def yd3 (n sz:Nat) (H:List (Ent T.U)) (s:AV T.U) (j:Int) (K:AV T.U->Option R):Option R:=
 match s with
 | .ptr i o=>match H[i]? with
  |some (.blk _ cs)=>match jc1 T cs o with
   |some (a::_)=>match jg1 a with
    |some ⟨ty,m,_⟩=>match Nat.beq m n&&Nat.beq (szT T ty) sz with
     |true=>if 0<=j/\j<((n:Nat):Int) then K (.aptr i o sz n j.toNat 0) else none
     |false=>none
    |none=>if 0<=j/\j<((n:Nat):Int) then K (.ptr i (o+j.toNat*sz)) else none
   |_=>none
  |_=>none
 | .lptr e xs k c=>match Nat.beq (szT T e) sz&&Nat.beq c 0 with
  |true=>if 0<=j/\j<((n:Nat):Int) then (if k+j.toNat<List.length (α:=den T.U e) xs then K (.lptr e xs (k+j.toNat) 0) else none) else none
  |false=>none
 | .eptr i s k c=>match H[i]? with
  |some (.row _ ty xs)=>match Nat.beq (szT T ty) sz&&(Nat.beq s sz&&Nat.beq c 0) with
   |true=>if 0<=j/\j<((n:Nat):Int) then (if k+j.toNat<xs.length then K (.eptr i sz (k+j.toNat) 0) else none) else none
   |false=>none
  |_=>none
 |_=>none
def yp7 (n sz:Nat) (H:List (Ent T.U)) (s:AV T.U) (lo hi:Option Int) (K:AV T.U->Option R):Option R:=
 let l:=lo.getD 0
 let h:=hi.getD ((n:Nat):Int)
 match s with
 | .ptr i o=>match H[i]? with
  |some (.blk _ cs)=>match jc1 T cs o with
   |some (a::_)=>match jg1 a with
    |some ⟨ty,m,_⟩=>match Nat.beq m n&&Nat.beq (szT T ty) sz with
     |true=>if 0<=l/\l<=h/\h<=((n:Nat):Int) then K (.asl i o sz n l.toNat (h.toNat-l.toNat)) else none
     |false=>none
    |none=>none
   |_=>none
  |_=>none
 | .lptr e xs k c=>match Nat.beq (szT T e) sz&&(Nat.beq c 0&&Nat.beq k 0) with
  |true=>if n<=List.length (α:=den T.U e) xs then (if 0<=l/\l<=h/\h<=((n:Nat):Int) then K (.cell ⟨.list e,(List.take (h.toNat-l.toNat) (List.drop l.toNat (xs:List (den T.U e))))⟩) else none) else none
  |false=>none
 |_=>none
def yp5 (n sz:Nat) (H:List (Ent T.U)) (s:AV T.U) (K:AV T.U->Option R):Option R:=
 match s with
 | .cell ⟨.list e,xs⟩=>match Nat.beq (szT T e) sz&&Nat.ble 1 n with
  |true=>if n<=List.length (α:=den T.U e) xs then K (.lptr e xs 0 0) else none
  |false=>none
 | .own i=>match H[i]? with
  |some (.row _ ty xs)=>match Nat.beq (szT T ty) sz&&Nat.ble 1 n with
   |true=>if n<=xs.length then K (.eptr i sz 0 0) else none
   |false=>none
  |_=>none
 |_=>none
def yl3 (n sz:Nat) (ok:Bool) (H:List (Ent T.U)) (s:AV T.U) (K:AV T.U->Option R) (D:Option R):Option R:=
 match s with
 | .lptr e xs k c=>match ok&&(Nat.beq (szT T e) sz&&Nat.beq c 0) with
  |true=>if k+n<=List.length (α:=den T.U e) xs then K (.arr e n (List.take n (List.drop k (xs:List (den T.U e))))) else none
  |false=>D
 | .eptr i s k c=>match H[i]? with
  |some (.row _ ty xs)=>match ok&&(Nat.beq (szT T ty) sz&&(Nat.beq s sz&&Nat.beq c 0)) with
   |true=>if k+n<=xs.length then K (.arr ty n (List.take n (List.drop k xs))) else none
   |false=>D
  |_=>D
 |_=>D
def eIs (t:TypeId) (e:Ty):Bool:=match zw6 P t with|some (_,sz,_,_)=>Nat.beq sz (szT T e)|none=>false
def yd6 (t:TypeId) (H:List (Ent T.U)) (s:AV T.U) (lo hi:Option Int) (K:AV T.U->Option R):Option R:=
 match s with
 | .cell ⟨.list e,xs⟩=>
  let n:=List.length (α:=den T.U e) xs
  let l:=lo.getD 0
  let h:=hi.getD ((n:Nat):Int)
  match eIs T P t e with
  |true=>if 0<=l/\l<=h/\h<=((n:Nat):Int) then K (.cell ⟨.list e,(List.take (h.toNat-l.toNat) (List.drop l.toNat (xs:List (den T.U e))))⟩) else none
  |false=>none
 | .own i=>match H[i]? with
  |some (.row _ ty xs)=>
   let l:=lo.getD 0
   let h:=hi.getD ((xs.length:Nat):Int)
   match eIs T P t ty with
   |true=>if 0<=l/\l<=h/\h<=((xs.length:Nat):Int) then K (.sl i (szT T ty) l.toNat (h.toNat-l.toNat)) else none
   |false=>none
  |_=>none
 | .sl i sz o n=>match H[i]? with
  |some (.row _ ty xs)=>
   let l:=lo.getD 0
   let h:=hi.getD ((n:Nat):Int)
   match eIs T P t ty,Nat.beq sz (szT T ty) with
   |true,true=>if 0<=l/\l<=h/\(h<=((n:Nat):Int)\/(((o:Nat):Int)+h<=((xs.length:Nat):Int)/\(o=0\/0<n))) then K (.sl i sz (o+l.toNat) (h.toNat-l.toNat)) else none
   |_,_=>none
  |_=>none
 | .asl i o sz n o1 m=>
  let l:=lo.getD 0
  let h:=hi.getD ((m:Nat):Int)
  match zw6 P t with
  |some (_,s,_,_)=>match Nat.beq s sz with
   |true=>if 0<=l/\l<=h/\((o1:Nat):Int)+h<=((n:Nat):Int) then K (.asl i o sz n (o1+l.toNat) (h.toNat-l.toNat)) else none
   |false=>none
  |none=>none
 |_=>none
def vl0 (ty:Ty) (t:TypeId) (len:Nat) (ps:List (Nat×AV T.U)):Option (TypeId×List (den T.U ty)):=
 match zw6 P t with
 |some (e,sz,_,zc)=>match Nat.beq sz (szT T ty)&&(Nat.ble 1 sz&&Nat.ble (len*sz) 16777216) with
  |true=>match yw5 T (fun j=>some (j*sz,sz)) ((List.range (len*sz)).map fun j=>ys3 T (zc[j%sz]!)) ps with
   |some cs=>match jl3 T ty len cs with|some xs=>some (e,xs)|none=>none
   |none=>none
  |false=>none
 |none=>none
def vl4 (t:TypeId) (len:Nat) (ps:List (Nat×AV T.U)):Option (TypeId×Nat×List (AV T.U)):=
 match zw6 P t with
 |some (e,sz,_,zc)=>match Nat.ble 1 sz&&Nat.ble (len*sz) 16777216 with
  |true=>match yw5 T (fun j=>some (j*sz,sz)) ((List.range (len*sz)).map fun j=>ys3 T (zc[j%sz]!)) ps with
   |some cs=>match cs.all (zb6 T) with|true=>some (e,sz,cs)|false=>none
   |none=>none
  |false=>none
 |none=>none
def yo0 (t:TypeId) (H:List (Ent T.U)) (s:AV T.U) (K:AV T.U->List (Ent T.U)->Option R):Option R:=
 match s with
 | .mp i=>match H[i]?,P.underlying t with
  |some (.tmap k ty _),some (.map _ _)=>K (.tup []) (H.set i (.tmap k ty []))
  |_,_=>none
 | .sl i sz o n=>match H[i]? with
  |some (.row e ty xs)=>match zw6 P t with
   |some (_,s,_,zc)=>match Nat.beq s (szT T ty)&&Nat.beq sz (szT T ty),cellsOf T (zc.toList.map (ys3 T)) with
    |true,some z=>match yo1 T ty z with
     |some x0=>if o+n<=xs.length then K (.tup []) (H.set i (.row e ty (xs.take o++(List.replicate n x0++xs.drop (o+n))))) else none
     |none=>none
    |_,_=>none
   |none=>none
  |_=>none
 |_=>none
def wd9 (x y:Int):Bool:=x==y
def eqBB (x y:Bool):Bool:=x==y
def vk5:AV T.U->AV T.U->Bool
 | .cell ⟨.int k,x⟩,.cell ⟨.int k',y⟩=>zi4 k k'&&wd9 x y
 | .cell ⟨.bool,a⟩,.cell ⟨.bool,b⟩=>eqBB a b
 |_,_=>false
def jt1:List (AV T.U)->List (AV T.U)->Option (List (AV T.U))
 | [],r=>some r
 |_::_,[]=>none
 |a::z,b::r=>match vk5 T a b with|true=>jt1 z r|false=>none
def jt2 (z:List (AV T.U)):Nat->List (AV T.U)->Bool
 |0,r=>r.isEmpty
 |n+1,r=>match jt1 T z r with|some s=>jt2 z n s|none=>false
def gg2 (t:Ty) (n:Nat) (as:List (AV T.U)):Option (List (den T.U t)):=
 match cellsOf T (as.take (szT T t)) with
 |some l=>match yo1 T t l with
  |some x=>match jt2 T (as.take (szT T t)) n as with|true=>some (List.replicate n x)|false=>jl3 T t n as
  |none=>none
 |none=>none
abbrev Lay:=List (Option (Ty×Nat))
def yt5:Lay->List (AV T.U)->Option (List (AV T.U))
 | [],as=>match as with| []=>some []|_::_=>none
 |none::r,as=>match as with
  |a::s=>match zb6 T a with|true=>(match yt5 r s with|some l=>some (a::l)|none=>none)|false=>none
  | []=>none
 |some (t,n)::r,as=>match gg2 T t n (as.take (n*szT T t)),yt5 r (as.drop (n*szT T t)) with|some xs,some l=>some (.arr t n xs::l)|_,_=>none
def gp6 (ls:Option Lay) (as:List (AV T.U)):Option (List (AV T.U)):=
 match ls with
 |none=>match as.all (zb6 T) with|true=>some as|false=>none
 |some l=>yt5 T l as
def ul8 (ls:Option Lay) (a:AV T.U):Option (List (AV T.U)):=
 match jg1 a with
 |some _=>some [a]
 |none=>match ya3 T a with|true=>gp6 T ls (zf0 T a)|false=>none
def appA (ty:Ty) (t:TypeId) (H:List (Ent T.U)) (s x:AV T.U) (K:AV T.U->List (Ent T.U)->Option R):Option R:=
 match zw6 P t with
 |some (e,sz,by_,_)=>match Nat.beq sz (szT T ty)&&(Nat.ble 1 sz&&(Nat.ble 1 by_&&eOk e H s)) with
  |true=>match rowIn ty H s with
   |some xs=>rowX ty H x fun ys=>if (xs.length+ys.length)*by_<=140737488355328 then K (.own H.length) (goneA H s++ [.row e ty (xs++ys)]) else none
   |none=>none
  |false=>none
 |none=>none
where
 rowIn (ty:Ty) (H:List (Ent T.U)):AV T.U->Option (List (den T.U ty))
  | .cell c=>match c.as (.list ty) with|some xs=>some xs|none=>none
  | .own i=>match H[i]? with|some (.row _ ty' xs)=>(if h:ty'=ty then some (h▸xs) else none)|_=>none
  | .raw (.slice none 0 0)=>some []
  |_=>none
 rowX {R:Type} (ty:Ty) (H:List (Ent T.U)) (x:AV T.U) (K:List (den T.U ty)->Option R):Option R:=
  match rowIn ty H x with
  |some ys=>K ys
  |none=>match x with
   | .sl i sz o n=>match H[i]? with
    |some (.row _ ty' xs)=>match Nat.beq sz (szT T ty') with
     |true=>(if h:ty'=ty then (if o+n<=xs.length then K ((h▸xs:List (den T.U ty)).drop o |>.take n) else none) else none)
     |false=>none
    |_=>none
   |_=>none
 eOk (e:TypeId) (H:List (Ent T.U)):AV T.U->Bool
  | .own i=>match H[i]? with|some (.row e' _ _)=>Nat.beq e' e|_=>false
  | .cell _=>false
  |_=>true
 goneA (H:List (Ent T.U)):AV T.U->List (Ent T.U)
  | .own i=>H.set i .gone
  |_=>H
def ju2 (ty:Ty) (t:TypeId) (H:List (Ent T.U)) (l c:Int) (K:AV T.U->List (Ent T.U)->Option R):Option R:=
 match zw6 P t with
 |some (e,sz,by_,zc)=>match Nat.beq sz (szT T ty),cellsOf T (zc.toList.map (ys3 T)) with
  |true,some z=>match yo1 T ty z with
   |some x0=>if 0<=l/\l<=c/\by_*c.toNat<=281474976710656/\c<=9223372036854775807 then K (.own H.length) (H++ [.row e ty (List.replicate l.toNat x0)]) else none
   |none=>none
  |_,_=>none
 |none=>none
def vh5 (e:TypeId):Option (AV T.U):=match P.info? e with|some i=>(match i.zero with|some z=>some (ofV T z)|none=>none)|none=>none
def yx2 (a:AV T.U) (at_:TypeId) (ok:Bool):Option (AV T.U):=
 match P.underlying at_,a with
 |some d,.ifc t x=>match d with
  | .interface _=>none
  |_=>match Nat.beq t at_ with
   |true=>match ok with|true=>some (.tup [x,cB T true])|false=>some x
   |false=>match ok,vh5 T P at_ with
    |true,some z=>some (.tup [z,cB T false])
    |_,_=>none
 |_,_=>none
def vu0 (ty:Ty):List (Int×den T.U ty)->Int->den T.U ty
 | [],_=>zy2 T ty
 |(y,a)::r,x=>if x=y then a else vu0 ty r x
def ki7 {α:Type}:List (Int×α)->Int->Bool
 | [],_=>false
 |(y,_)::r,x=>if x=y then true else ki7 r x
def vs6 {α:Type}:List (Int×α)->Int->α->List (Int×α)
 | [],x,a=> [(x,a)]
 |(y,b)::r,x,a=>if x=y then (x,a)::r else (y,b)::vs6 r x a
def vo2 {α:Type}:List (Int×α)->Int->List (Int×α)
 | [],_=> []
 |(y,b)::r,x=>if x=y then r else (y,b)::vo2 r x
def zTy:Ty->Value->Bool
 | .int k,.int k' x=>zi4 k k'&&eqZ x
 | .bool,.bool b=> !b
 | .list _,.slice none n c=>Nat.beq n 0&&Nat.beq c 0
 |_,_=>false
where
 eqZ (x:Int):Bool:=x==0
def gh7 (e:TypeId) (ty:Ty):Bool:=match P.info? e with|some i=>(match i.zero with|some z=>zTy ty z|none=>false)|none=>false
def vm6 (co:Bool) (ty:Ty) (es:List (Int×den T.U ty)) (x:Int):AV T.U:=
 match co with|true=>.tup [.cell ⟨ty,vu0 T ty es x⟩,cB T (ki7 es x)]|false=>.cell ⟨ty,vu0 T ty es x⟩
def wg5 (ty:Ty) (a:AV T.U):Option (den T.U ty):=match a with| .cell c=>c.as ty|_=>none
def vb3 (t:TypeId):Option (IntKind×TypeId×TypeId):=
 match P.underlying t with
 |some (.map kt et)=>match P.underlying kt with|some (.int k)=>some (k,kt,et)|_=>none
 |_=>none
def jc8 (co:Bool) (z:AV T.U) (x:Int) (K:AV T.U->Option R):List (Int×AV T.U)->Option R
 | []=>K (match co with|true=>.tup [z,cB T false]|false=>z)
 |(y,a)::r=>if x=y then K (match co with|true=>.tup [a,cB T true]|false=>a) else jc8 co z x K r
def ji0 (t:TypeId) (co:Bool) (H:List (Ent T.U)) (m:AV T.U) (kx:IntKind) (x:Int) (K:AV T.U->Option R):Option R:=
 match m,vb3 P t with
 | .mp i,some (k,_,et)=>match H[i]? with
  |some (.map k' es)=>match zi4 k k'&&zi4 kx k',vh5 T P et with|true,some z=>jc8 T co z x K es|_,_=>none
  |some (.tmap k' ty es)=>match zi4 k k'&&(zi4 kx k'&&gh7 P et ty) with|true=>K (vm6 T co ty es x)|false=>none
  |_=>none
 |_,_=>none
def ky7 (t:TypeId) (H:List (Ent T.U)) (m:AV T.U) (kx:IntKind) (x:Int) (a:AV T.U):Option (List (Ent T.U)):=
 match m,vb3 P t with
 | .mp i,some (k,_,_)=>match H[i]? with
  |some (.map k' es)=>match zi4 k k'&&(zi4 kx k'&&es.all fun p=> !wd9 x p.1) with|true=>some (H.set i (.map k' (es++ [(x,a)])))|false=>none
  |some (.tmap k' ty es)=>match zi4 k k'&&zi4 kx k',wg5 T ty a with|true,some y=>some (H.set i (.tmap k' ty (vs6 es x y)))|_,_=>none
  |_=>none
 |_,_=>none
def wd5 (t:TypeId) (H:List (Ent T.U)) (m:AV T.U) (kx:IntKind) (x:Int):Option (List (Ent T.U)):=
 match m,vb3 P t with
 | .mp i,some (k,_,_)=>match H[i]? with
  |some (.tmap k' ty es)=>match zi4 k k'&&zi4 kx k' with|true=>some (H.set i (.tmap k' ty (vo2 es x)))|false=>none
  |_=>none
 |_,_=>none
end
end
end Go.X
