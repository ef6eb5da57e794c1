import Derived.Test.YtliopfopmhhdeaaGreatA8
set_option linter.defProp false
namespace Go.X
open Go.RowKit Go.V
inductive Sh where
 |val (t:Ty)
 |row (e:TypeId) (t:Ty)
 |slr (e:TypeId) (t:Ty)
 |ptr (o:Nat) (e:TypeId) (cs:List Sh)
 |slb (sz n:Nat) (e:TypeId) (cs:List Sh)
 |at_ (i o:Nat)
 |own (i:Nat)
 |part (i sz:Nat)
 |fn (f:FuncId) (a b:List Sh)
 |agg (cs:List Sh)
 |ifc (t:TypeId) (s:Sh)
 |nils
 |nilp
 |arr (t:Ty) (n:Nat)
 |lp (e:Ty) (o:Nat)
 |asp (i o sz n:Nat)
 |asn (e:TypeId) (cs:List Sh) (o sz n:Nat)
 |ap (i o sz n c:Nat)
 |mp (k:IntKind) (keys:List Int) (cs:List Sh)
 |mpo (i:Nat)
 |rw (n:Nat)
 |lpk (e:Ty) (k o:Nat)
 |tm (k:IntKind) (t:Ty)
 |dr (e:TypeId) (d:Nat) (fe:List TypeId)
 |pm (k:IntKind) (be:TypeId) (d:Nat)
 |lit (k:IntKind) (x:Int)
 |gm
 |gmo (i:Nat)
section
variable (T:Tab)
mutual
def Sh.den:Sh->Type
 | .val t=>den T.U t
 | .row _ t=>List (den T.U t)
 | .slr _ t=>List (den T.U t)×Nat×Nat
 | .ptr _ _ cs=>zg8 cs
 | .slb _ _ _ cs=>zg8 cs
 | .at_ _ _=>Unit
 | .own _=>Unit
 | .part _ _=>Nat×Nat
 | .fn _ a b=>zg8 a×zg8 b
 | .agg cs=>zg8 cs
 | .ifc _ s=>s.den
 | .nils=>Unit
 | .nilp=>Unit
 | .lit _ _=>Unit
 | .arr t _=>List (den T.U t)
 | .lp e _=>List (den T.U e)×Nat
 | .asp _ _ _ _=>Nat×Nat
 | .asn _ cs _ _ _=>zg8 cs×Nat×Nat
 | .ap _ _ _ _ _=>Nat
 | .mp _ _ cs=>zg8 cs
 | .mpo _=>Unit
 | .rw _=>Unit
 | .lpk e _ _=>List (den T.U e)
 | .tm _ t=>List (Int×den T.U t)
 | .dr _ d _=>List (T.U d)
 | .pm _ _ d=>List (Int×T.U d)
 | .gm=>Unit
 | .gmo _=>Unit
def zg8:List Sh->Type
 | []=>Unit
 |s::r=>s.den×zg8 r
end
mutual
def Sh.cnt:Sh->Nat
 | .row _ _=>1
 | .slr _ _=>1
 | .ptr _ _ cs=>1+zd1 cs
 | .slb _ _ _ cs=>1+zd1 cs
 | .fn _ a b=>zd1 a+zd1 b
 | .agg cs=>zd1 cs
 | .ifc _ s=>s.cnt
 | .asn _ cs _ _ _=>1+zd1 cs
 | .mp _ _ cs=>1+zd1 cs
 | .tm _ _=>1
 | .dr _ _ _=>1
 | .pm _ _ _=>1
 | .gm=>1
 |_=>0
def zd1:List Sh->Nat
 | []=>0
 |s::r=>s.cnt+zd1 r
end
def gd7:Nat->Value
 |0=>.nilFunc
 |1=>.nilIface
 |2=>.map none
 |_=>.pointer none
def yf6 {U:Nat->Type}:List Int->List (AV U)->List (Int×AV U)
 |x::r,a::s=>(x,a)::yf6 r s
 |_,_=> []
mutual
def mkA (σ:Nat->Nat):(s:Sh)->s.den T->Nat->AV T.U
 | .val t,x,_=>zn4 T t x
 | .row _ _,_,k=>.own (σ k)
 | .slr _ t,x,k=>.sl (σ k) (szT T t) x.2.1 x.2.2
 | .ptr o _ _,_,k=>.ptr (σ k) o
 | .slb sz n _ _,_,k=>.sl (σ k) sz 0 n
 | .at_ i o,_,_=>.ptr (σ i) o
 | .own i,_,_=>.own (σ i)
 | .part i sz,x,_=>.sl (σ i) sz x.1 x.2
 | .fn f a b,x,k=>.fn (.func f) (zi5 σ a x.1 k) (zi5 σ b x.2 (k+zd1 a))
 | .agg cs,x,k=>.agg (zi5 σ cs x k)
 | .ifc t s,x,k=>.ifc t (mkA σ s x k)
 | .nils,_,_=>.raw (.slice none 0 0)
 | .nilp,_,_=>.raw (.pointer none)
 | .lit k x,_,_=>.cell ⟨.int k,x⟩
 | .arr t n,x,_=>.arr t n x
 | .lp e o,x,_=>.lptr e x.1 x.2 o
 | .asp i o sz n,x,_=>.asl (σ i) o sz n x.1 x.2
 | .asn _ _ o sz n,x,k=>.asl (σ k) o sz n x.2.1 x.2.2
 | .ap i o sz n c,x,_=>.aptr (σ i) o sz n x c
 | .mp _ _ _,_,k=>.mp (σ k)
 | .mpo i,_,_=>.mp (σ i)
 | .rw n,_,_=>.raw (gd7 n)
 | .lpk e k o,x,_=>.lptr e x k o
 | .tm _ _,_,k=>.mp (σ k)
 | .dr _ _ _,_,k=>.own (σ k)
 | .pm _ _ _,_,k=>.mp (σ k)
 | .gm,_,k=>.hmp (σ k)
 | .gmo i,_,_=>.hmp (σ i)
def zi5 (σ:Nat->Nat):(l:List Sh)->zg8 T l->Nat->List (AV T.U)
 | [],_,_=> []
 |s::r,x,k=>mkA σ s x.1 k::zi5 σ r x.2 (k+s.cnt)
end
mutual
def mkE (σ:Nat->Nat):(s:Sh)->s.den T->Nat->List (Ent T.U)
 | .row e t,x,_=> [.row e t x]
 | .slr e t,x,_=> [.row e t x.1]
 | .ptr _ e cs,x,k=>.blk e (zi5 T σ cs x (k+1))::zo4 σ cs x (k+1)
 | .slb _ _ e cs,x,k=>.blk e (zi5 T σ cs x (k+1))::zo4 σ cs x (k+1)
 | .fn _ a b,x,k=>zo4 σ a x.1 k++zo4 σ b x.2 (k+zd1 a)
 | .agg cs,x,k=>zo4 σ cs x k
 | .ifc _ s,x,k=>mkE σ s x k
 | .val _,_,_=> []
 | .at_ _ _,_,_=> []
 | .own _,_,_=> []
 | .part _ _,_,_=> []
 | .nils,_,_=> []
 | .nilp,_,_=> []
 | .lit _ _,_,_=> []
 | .arr _ _,_,_=> []
 | .lp _ _,_,_=> []
 | .asp _ _ _ _,_,_=> []
 | .asn e cs _ _ _,x,k=>.blk e (zi5 T σ cs x.1 (k+1))::zo4 σ cs x.1 (k+1)
 | .ap _ _ _ _ _,_,_=> []
 | .mp kd keys cs,x,k=>.map kd (yf6 keys (zi5 T σ cs x (k+1)))::zo4 σ cs x (k+1)
 | .mpo _,_,_=> []
 | .rw _,_,_=> []
 | .lpk _ _ _,_,_=> []
 | .tm kd t,x,_=> [.tmap kd t x]
 | .dr e d fe,x,_=> [.drow e d fe x none]
 | .pm k be d,x,_=> [.pmap k be d x none]
 | .gm,_,_=> [.hid]
 | .gmo _,_,_=> []
def zo4 (σ:Nat->Nat):(l:List Sh)->zg8 T l->Nat->List (Ent T.U)
 | [],_,_=> []
 |s::r,x,k=>mkE σ s x.1 k++zo4 σ r x.2 (k+s.cnt)
end
abbrev Src:=List (Option Nat)
def qa6 (H:List (Ent T.U)) (e:TypeId) (t:Ty) (i:Nat):Option (List (den T.U t)):=
 match H[i]? with
 |some (.row e' t' xs)=>match Nat.beq e' e with|true=>(if h:t'=t then some (h▸xs) else none)|false=>none
 |_=>none
def jy1 (H:List (Ent T.U)) (e:TypeId) (i:Nat):Option (List (AV T.U)):=
 match H[i]? with
 |some (.blk e' cs)=>match Nat.beq e' e with|true=>some cs|false=>none
 |_=>none
def yg9 (l:Src) (p i:Nat):Bool:=match l[p]? with|some (some j)=>Nat.beq j i|_=>false
def jz6 {α β γ:Type} (f:α->β):Option (α×γ)->Option (β×γ)
 |some (x,l)=>some (f x,l)
 |none=>none
def kg5 {U:Nat->Type}:AV U->Option Nat| .own i=>some i|_=>none
def slI {U:Nat->Type}:AV U->Option (Nat×Nat×Nat×Nat)| .sl i sz o n=>some (i,sz,o,n)|_=>none
def km6 {U:Nat->Type}:AV U->Option (Nat×Nat)| .ptr i o=>some (i,o)|_=>none
def fnI {U:Nat->Type}:AV U->Option (FuncId×List (AV U)×List (AV U))| .fn (.func f) a b=>some (f,a,b)|_=>none
def kv7 {U:Nat->Type}:AV U->Option (List (AV U))| .agg cs=>some cs|_=>none
def kw2 {U:Nat->Type}:AV U->Option (TypeId×AV U)| .ifc t a=>some (t,a)|_=>none
def ka9 {U:Nat->Type}:AV U->Bool| .raw (.slice none 0 0)=>true|_=>false
def ka2 {U:Nat->Type} (t:Ty) (n:Nat):AV U->Option (List (den U t))
 | .arr t' n' xs=>match Nat.beq n' n with|true=>(if h:t'=t then some (h▸xs) else none)|false=>none
 |_=>none
def lpI {U:Nat->Type} (e:Ty) (o:Nat):AV U->Option (List (den U e)×Nat)
 | .lptr e' xs k o'=>match Nat.beq o' o with|true=>(if h:e'=e then some (h▸xs,k) else none)|false=>none
 |_=>none
def kj6 {U:Nat->Type}:AV U->Option (Nat×Nat×Nat×Nat×Nat×Nat)| .asl i o sz n lo m=>some (i,o,sz,n,lo,m)|_=>none
def vz9 {U:Nat->Type}:AV U->Option (Nat×Nat×Nat×Nat×Nat×Nat)| .aptr i o sz n k c=>some (i,o,sz,n,k,c)|_=>none
def mpI {U:Nat->Type}:AV U->Option Nat| .mp i=>some i|_=>none
def kw9 {U:Nat->Type} (n:Nat):AV U->Bool
 | .raw .nilFunc=>Nat.beq n 0
 | .raw .nilIface=>Nat.beq n 1
 | .raw (.map none)=>Nat.beq n 2
 |_=>false
def jz0 {U:Nat->Type}:List Int->List (Int×AV U)->Bool
 | [],[]=>true
 |x::r,(y,_)::s=>match kk5 x y with|true=>jz0 r s|false=>false
 |_,_=>false
def vk9 (H:List (Ent T.U)) (k:IntKind) (keys:List Int) (i:Nat):Option (List (AV T.U)):=
 match H[i]? with
 |some (.map k' es)=>match zc4 k' k&&jz0 keys es with|true=>some (es.map Prod.snd)|false=>none
 |_=>none
def ko4 (H:List (Ent T.U)) (k:IntKind) (t:Ty) (i:Nat):Option (List (Int×den T.U t)):=
 match H[i]? with
 |some (.tmap k' t' xs)=>match zc4 k' k with|true=>(if h:t'=t then some (h▸xs) else none)|false=>none
 |_=>none
def kk3 (H:List (Ent T.U)) (e:TypeId) (d:Nat) (fe:List TypeId) (i:Nat):Option (List (T.U d)):=
 match H[i]? with
 |some (.drow e' d' fe' xs none)=>match Nat.beq e' e with|true=>(if h:d'=d then (if fe'=fe then some (h▸xs) else none) else none)|false=>none
 |_=>none
def km5 (H:List (Ent T.U)) (k:IntKind) (be:TypeId) (d:Nat) (i:Nat):Option (List (Int×T.U d)):=
 match H[i]? with
 |some (.pmap k' be' d' xs none)=>match zc4 k' k&&Nat.beq be' be with|true=>(if h:d'=d then some (h▸xs) else none)|false=>none
 |_=>none
def vk4 (H:List (Ent T.U)) (i:Nat):Bool:=match H[i]? with|some .hid=>true|_=>false
def kk7 {U:Nat->Type}:AV U->Option Nat| .hmp i=>some i|_=>none
def kw4 {U:Nat->Type} (k:IntKind) (x:Int):AV U->Bool| .cell ⟨.int k',y⟩=>zc4 k' k&&kk5 y x|_=>false
def ka8 {U:Nat->Type}:AV U->Bool| .raw (.pointer none)=>true|_=>false
mutual
def rdS (H:List (Ent T.U)):(s:Sh)->AV T.U->Src->Option (s.den T×Src)
 | .val t,a,l=>match jl3 T t a with|some x=>some (x,l)|none=>none
 | .row e t,a,l=>match kg5 a with
  |some i=>(match qa6 T H e t i with|some xs=>some (xs,l++ [some i])|none=>none)
  |none=>none
 | .slr e t,a,l=>match slI a with
  |some (i,sz,o,n)=>(match qa6 T H e t i with|some xs=>(match Nat.beq sz (szT T t) with|true=>some ((xs,o,n),l++ [some i])|false=>none)|none=>none)
  |none=>none
 | .ptr o e cs,a,l=>match km6 a with
  |some (i,o')=>(match jy1 T H e i with|some aS=>(match Nat.beq o' o with|true=>yg1 H cs aS (l++ [some i])|false=>none)|none=>none)
  |none=>none
 | .slb sz n e cs,a,l=>match slI a with
  |some (i,sz',o,n')=>(match jy1 T H e i with|some aS=>(match Nat.beq sz' sz&&(Nat.beq n' n&&Nat.beq o 0) with|true=>yg1 H cs aS (l++ [some i])|false=>none)|none=>none)
  |none=>none
 | .at_ p o,a,l=>match km6 a with
  |some (i,o')=>(match Nat.beq o' o&&yg9 l p i with|true=>some ((),l)|false=>none)
  |none=>none
 | .own p,a,l=>match kg5 a with
  |some i=>(match yg9 l p i with|true=>some ((),l)|false=>none)
  |none=>none
 | .part p sz,a,l=>match slI a with
  |some (i,sz',o,n)=>(match Nat.beq sz' sz&&yg9 l p i with|true=>some ((o,n),l)|false=>none)
  |none=>none
 | .fn f a b,c,l=>match fnI c with
  |some (f',aS,bs)=>(match yg1 H a aS l with
   |some (x,l1)=>(match Nat.beq f' f with|true=>jz6 (fun y=>(x,y)) (yg1 H b bs l1)|false=>none)
   |none=>none)
  |none=>none
 | .agg cs,a,l=>match kv7 a with|some aS=>yg1 H cs aS l|none=>none
 | .ifc t s,a,l=>match kw2 a with
  |some (t',b)=>(match Nat.beq t' t with|true=>rdS H s b l|false=>none)
  |none=>none
 | .nils,a,l=>match ka9 a with|true=>some ((),l)|false=>none
 | .nilp,a,l=>match ka8 a with|true=>some ((),l)|false=>none
 | .lit k x,a,l=>match kw4 k x a with|true=>some ((),l)|false=>none
 | .arr t n,a,l=>match ka2 t n a with|some xs=>some (xs,l)|none=>none
 | .lp e o,a,l=>match lpI e o a with|some x=>some (x,l)|none=>none
 | .asp p o sz n,a,l=>match kj6 a with
  |some (i,o',sz',n',lo,m)=>(match yg9 l p i&&(Nat.beq o' o&&(Nat.beq sz' sz&&Nat.beq n' n)) with|true=>some ((lo,m),l)|false=>none)
  |none=>none
 | .asn e cs o sz n,a,l=>match kj6 a with
  |some (i,o',sz',n',lo,m)=>(match jy1 T H e i with|some aS=>(match Nat.beq o' o&&(Nat.beq sz' sz&&Nat.beq n' n) with|true=>jz6 (fun x=>(x,lo,m)) (yg1 H cs aS (l++ [some i]))|false=>none)|none=>none)
  |none=>none
 | .ap p o sz n c,a,l=>match vz9 a with
  |some (i,o',sz',n',k,c')=>(match yg9 l p i&&(Nat.beq o' o&&(Nat.beq sz' sz&&(Nat.beq n' n&&Nat.beq c' c))) with|true=>some (k,l)|false=>none)
  |none=>none
 | .mp kd keys cs,a,l=>match mpI a with
  |some i=>(match vk9 T H kd keys i with|some aS=>yg1 H cs aS (l++ [some i])|none=>none)
  |none=>none
 | .mpo p,a,l=>match mpI a with
  |some i=>(match yg9 l p i with|true=>some ((),l)|false=>none)
  |none=>none
 | .rw n,a,l=>match kw9 n a with|true=>some ((),l)|false=>none
 | .lpk e k o,a,l=>match lpI e o a with|some x=>(match Nat.beq x.2 k with|true=>some (x.1,l)|false=>none)|none=>none
 | .tm kd t,a,l=>match mpI a with
  |some i=>(match ko4 T H kd t i with|some xs=>some (xs,l++ [some i])|none=>none)
  |none=>none
 | .dr e d fe,a,l=>match kg5 a with
  |some i=>(match kk3 T H e d fe i with|some xs=>some (xs,l++ [some i])|none=>none)
  |none=>none
 | .pm k be d,a,l=>match mpI a with
  |some i=>(match km5 T H k be d i with|some xs=>some (xs,l++ [some i])|none=>none)
  |none=>none
 | .gm,a,l=>match kk7 a with
  |some i=>(match vk4 T H i with|true=>some ((),l++ [some i])|false=>none)
  |none=>none
 | .gmo p,a,l=>match kk7 a with
  |some i=>(match yg9 l p i with|true=>some ((),l)|false=>none)
  |none=>none
def yg1 (H:List (Ent T.U)):(ss:List Sh)->List (AV T.U)->Src->Option (zg8 T ss×Src)
 | [],aS,l=>match aS with| []=>some ((),l)|_::_=>none
 |s::r,aS,l=>match aS with
  |a::aS=>(match rdS H s a l with|some (x,l1)=>jz6 (fun y=>(x,y)) (yg1 H r aS l1)|none=>none)
  | []=>none
end
inductive PE where
 |gone
 |row (e:TypeId) (t:Ty)
 |blk (e:TypeId) (cs:List Sh)
 |map (k:IntKind) (keys:List Int) (cs:List Sh)
 |tmap (k:IntKind) (t:Ty)
 |dr (e:TypeId) (d:Nat) (fe:List TypeId)
 |pm (k:IntKind) (be:TypeId) (d:Nat)
 |gm
def PE.den:PE->Type
 | .gone=>Unit
 | .row _ t=>List (Go.X.den T.U t)
 | .blk _ cs=>zg8 T cs
 | .map _ _ cs=>zg8 T cs
 | .tmap _ t=>List (Int×Go.X.den T.U t)
 | .dr _ d _=>List (T.U d)
 | .pm _ _ d=>List (Int×T.U d)
 | .gm=>Unit
def zv0:List PE->Type
 | []=>Unit
 |p::r=>p.den T×zv0 r
def PE.cnt:PE->Nat| .blk _ cs=>zd1 cs| .map _ _ cs=>zd1 cs|_=>0
def zo3:List PE->Nat
 | []=>0
 |p::r=>p.cnt+zo3 r
def zo5:List PE->Nat->Src
 | [],_=> []
 | .gone::r,j=>none::zo5 r (j+1)
 |_::r,j=>some j::zo5 r (j+1)
def kf8 (σ:Nat->Nat):(p:PE)->p.den T->Nat->Ent T.U
 | .gone,_,_=>.gone
 | .row e t,x,_=>.row e t x
 | .blk e cs,x,k=>.blk e (zi5 T σ cs x k)
 | .map kd keys cs,x,k=>.map kd (yf6 keys (zi5 T σ cs x k))
 | .tmap kd t,x,_=>.tmap kd t x
 | .dr e d fe,x,_=>.drow e d fe x none
 | .pm k be d,x,_=>.pmap k be d x none
 | .gm,_,_=>.hid
def vl1 (σ:Nat->Nat):(p:PE)->p.den T->Nat->List (Ent T.U)
 | .blk _ cs,x,k=>zo4 T σ cs x k
 | .map _ _ cs,x,k=>zo4 T σ cs x k
 | .gone,_,_=> []
 | .row _ _,_,_=> []
 | .tmap _ _,_,_=> []
 | .dr _ _ _,_,_=> []
 | .pm _ _ _,_,_=> []
 | .gm,_,_=> []
def mkP (σ:Nat->Nat):(ps:List PE)->zv0 T ps->Nat->List (Ent T.U)
 | [],_,_=> []
 |p::r,x,k=>kf8 T σ p x.1 k::mkP σ r x.2 (k+p.cnt)
def je6 (σ:Nat->Nat):(ps:List PE)->zv0 T ps->Nat->List (Ent T.U)
 | [],_,_=> []
 |p::r,x,k=>vl1 T σ p x.1 k++je6 σ r x.2 (k+p.cnt)
def qq4 (H:List (Ent T.U)) (j:Nat):(p:PE)->Src->Option (p.den T×Src)
 | .gone,l=>some ((),l)
 | .row e t,l=>match qa6 T H e t j with|some xs=>some (xs,l)|none=>none
 | .blk e cs,l=>match jy1 T H e j with|some aS=>yg1 T H cs aS l|none=>none
 | .map kd keys cs,l=>match vk9 T H kd keys j with|some aS=>yg1 T H cs aS l|none=>none
 | .tmap kd t,l=>match ko4 T H kd t j with|some xs=>some (xs,l)|none=>none
 | .dr e d fe,l=>match kk3 T H e d fe j with|some xs=>some (xs,l)|none=>none
 | .pm k be d,l=>match km5 T H k be d j with|some xs=>some (xs,l)|none=>none
 | .gm,l=>match vk4 T H j with|true=>some ((),l)|false=>none
def rdP (H:List (Ent T.U)):(ps:List PE)->Nat->Src->Option (zv0 T ps×Src)
 | [],_,l=>some ((),l)
 |p::r,j,l=>match qq4 T H j p l with|some (x,l1)=>jz6 (fun y=>(x,y)) (rdP H r (j+1) l1)|none=>none
def zh4 (H:List (Ent T.U)) (ρ:Nat->Nat):Src->List (Ent T.U)
 | []=> []
 |some i::r=>(match H[i]? with|some e=>e.ren ρ|none=>.gone)::zh4 H ρ r
 |none::r=>.gone::zh4 H ρ r
def yu3 (i:Nat):Src->Nat
 | []=>0
 |some j::r=>match Nat.beq j i with|true=>0|false=>yu3 i r+1
 |none::r=>yu3 i r+1
def qo7 (i:Nat):Src->Bool| []=>false|some j::r=>(match Nat.beq j i with|true=>true|false=>qo7 i r)|none::r=>qo7 i r
def zt8:Src->Bool| []=>true|some i::r=> !qo7 i r&&zt8 r|none::r=>zt8 r
end
section
variable {T:Tab}
def yi2 {i:Nat}: ∀ {l:Src},qo7 i l=true↔some i∈l
 | []=>by simp [qo7]
 |none::r=>by simp [qo7,yi2 (l:=r)]
 |some j::r=>by
  unfold qo7;split
  ·rename_i h;have:=X1 h;subst this;simp
  ·rename_i h;rw [yi2 (l:=r)];have:j≠i:=fun e=>by subst e;simp at h
   simp [Ne.symm this]
def ye7: ∀ {l:Src},zt8 l=true-> ∀ {a b x:Nat},l[a]?=some (some x)->l[b]?=some (some x)->a=b
 | [],_,_,_,_,h,_=>by simp at h
 |none::r,hn,a,b,x,ha,hb=>by
  unfold zt8 at hn;cases a with
  |zero=>simp at ha
  |succ a=>
   cases b with
   |zero=>simp at hb
   |succ b=>have:=ye7 hn (a:=a) (b:=b) (by simpa using ha) (by simpa using hb);omega
 |some j::r,hn,a,b,x,ha,hb=>by
  unfold zt8 at hn;simp only [X3,V4] at hn;have no: ∀ {c:Nat},r[c]?=some (some j)->False:=fun hc=>by
   have:=yi2.2 (X6 hc);rw [hn.1] at this;cases this
  cases a with
  |zero=>
   simp at ha;subst ha;cases b with
   |zero=>rfl
   |succ b=>exact (no (by simpa using hb)).elim
  |succ a=>
   cases b with
   |zero=>simp at hb;subst hb;exact (no (by simpa using ha)).elim
   |succ b=>have:=ye7 hn.2 (a:=a) (b:=b) (by simpa using ha) (by simpa using hb);omega
def zr2 {i:Nat}: ∀ {l:Src},some i∈l->l[yu3 i l]?=some (some i)
 | [],h=>by cases h
 |none::r,h=>by
  have h:some i∈r:=by simpa using h
  show (none::r)[yu3 i r+1]?=_;simpa using zr2 h
 |some j::r,h=>by
  unfold yu3;split
  ·rename_i hb;have:=X1 hb;subst this;rfl
  ·rename_i hb;rcases Z0.1 h with h|h
   ·cases h;simp at hb
   ·simpa using zr2 h
def Places (ρ:Nat->Nat) (l:Src):Prop:= ∀(p i:Nat),l[p]?=some (some i)->ρ i=p
def Places.pre {ρ:Nat->Nat} {l m:Src} (h:Places ρ (l++m)):Places ρ l:=fun p i hp=>h p i (by
 rw [X8 (X2.1 hp).1];exact hp)
def yp0 {l:Src} (h:zt8 l=true):Places (fun i=>yu3 i l) l:=fun p i hp=>ye7 h (zr2 (X6 hp)) hp
def yf1 {H:List (Ent T.U)} {e:TypeId} {t:Ty} {i:Nat} {xs:List (den T.U t)} (h:qa6 T H e t i=some xs):H[i]?=some (.row e t xs):=by
 unfold qa6 at h;split at h
 ·rename_i e' t' ys hi;split at h
  ·rename_i hb;have:=X1 hb;subst this;split at h
   ·rename_i ht;subst ht;have h:ys=xs:=X5 h;subst h;exact hi
   ·cases h
  ·cases h
 ·cases h
def js2 {H:List (Ent T.U)} {k:IntKind} {t:Ty} {i:Nat} {xs:List (Int×den T.U t)} (h:ko4 T H k t i=some xs):H[i]?=some (.tmap k t xs):=by
 unfold ko4 at h;split at h
 ·rename_i k' t' ys hi;split at h
  ·rename_i hb;have:=k9 hb;subst this;split at h
   ·rename_i ht;subst ht;have h:ys=xs:=X5 h;subst h;exact hi
   ·cases h
  ·cases h
 ·cases h
def jq8 {H:List (Ent T.U)} {k:IntKind} {be:TypeId} {d:Nat} {i:Nat} {xs:List (Int×T.U d)} (h:km5 T H k be d i=some xs):H[i]?=some (.pmap k be d xs none):=by
 unfold km5 at h;split at h
 ·rename_i k' be' d' ys hi;split at h
  ·rename_i hb;rw [X3] at hb;have:=k9 hb.1;subst this;have:=X1 hb.2;subst this;split at h
   ·rename_i ht;subst ht;have h:ys=xs:=X5 h;subst h;exact hi
   ·cases h
  ·cases h
 ·cases h
def jo6 {H:List (Ent T.U)} {e:TypeId} {d:Nat} {fe:List TypeId} {i:Nat} {xs:List (T.U d)} (h:kk3 T H e d fe i=some xs):H[i]?=some (.drow e d fe xs none):=by
 unfold kk3 at h;split at h
 ·rename_i e' d' fe' ys hi;split at h
  ·rename_i hb;have:=X1 hb;subst this;split at h
   ·rename_i ht;subst ht;split at h
    ·rename_i hf;subst hf;have h:ys=xs:=X5 h;subst h;exact hi
    ·cases h
   ·cases h
  ·cases h
 ·cases h
def yd9 {H:List (Ent T.U)} {e:TypeId} {i:Nat} {cs:List (AV T.U)} (h:jy1 T H e i=some cs):H[i]?=some (.blk e cs):=by
 unfold jy1 at h;split at h
 ·rename_i e' cs' hi;split at h
  ·rename_i hb;have:=X1 hb;subst this;simp only [X0] at h;subst h;exact hi
  ·cases h
 ·cases h
def je2 {H:List (Ent T.U)} {k:IntKind} {keys:List Int} {i:Nat} {aS:List (AV T.U)} (h:vk9 T H k keys i=some aS):H[i]?=some (.map k (yf6 keys aS)):=by
 unfold vk9 at h;split at h
 ·rename_i k' es hi;split at h
  ·rename_i hb;rw [X3] at hb;have:=k9 hb.1;subst this;simp only [X0] at h;subst h;rw [hi];have key: ∀(keys:List Int) (es:List (Int×AV T.U)),jz0 keys es=true->es=yf6 keys (es.map Prod.snd):=by
    intro keys;induction keys with
    |nil=>intro es h;cases es with|nil=>rfl|cons _ _=>cases h
    |cons x r ih=>
     intro es h
     match es,h with
     |(y,a)::s,h=>
      unfold jz0 at h;split at h
      ·rename_i he;have:x=y:=by simpa [kk5] using he
       subst this;rw [U1,yf6,<-ih s h]
      ·cases h
   rw [<-key keys es hb.2]
  ·cases h
 ·cases h
def zk1 {l:Src} {p i:Nat} (h:yg9 l p i=true):l[p]?=some (some i):=by
 unfold yg9 at h;split at h
 ·rename_i j hj;rw [X1 h] at hj;exact hj
 ·cases h
def zq7 (H:List (Ent T.U)) (ρ:Nat->Nat): ∀(l m:List Nat),zd0 T H ρ (l++m)=zd0 T H ρ l++zd0 T H ρ m
 | [],_=>rfl
 |i::r,m=>by
  rw [M8,zd0,zd0];split
  ·rw [zq7 H ρ r m];rfl
  ·rw [zq7 H ρ r m];rfl
def ye8 {α β γ:Type} {f:α->β} {o:Option (α×γ)} {y:β} {l:γ} (h:jz6 f o=some (y,l)): ∃x,o=some (x,l)/\f x=y:=by
 unfold jz6 at h;split at h
 ·simp only [X0,X7] at h;obtain ⟨h1,rfl⟩:=h;exact ⟨_,rfl,h1⟩
 ·cases h
structure RdOk (T:Tab) (H:List (Ent T.U)) (ids:List Nat) (l l':Src) (new:List Nat):Prop where
 eq:l'=l++new.map some
 ids: ∀j∈ids,some j∈l'
 ents: ∀i∈new,∃e,H[i]?=some e/\e.live=true/\ ∀j∈e.cellIds,some j∈l'
end
end Go.X
namespace Go.X
open Go.RowKit Go.V
section
variable {T:Tab}
def RdOk.nil {H:List (Ent T.U)} {ids:List Nat} {l:Src} (h: ∀j∈ids,some j∈l):RdOk T H ids l l []:=⟨by simp,h,by intro i hi;cases hi⟩
def RdOk.one {H:List (Ent T.U)} {l:Src} {i:Nat} {e:Ent T.U} (hi:H[i]?=some e) (hl:e.live=true) (hc:e.cellIds= []):RdOk T H [i] l (l++ [some i]) [i]:=
 ⟨rfl,by intro j hj;simp at hj;subst hj;simp,by intro j hj;simp at hj;subst hj;exact ⟨e,hi,hl,by rw [hc];intro j hj;cases hj⟩⟩
def RdOk.app {H:List (Ent T.U)} {i1 i2:List Nat} {l l1 l2:Src} {n1 n2:List Nat} (h1:RdOk T H i1 l l1 n1) (h2:RdOk T H i2 l1 l2 n2):RdOk T H (i1++i2) l l2 (n1++n2):=by
 have hsub: ∀j,some j∈l1->some j∈l2:=fun j hj=>by rw [h2.eq];exact X4.2 (.inl hj)
 refine ⟨by rw [h2.eq,h1.eq,J0,Q2],?_,?_⟩
 ·intro j hj;rcases X4.1 hj with hj|hj
  ·exact hsub j (h1.ids j hj)
  ·exact h2.ids j hj
 ·intro i hi;rcases X4.1 hi with hi|hi
  ·obtain ⟨e,a,b,c⟩:=h1.ents i hi;exact ⟨e,a,b,fun j hj=>hsub j (c j hj)⟩
  ·exact h2.ents i hi
def RdOk.blk {H:List (Ent T.U)} {l l':Src} {i:Nat} {e:TypeId} {cs:List (AV T.U)} {new:List Nat} (hi:H[i]?=some (.blk e cs)) (h:RdOk T H (j8 cs) (l++ [some i]) l' new):RdOk T H [i] l l' (i::new):=by
 refine ⟨by rw [h.eq];simp,?_,?_⟩
 ·intro j hj;simp at hj;subst hj;rw [h.eq];simp
 ·intro j hj;rcases Z0.1 hj with rfl|hj
  ·exact ⟨_,hi,rfl,h.ids⟩
  ·exact h.ents j hj
def RdOk.map {H:List (Ent T.U)} {l l':Src} {i:Nat} {k:IntKind} {keys:List Int} {cs:List (AV T.U)} {new:List Nat} (hi:H[i]?=some (.map k (yf6 keys cs))) (hz: ∀j∈idsM (yf6 keys cs),j∈j8 cs) (h:RdOk T H (j8 cs) (l++ [some i]) l' new):RdOk T H [i] l l' (i::new):=by
 refine ⟨by rw [h.eq];simp,?_,?_⟩
 ·intro j hj;simp at hj;subst hj;rw [h.eq];simp
 ·intro j hj;rcases Z0.1 hj with rfl|hj
  ·exact ⟨_,hi,rfl,fun j hj=>h.ids j (hz j hj)⟩
  ·exact h.ents j hj
def Places.last {ρ:Nat->Nat} {l m:Src} {i:Nat} (h:Places ρ (l++ [some i]++m)):ρ i=l.length:=h l.length i (by simp)
def ze7 {H:List (Ent T.U)} {ρ:Nat->Nat} {i:Nat} {e:Ent T.U} (hi:H[i]?=some e) (r:List Nat):zd0 T H ρ (i::r)=e.ren ρ::zd0 T H ρ r:=by
 rw [zd0];split
 ·rename_i e' he;rw [hi] at he;simp only [X0] at he;subst he;rfl
 ·rename_i hn;rw [hi] at hn;cases hn
def ql4 (t:Ty) (x:den T.U t) (ρ:Nat->Nat):(zn4 T t x).ren ρ=zn4 T t x:=by
 cases t with
 |user i=>
  show (AV.agg _).ren ρ=_;rw [AV.ren];show AV.agg (zh7 ρ ((T.cells i x).map .cell))=AV.agg ((T.cells i x).map .cell);congr 1;induction T.cells i x with
  |nil=>rfl
  |cons c r ih=>rw [U1,zh7,ih,AV.ren]
 |int k=>exact AV.ren.eq_1 ..
 |bool=>exact AV.ren.eq_1 ..
 |str=>exact AV.ren.eq_1 ..
 |list e=>exact AV.ren.eq_1 ..
 |nl e=>exact AV.ren.eq_1 ..
def kg2 {t:Ty} {a:AV T.U} {x:den T.U t} (h:jl3 T t a=some x) (hn:a≠.raw (.slice none 0 0)):a=zn4 T t x:=by
 have one: ∀ {t:Ty} {c:Cell T.U} {x:den T.U t},(∀i,t≠.user i)->c.aS t=some x->AV.cell c=zn4 T t x:=by
  intro t c x hn h;have:=Cell.as_eq h;subst this;cases t<;>first|rfl|exact absurd rfl (hn _)
 cases t with
 |user i=>
  cases a<;>simp only [jl3,reduceCtorEq] at h;rename_i cs;split at h
  ·rename_i l hl;have:=T.packed _ _ _ h;rw [zr4 hl,<-this];rfl
  ·cases h
 |list e=>
  cases a with
  |cell c=>exact one (by intro i hi;cases hi) h
  |raw u=>
   cases u with
   |slice ad n c=>
    cases ad with
    |some _=>cases h
    |none=>
     cases n with
     |succ _=>cases h
     |zero=>
      cases c with
      |succ _=>cases h
      |zero=>exact absurd rfl hn
   |_=>cases h
  |_=>cases h
 |nl e=>
  cases a with
  |cell c=>exact one (by intro i hi;cases hi) h
  |raw u=>
   cases u with
   |slice ad n c=>
    cases ad with
    |some _=>cases h
    |none=>
     cases n with
     |succ _=>cases h
     |zero=>
      cases c with
      |succ _=>cases h
      |zero=>exact absurd rfl hn
   |_=>cases h
  |_=>cases h
 |int k=>cases a<;>first|(cases h;done)|exact one (by intro i hi;cases hi) h
 |bool=>cases a<;>first|(cases h;done)|exact one (by intro i hi;cases hi) h
 |str=>cases a<;>first|(cases h;done)|exact one (by intro i hi;cases hi) h
def Imp (T:Tab) (a b:AV T.U):Prop:=b.ids=a.ids/\(b=a\/(za2 T a=true/\za2 T b=true))/\ ∀(w:World) (S:List Nat) (φ:Nat->RA) (v:Value),VR T w S φ a v->VR T w S φ b v
inductive ImpL (T:Tab):List (AV T.U)->List (AV T.U)->Prop
 |nil:ImpL T [] []
 |cons {a b:AV T.U} {aS bs:List (AV T.U)}:Imp T a b->ImpL T aS bs->ImpL T (a::aS) (b::bs)
inductive ImpE (T:Tab):Ent T.U->Ent T.U->Prop
 |same (e:Ent T.U):ImpE T e e
 |blk {e:TypeId} {aS bs:List (AV T.U)}:ImpL T aS bs->ImpE T (.blk e aS) (.blk e bs)
 |map {k:IntKind} {keys:List Int} {aS bs:List (AV T.U)}:ImpL T aS bs->ImpE T (.map k (yf6 keys aS)) (.map k (yf6 keys bs))
inductive ImpH (T:Tab):List (Ent T.U)->List (Ent T.U)->Prop
 |nil:ImpH T [] []
 |cons {e f:Ent T.U} {es fs:List (Ent T.U)}:ImpE T e f->ImpH T es fs->ImpH T (e::es) (f::fs)
def Imp.refl (a:AV T.U):Imp T a a:=⟨rfl,.inl rfl,fun _ _ _ _ h=>h⟩
def Imp.of_eq {a b:AV T.U} (h:a=b):Imp T a b:=h▸.refl a
def ImpL.vrl {aS bs:List (AV T.U)} (h:ImpL T aS bs): ∀ {w:World} {S:List Nat} {φ:Nat->RA} {vs:List Value},VRL T w S φ aS vs->VRL T w S φ bs vs:=by
 induction h with
 |nil=>exact fun h=>h
 |cons h1 _ ih=>
  intro w S φ vs hv
  match vs,hv with
  |v::vs,hv=>exact ⟨h1.2.2 _ _ _ _ hv.1,ih hv.2⟩
def ImpL.ids {aS bs:List (AV T.U)} (h:ImpL T aS bs):j8 bs=j8 aS:=by
 induction h with
 |nil=>rfl
 |cons h1 _ ih=>rw [j8,j8,ih,h1.1]
def ImpL.agg {aS bs:List (AV T.U)} (h:ImpL T aS bs):Imp T (.agg aS) (.agg bs):=⟨by rw [AV.ids,AV.ids,h.ids],.inr ⟨rfl,rfl⟩,fun w S φ v hv=>by obtain ⟨vs,h1,h2⟩:=hv;exact ⟨vs,h1,h.vrl h2⟩⟩
def ImpL.fn {f:Fn} {aS bs aS' bs':List (AV T.U)} (h:ImpL T aS bs) (h':ImpL T aS' bs'):Imp T (.fn f aS aS') (.fn f bs bs'):=⟨by rw [AV.ids,AV.ids,h.ids,h'.ids],.inr ⟨rfl,rfl⟩,fun w S φ v hv=>by obtain ⟨va,vb,h1,h2,h3⟩:=hv;exact ⟨va,vb,h1,h.vrl h2,h'.vrl h3⟩⟩
def Imp.ifc {t:TypeId} {a b:AV T.U} (h:Imp T a b):Imp T (.ifc t a) (.ifc t b):=⟨by rw [AV.ids,AV.ids,h.1],.inr ⟨rfl,rfl⟩,fun w S φ v hv=>by obtain ⟨u,h1,h2⟩:=hv;exact ⟨u,h1,h.2.2 _ _ _ _ h2⟩⟩
def ImpL.app {aS bs aS' bs':List (AV T.U)} (h:ImpL T aS bs) (h':ImpL T aS' bs'):ImpL T (aS++aS') (bs++bs'):=by
 induction h with
 |nil=>exact h'
 |cons h1 _ ih=>exact .cons h1 ih
def Imp.exp {a b:AV T.U} (h:Imp T a b):ImpL T (jc9 T a) (jc9 T b)/\(jm8 T a->jm8 T b):=by
 rcases h.2.1 with rfl|⟨h1,h2⟩
 ·refine ⟨?_,id⟩;generalize jc9 T b=l;induction l with
  |nil=>exact .nil
  |cons a r ih=>exact .cons (.refl a) ih
 ·rw [zp1 T h1,zp1 T h2];exact ⟨.cons h .nil,fun _=>ya6 T h2⟩
def ImpL.exp {aS bs:List (AV T.U)} (h:ImpL T aS bs):ImpL T (zg3 T aS) (zg3 T bs)/\(zw6 T aS->zw6 T bs):=by
 induction h with
 |nil=>exact ⟨.nil,id⟩
 |cons h1 _ ih=>exact ⟨h1.exp.1.app ih.1,fun hl=>⟨h1.exp.2 hl.1,ih.2 hl.2⟩⟩
def ImpL.br {aS bs:List (AV T.U)} (h:ImpL T aS bs) {w:World} {S:List Nat} {φ:Nat->RA} {vs:List Value} (hb:BR T w S φ aS vs):BR T w S φ bs vs:=⟨h.exp.1.vrl hb.1,h.exp.2 hb.2⟩
def ImpL.mr {k:IntKind} {aS bs:List (AV T.U)} (h:ImpL T aS bs): ∀ {keys:List Int} {w:World} {S:List Nat} {φ:Nat->RA} {l:List MapEntry},MR T w S φ k (yf6 keys aS) l->MR T w S φ k (yf6 keys bs) l:=by
 induction h with
 |nil=>exact fun h=>h
 |cons h1 _ ih=>
  intro keys w S φ l hm
  match keys,l,hm with
  | [],_,hm=>exact hm
  |_::_,[],hm=>exact hm
  |x::r,e::l,hm=>exact ⟨hm.1,h1.2.2 _ _ _ _ hm.2.1,ih hm.2.2⟩
def ImpL.idsM {aS bs:List (AV T.U)} (h:ImpL T aS bs): ∀(keys:List Int),idsM (yf6 keys bs)=idsM (yf6 keys aS):=by
 induction h with
 |nil=>exact fun _=>rfl
 |cons h1 _ ih=>
  intro keys;cases keys with
  |nil=>rfl
  |cons x r=>rw [yf6,yf6,Go.X.idsM,Go.X.idsM,h1.1,ih r]
def jj9 {U:Nat->Type}: ∀(keys:List Int) (aS:List (AV U)),∀i∈idsM (yf6 keys aS),i∈j8 aS
 | [],_,i,hi=>by cases hi
 |_::_,[],i,hi=>by cases hi
 |x::r,a::s,i,hi=>by
  rcases X4.1 (show i∈a.ids++idsM (yf6 r s) from hi) with hi|hi
  ·exact X4.2 (.inl hi)
  ·exact X4.2 (.inr (jj9 r s i hi))
def yj0 {U:Nat->Type} (ρ:Nat->Nat): ∀(keys:List Int) (aS:List (AV U)),jx6 ρ (yf6 keys aS)=yf6 keys (zh7 ρ aS)
 | [],_=>rfl
 |_::_,[]=>rfl
 |x::r,a::s=>congrArg ((x,a.ren ρ):: ·) (yj0 ρ r s)
def ImpH.app {aS bs aS' bs':List (Ent T.U)} (h:ImpH T aS bs) (h':ImpH T aS' bs'):ImpH T (aS++aS') (bs++bs'):=by
 induction h with
 |nil=>exact h'
 |cons h1 _ ih=>exact .cons h1 ih
def ImpH.get {es fs:List (Ent T.U)} (h:ImpH T es fs): ∀ {i:Nat} {f:Ent T.U},fs[i]?=some f-> ∃e,es[i]?=some e/\ImpE T e f:=by
 induction h with
 |nil=>intro i f h;simp at h
 |cons h1 _ ih=>
  intro i f hf;cases i with
  |zero=>simp at hf;subst hf;exact ⟨_,rfl,h1⟩
  |succ i=>exact ih (by simpa using hf)
def ImpH.len {es fs:List (Ent T.U)} (h:ImpH T es fs):fs.length=es.length:=by
 induction h with
 |nil=>rfl
 |cons _ _ ih=>simp [ih]
def ImpE.live {e f:Ent T.U} (h:ImpE T e f):f.live=e.live:=by cases h<;>rfl
def ImpE.cellIds {e f:Ent T.U} (h:ImpE T e f):f.cellIds=e.cellIds:=by
 cases h with
 |same e=>rfl
 |blk h=>exact h.ids
 |map h=>exact h.idsM _
def ImpE.entR {e f:Ent T.U} (h:ImpE T e f) {w:World} {S:List Nat} {φ:Nat->RA} {i:Nat} (he:EntR T w S φ i e):EntR T w S φ i f:=by
 cases h with
 |same e=>exact he
 |blk h=>obtain ⟨g,c,h1,h2,h3,h4⟩:=he;exact ⟨g,c,h1,h2,h3,h.br h4⟩
 |map h=>obtain ⟨g,l,c,h1,h2,h3,h4,h5⟩:=he;exact ⟨g,l,c,h1,h2,h3,h.mr h4,h5⟩
def Sim.imp {w0:World} {S0:Ow} {F:AF T} {H H1:List (Ent T.U)} {F':PF} {w:World} {S:List Nat} {φ:Nat->RA} (h:Sim T w0 S0 ⟨F,H⟩ F' w S φ) (hi:ImpH T H H1):Sim T w0 S0 ⟨F,H1⟩ F' w S φ:=by
 refine ⟨h.fr,?_,h.chg,h.own,h.ex,?_,fun k r hk=>⟨(h.pins k r hk).1,by have:=(h.pins k r hk).2;simp only [hi.len] at this⊢;exact this⟩,?_,?_,?_⟩
 ·intro i a ha;obtain ⟨h1,h2⟩:=h.ids i a ha;refine ⟨fun j hj=>by have:=h1 j hj;simp only [hi.len] at this⊢;exact this,?_⟩;cases a with
  |eptr j sz k c=>
   intro e t xs hx;obtain ⟨e0,g1,g2⟩:=hi.get hx;cases g2 with
   |same=>exact h2 e t xs g1
  |_=>trivial
 ·intro i f hf hl a ha;obtain ⟨e0,g1,g2⟩:=hi.get hf;exact h.lives i e0 g1 (by rw [<-g2.live];exact hl) a ha
 ·intro i f hf;obtain ⟨e0,g1,g2⟩:=hi.get hf;exact g2.entR (h.ents i e0 g1)
 ·intro i f hf j hj;obtain ⟨e0,g1,g2⟩:=hi.get hf;rw [g2.cellIds] at hj;have:=h.eids i e0 g1 j hj;simp only [hi.len] at this⊢;exact this
 ·intro i j f f' hf hf' hl hl' hij a b ha hb;obtain ⟨e0,g1,g2⟩:=hi.get hf;obtain ⟨e0',g1',g2'⟩:=hi.get hf';exact h.apart i j e0 e0' g1 g1' (by rw [<-g2.live];exact hl) (by rw [<-g2'.live];exact hl') hij a b ha hb
def qg3 {t:Ty} {a:AV T.U} {x:den T.U t} (h:jl3 T t a=some x) (ρ:Nat->Nat):Imp T (a.ren ρ) (zn4 T t x)/\a.ids= []:=by
 by_cases hn:a=.raw (.slice none 0 0)
 ·subst hn;cases t<;>try (cases h;done)
  ·rename_i e;have h:([]:List (den T.U e))=x:=X5 h;subst h;refine ⟨⟨rfl,.inr ⟨rfl,rfl⟩,fun w S φ v hv=>?_⟩,rfl⟩;rw [AV.ren,VR] at hv;subst hv;exact CR.nilS
  ·rename_i e;have h:([]:List (den T.U e))=x:=X5 h;subst h;refine ⟨⟨rfl,.inr ⟨rfl,rfl⟩,fun w S φ v hv=>?_⟩,rfl⟩;rw [AV.ren,VR] at hv;subst hv;exact .nl e [] none 0 CR.nilS fun _=>⟨rfl,rfl⟩
 ·have:=kg2 h hn;subst this;rw [ql4];exact ⟨.refl _,yi8 t x⟩
def jv6 {U:Nat->Type} {a:AV U} {i:Nat} (h:kg5 a=some i):a=.own i:=by cases a<;>simp_all [kg5]
def qt8 {U:Nat->Type} {a:AV U} {i sz o n:Nat} (h:slI a=some (i,sz,o,n)):a=.sl i sz o n:=by cases a<;>simp_all [slI]
def qz1 {U:Nat->Type} {a:AV U} {i o:Nat} (h:km6 a=some (i,o)):a=.ptr i o:=by cases a<;>simp_all [km6]
def kq1 {U:Nat->Type} {a:AV U} {f:FuncId} {aS bs:List (AV U)} (h:fnI a=some (f,aS,bs)):a=.fn (.func f) aS bs:=by
 cases a<;>try (cases h;done)
 rename_i f' _ _;cases f'<;>try (cases h;done)
 simp only [fnI,X0,X7] at h;obtain ⟨rfl,rfl,rfl⟩:=h;rfl
def kd0 {U:Nat->Type} {a:AV U} {aS:List (AV U)} (h:kv7 a=some aS):a=.agg aS:=by cases a<;>simp_all [kv7]
def ke6 {U:Nat->Type} {a b:AV U} {t:TypeId} (h:kw2 a=some (t,b)):a=.ifc t b:=by cases a<;>simp_all [kw2]
def vr4 {U:Nat->Type} {a:AV U} (h:ka9 a=true):a=.raw (.slice none 0 0):=by
 unfold ka9 at h;split at h
 ·rfl
 ·cases h
def kf0 {U:Nat->Type} {k:IntKind} {x:Int} {a:AV U} (h:kw4 k x a=true):a=.cell ⟨.int k,x⟩:=by
 unfold kw4 at h;split at h
 ·rename_i k' y;rw [X3] at h;have:=k9 h.1;subst this;have h2:(show Int from y)=x:=eq_of_beq h.2;subst h2;rfl
 ·cases h
def vr3 {U:Nat->Type} {a:AV U} (h:ka8 a=true):a=.raw (.pointer none):=by
 unfold ka8 at h;split at h
 ·rfl
 ·cases h
def vn8 {U:Nat->Type} {t:Ty} {n:Nat} {a:AV U} {xs:List (den U t)} (h:ka2 t n a=some xs):a=.arr t n xs:=by
 unfold ka2 at h;split at h
 ·split at h
  ·rename_i hb;have:=X1 hb;subst this;split at h
   ·rename_i ht;subst ht;simp only [X0] at h;subst h;rfl
   ·cases h
  ·cases h
 ·cases h
def vx7 {U:Nat->Type} {e:Ty} {o k:Nat} {a:AV U} {xs:List (den U e)} (h:lpI e o a=some (xs,k)):a=.lptr e xs k o:=by
 unfold lpI at h;split at h
 ·split at h
  ·rename_i hb;have:=X1 hb;subst this;split at h
   ·rename_i ht;subst ht;simp only [X0,X7] at h;obtain ⟨rfl,rfl⟩:=h;rfl
   ·cases h
  ·cases h
 ·cases h
def qu3 {U:Nat->Type} {a:AV U} {i o sz n lo m:Nat} (h:kj6 a=some (i,o,sz,n,lo,m)):a=.asl i o sz n lo m:=by cases a<;>simp_all [kj6]
def vn6 {U:Nat->Type} {a:AV U} {i o sz n k c:Nat} (h:vz9 a=some (i,o,sz,n,k,c)):a=.aptr i o sz n k c:=by cases a<;>simp_all [vz9]
def qx5 {U:Nat->Type} {a:AV U} {i:Nat} (h:kk7 a=some i):a=.hmp i:=by cases a<;>simp_all [kk7]
def jd1 {H:List (Ent T.U)} {i:Nat} (h:vk4 T H i=true):H[i]?=some .hid:=by
 unfold vk4 at h;split at h
 ·assumption
 ·cases h
def jz2 {U:Nat->Type} {a:AV U} {i:Nat} (h:mpI a=some i):a=.mp i:=by cases a<;>simp_all [mpI]
def ki0 {U:Nat->Type} {a:AV U} {n:Nat} (h:kw9 n a=true):a=.raw (gd7 n):=by
 unfold kw9 at h;split at h<;>first|(have:=X1 h;subst this;rfl)|cases h
mutual
def qk3 {H:List (Ent T.U)}: ∀(s:Sh) (a:AV T.U) (l l':Src) (x:s.den T),rdS T H s a l=some (x,l')->
  ∃new,RdOk T H a.ids l l' new/\new.length=s.cnt/\ ∀ρ,Places ρ l'->Imp T (a.ren ρ) (mkA T id s x l.length)/\ImpH T (zd0 T H ρ new) (mkE T id s x l.length)
 | .val t,a,l,l',x,h=>by
  unfold rdS at h;split at h
  ·rename_i y hy;simp only [X0,X7] at h;obtain ⟨rfl,rfl⟩:=h;refine ⟨[],.nil (by rw [(qg3 hy id).2];intro j hj;cases hj),rfl,fun ρ hρ=>⟨?_,.nil⟩⟩;exact (qg3 hy ρ).1
  ·cases h
 | .row e t,a,l,l',x,h=>by
  unfold rdS at h;split at h<;>try (cases h;done)
  rename_i i ha;have:=jv6 ha;subst this;split at h
  ·rename_i xs hx;simp only [X0,X7] at h;obtain ⟨rfl,rfl⟩:=h;have hx:=yf1 hx;refine ⟨[i],.one hx rfl rfl,rfl,fun ρ hρ=>⟨.of_eq ?_,?_⟩⟩
   ·show AV.own (ρ i)=AV.own l.length;rw [show ρ i=l.length from hρ l.length i (by simp)]
   ·rw [ze7 hx];exact .cons (.same _) .nil
  ·cases h
 | .slr e t,a,l,l',x,h=>by
  unfold rdS at h;split at h<;>try (cases h;done)
  rename_i i sz o n ha;have:=qt8 ha;subst this;split at h<;>try (cases h;done)
  rename_i xs hx;split at h<;>try (cases h;done)
  rename_i hsz;simp only [X0,X7] at h;obtain ⟨rfl,rfl⟩:=h;have:=X1 hsz;subst this;have hx:=yf1 hx;refine ⟨[i],.one hx rfl rfl,rfl,fun ρ hρ=>⟨.of_eq ?_,?_⟩⟩
  ·show AV.sl (ρ i) _ o n=AV.sl l.length _ o n;rw [show ρ i=l.length from hρ l.length i (by simp)]
  ·rw [ze7 hx];exact .cons (.same _) .nil
 | .ptr o e cs,a,l,l',x,h=>by
  unfold rdS at h;split at h<;>try (cases h;done)
  rename_i i o' ha;have:=qz1 ha;subst this;split at h<;>try (cases h;done)
  rename_i aS hb;split at h<;>try (cases h;done)
  rename_i ho;have:=X1 ho;subst this;have hb:=yd9 hb;obtain ⟨new,g1,g2,g3⟩:=zf7 cs aS _ _ x h;refine ⟨i::new,.blk hb g1,by rw [U5,g2,Sh.cnt];omega,fun ρ hρ=>?_⟩;obtain ⟨q1,q2⟩:=g3 ρ hρ;rw [show (l++ [some i]).length=l.length+1 by simp] at q1 q2;refine ⟨.of_eq ?_,?_⟩
  ·rw [g1.eq] at hρ;show AV.ptr (ρ i) o'=AV.ptr l.length o';rw [hρ.last]
  ·rw [ze7 hb];exact .cons (.blk q1) q2
 | .slb sz n e cs,a,l,l',x,h=>by
  unfold rdS at h;split at h<;>try (cases h;done)
  rename_i i sz' o n' ha;have:=qt8 ha;subst this;split at h<;>try (cases h;done)
  rename_i aS hb;split at h<;>try (cases h;done)
  rename_i ho;simp only [X3] at ho;have:=X1 ho.1;subst this;have:=X1 ho.2.1;subst this;have:=X1 ho.2.2;subst this;have hb:=yd9 hb;obtain ⟨new,g1,g2,g3⟩:=zf7 cs aS _ _ x h;refine ⟨i::new,.blk hb g1,by rw [U5,g2,Sh.cnt];omega,fun ρ hρ=>?_⟩;obtain ⟨q1,q2⟩:=g3 ρ hρ;rw [show (l++ [some i]).length=l.length+1 by simp] at q1 q2;refine ⟨.of_eq ?_,?_⟩
  ·rw [g1.eq] at hρ;show AV.sl (ρ i) sz' 0 n'=AV.sl l.length sz' 0 n';rw [hρ.last]
  ·rw [ze7 hb];exact .cons (.blk q1) q2
 | .at_ p o,a,l,l',x,h=>by
  unfold rdS at h;split at h<;>try (cases h;done)
  rename_i i o' ha;have:=qz1 ha;subst this;split at h
  ·rename_i hb;simp only [X0,X7] at h;obtain ⟨_,rfl⟩:=h;simp only [X3] at hb;have:=X1 hb.1;subst this;have hs:=zk1 hb.2;refine ⟨[],.nil (by intro j hj;simp [AV.ids] at hj;subst hj;exact X6 hs),rfl,fun ρ hρ=>⟨.of_eq ?_,.nil⟩⟩;show AV.ptr (ρ i) o'=AV.ptr p o';rw [hρ p i hs]
  ·cases h
 | .own p,a,l,l',x,h=>by
  unfold rdS at h;split at h<;>try (cases h;done)
  rename_i i ha;have:=jv6 ha;subst this;split at h
  ·rename_i hb;simp only [X0,X7] at h;obtain ⟨_,rfl⟩:=h;have hs:=zk1 hb;refine ⟨[],.nil (by intro j hj;simp [AV.ids] at hj;subst hj;exact X6 hs),rfl,fun ρ hρ=>⟨.of_eq ?_,.nil⟩⟩;show AV.own (ρ i)=AV.own p;rw [hρ p i hs]
  ·cases h
 | .part p sz,a,l,l',x,h=>by
  unfold rdS at h;split at h<;>try (cases h;done)
  rename_i i sz' o n ha;have:=qt8 ha;subst this;split at h
  ·rename_i hb;simp only [X0,X7] at h;obtain ⟨rfl,rfl⟩:=h;simp only [X3] at hb;have:=X1 hb.1;subst this;have hs:=zk1 hb.2;refine ⟨[],.nil (by intro j hj;simp [AV.ids] at hj;subst hj;exact X6 hs),rfl,fun ρ hρ=>⟨.of_eq ?_,.nil⟩⟩;show AV.sl (ρ i) sz' o n=AV.sl p sz' o n;rw [hρ p i hs]
  ·cases h
 | .fn f a b,c,l,l',x,h=>by
  unfold rdS at h;split at h<;>try (cases h;done)
  rename_i f' aS bs ha;have:=kq1 ha;subst this;split at h<;>try (cases h;done)
  rename_i y l1 hy;split at h<;>try (cases h;done)
  rename_i hf;have:=X1 hf;subst this;obtain ⟨z,hz,rfl⟩:=ye8 h;obtain ⟨n1,g1,g2,g3⟩:=zf7 a aS _ _ y hy;obtain ⟨n2,k1,k2,k3⟩:=zf7 b bs _ _ z hz;refine ⟨n1++n2,by rw [AV.ids];exact g1.app k1,by rw [X9,g2,k2,Sh.cnt],fun ρ hρ=>?_⟩;obtain ⟨q1,q2⟩:=g3 ρ (by rw [k1.eq] at hρ;exact hρ.pre);obtain ⟨q3,q4⟩:=k3 ρ hρ;have hlen:l1.length=l.length+zd1 a:=by rw [g1.eq,X9,U7,g2]
  rw [hlen] at q3 q4;refine ⟨?_,?_⟩
  ·show Imp T (.fn (.func f') (zh7 ρ aS) (zh7 ρ bs)) (.fn (.func f') (zi5 T id a y l.length) (zi5 T id b z (l.length+zd1 a)));exact q1.fn q3
  ·rw [zq7];exact q2.app q4
 | .agg cs,a,l,l',x,h=>by
  unfold rdS at h;split at h<;>try (cases h;done)
  rename_i aS ha;have:=kd0 ha;subst this;obtain ⟨new,g1,g2,g3⟩:=zf7 cs aS _ _ x h;refine ⟨new,by rw [AV.ids];exact g1,by rw [g2,Sh.cnt],fun ρ hρ=>?_⟩;obtain ⟨q1,q2⟩:=g3 ρ hρ;exact ⟨(show Imp T (.agg (zh7 ρ aS)) (.agg (zi5 T id cs x l.length)) from q1.agg),q2⟩
 | .ifc t s,a,l,l',x,h=>by
  unfold rdS at h;split at h<;>try (cases h;done)
  rename_i t' a ha;have:=ke6 ha;subst this;split at h
  ·rename_i ht;have:=X1 ht;subst this;obtain ⟨new,g1,g2,g3⟩:=qk3 s a _ _ x h;refine ⟨new,by rw [AV.ids];exact g1,by rw [g2,Sh.cnt],fun ρ hρ=>?_⟩;obtain ⟨q1,q2⟩:=g3 ρ hρ;exact ⟨(show Imp T (.ifc t' (a.ren ρ)) (.ifc t' (mkA T id s x l.length)) from q1.ifc),q2⟩
  ·cases h
 | .nils,a,l,l',x,h=>by
  unfold rdS at h;split at h<;>try (cases h;done)
  rename_i ha;have:=vr4 ha;subst this;simp only [X0,X7] at h;obtain ⟨_,rfl⟩:=h;exact ⟨[],.nil (by intro j hj;cases hj),rfl,fun ρ hρ=>⟨.of_eq rfl,.nil⟩⟩
 | .nilp,a,l,l',x,h=>by
  unfold rdS at h;split at h<;>try (cases h;done)
  rename_i ha;have:=vr3 ha;subst this;simp only [X0,X7] at h;obtain ⟨_,rfl⟩:=h;exact ⟨[],.nil (by intro j hj;cases hj),rfl,fun ρ hρ=>⟨.of_eq rfl,.nil⟩⟩
 | .lit k y,a,l,l',x,h=>by
  unfold rdS at h;split at h<;>try (cases h;done)
  rename_i ha;have:=kf0 ha;subst this;simp only [X0,X7] at h;obtain ⟨_,rfl⟩:=h;exact ⟨[],.nil (by intro j hj;cases hj),rfl,fun ρ hρ=>⟨.of_eq (by rw [AV.ren];rfl),.nil⟩⟩
 | .arr t n,a,l,l',x,h=>by
  unfold rdS at h;split at h
  ·rename_i xs hx;simp only [X0,X7] at h;obtain ⟨rfl,rfl⟩:=h;have:=vn8 hx;subst this;exact ⟨[],.nil (by intro j hj;cases hj),rfl,fun ρ hρ=>⟨.of_eq rfl,.nil⟩⟩
  ·cases h
 | .lp e o,a,l,l',x,h=>by
  unfold rdS at h;split at h
  ·rename_i y hx;obtain ⟨xs,k⟩:=y;simp only [X0,X7] at h;obtain ⟨rfl,rfl⟩:=h;have:=vx7 hx;subst this;exact ⟨[],.nil (by intro j hj;cases hj),rfl,fun ρ hρ=>⟨.of_eq rfl,.nil⟩⟩
  ·cases h
 | .lpk e k o,a,l,l',x,h=>by
  unfold rdS at h;split at h<;>try (cases h;done)
  rename_i y hx;split at h<;>try (cases h;done)
  rename_i hk;obtain ⟨xs,k'⟩:=y;have:=X1 hk;subst this;simp only [X0,X7] at h;obtain ⟨rfl,rfl⟩:=h;have:=vx7 hx;subst this;exact ⟨[],.nil (by intro j hj;cases hj),rfl,fun ρ hρ=>⟨.of_eq rfl,.nil⟩⟩
 | .asp p o sz n,a,l,l',x,h=>by
  unfold rdS at h;split at h<;>try (cases h;done)
  rename_i i o' sz' n' lo m ha;have:=qu3 ha;subst this;split at h
  ·rename_i hb;simp only [X0,X7] at h;obtain ⟨rfl,rfl⟩:=h;simp only [X3] at hb;have hs:=zk1 hb.1;have:=X1 hb.2.1;subst this;have:=X1 hb.2.2.1;subst this;have:=X1 hb.2.2.2;subst this;refine ⟨[],.nil (by intro j hj;simp [AV.ids] at hj;subst hj;exact X6 hs),rfl,fun ρ hρ=>⟨.of_eq ?_,.nil⟩⟩;show AV.asl (ρ i) _ _ _ _ _=AV.asl p _ _ _ _ _;rw [hρ p i hs]
  ·cases h
 | .asn e cs o sz n,a,l,l',x,h=>by
  unfold rdS at h;split at h<;>try (cases h;done)
  rename_i i o' sz' n' lo m ha;have:=qu3 ha;subst this;split at h<;>try (cases h;done)
  rename_i aS hb;split at h<;>try (cases h;done)
  rename_i ho;simp only [X3] at ho;have:=X1 ho.1;subst this;have:=X1 ho.2.1;subst this;have:=X1 ho.2.2;subst this;have hb:=yd9 hb;obtain ⟨y,hy,rfl⟩:=ye8 h;obtain ⟨new,g1,g2,g3⟩:=zf7 cs aS _ _ y hy;refine ⟨i::new,.blk hb g1,by rw [U5,g2,Sh.cnt];omega,fun ρ hρ=>?_⟩;obtain ⟨q1,q2⟩:=g3 ρ hρ;rw [show (l++ [some i]).length=l.length+1 by simp] at q1 q2;refine ⟨.of_eq ?_,?_⟩
  ·rw [g1.eq] at hρ;show AV.asl (ρ i) _ _ _ lo m=AV.asl l.length _ _ _ lo m;rw [hρ.last]
  ·rw [ze7 hb];exact .cons (.blk q1) q2
 | .ap p o sz n c,a,l,l',x,h=>by
  unfold rdS at h;split at h<;>try (cases h;done)
  rename_i i o' sz' n' k c' ha;have:=vn6 ha;subst this;split at h
  ·rename_i hb;simp only [X0,X7] at h;obtain ⟨rfl,rfl⟩:=h;simp only [X3] at hb;have hs:=zk1 hb.1;have:=X1 hb.2.1;subst this;have:=X1 hb.2.2.1;subst this;have:=X1 hb.2.2.2.1;subst this;have:=X1 hb.2.2.2.2;subst this;refine ⟨[],.nil (by intro j hj;simp [AV.ids] at hj;subst hj;exact X6 hs),rfl,fun ρ hρ=>⟨.of_eq ?_,.nil⟩⟩;show AV.aptr (ρ i) _ _ _ _ _=AV.aptr p _ _ _ _ _;rw [hρ p i hs]
  ·cases h
 | .mp kd keys cs,a,l,l',x,h=>by
  unfold rdS at h;split at h<;>try (cases h;done)
  rename_i i ha;have:=jz2 ha;subst this;split at h<;>try (cases h;done)
  rename_i aS hb;have hb:=je2 hb;obtain ⟨new,g1,g2,g3⟩:=zf7 cs aS _ _ x h;refine ⟨i::new,.map hb (jj9 keys aS) g1,by rw [U5,g2,Sh.cnt];omega,fun ρ hρ=>?_⟩;obtain ⟨q1,q2⟩:=g3 ρ hρ;rw [show (l++ [some i]).length=l.length+1 by simp] at q1 q2;refine ⟨.of_eq ?_,?_⟩
  ·rw [g1.eq] at hρ;show AV.mp (ρ i)=AV.mp l.length;rw [hρ.last]
  ·rw [ze7 hb];refine .cons ?_ q2;show ImpE T (.map kd (jx6 ρ (yf6 keys aS))) _;rw [yj0];exact .map q1
 | .mpo p,a,l,l',x,h=>by
  unfold rdS at h;split at h<;>try (cases h;done)
  rename_i i ha;have:=jz2 ha;subst this;split at h
  ·rename_i hb;simp only [X0,X7] at h;obtain ⟨_,rfl⟩:=h;have hs:=zk1 hb;refine ⟨[],.nil (by intro j hj;simp [AV.ids] at hj;subst hj;exact X6 hs),rfl,fun ρ hρ=>⟨.of_eq ?_,.nil⟩⟩;show AV.mp (ρ i)=AV.mp p;rw [hρ p i hs]
  ·cases h
 | .rw n,a,l,l',x,h=>by
  unfold rdS at h;split at h<;>try (cases h;done)
  rename_i ha;have:=ki0 ha;subst this;simp only [X0,X7] at h;obtain ⟨_,rfl⟩:=h;exact ⟨[],.nil (by intro j hj;cases hj),rfl,fun ρ hρ=>⟨.of_eq (by rw [AV.ren];rfl),.nil⟩⟩
 | .tm kd t,a,l,l',x,h=>by
  unfold rdS at h;split at h<;>try (cases h;done)
  rename_i i ha;have:=jz2 ha;subst this;split at h
  ·rename_i xs hx;simp only [X0,X7] at h;obtain ⟨rfl,rfl⟩:=h;have hx:=js2 hx;refine ⟨[i],.one hx rfl rfl,rfl,fun ρ hρ=>⟨.of_eq ?_,?_⟩⟩
   ·show AV.mp (ρ i)=AV.mp l.length;rw [show ρ i=l.length from hρ l.length i (by simp)]
   ·rw [ze7 hx];exact .cons (.same _) .nil
  ·cases h
 | .dr e d fe,a,l,l',x,h=>by
  unfold rdS at h;split at h<;>try (cases h;done)
  rename_i i ha;have:=jv6 ha;subst this;split at h
  ·rename_i xs hx;simp only [X0,X7] at h;obtain ⟨rfl,rfl⟩:=h;have hx:=jo6 hx;refine ⟨[i],.one hx rfl rfl,rfl,fun ρ hρ=>⟨.of_eq ?_,?_⟩⟩
   ·show AV.own (ρ i)=AV.own l.length;rw [show ρ i=l.length from hρ l.length i (by simp)]
   ·rw [ze7 hx];exact .cons (.same _) .nil
  ·cases h
 | .pm k be d,a,l,l',x,h=>by
  unfold rdS at h;split at h<;>try (cases h;done)
  rename_i i ha;have:=jz2 ha;subst this;split at h
  ·rename_i xs hx;simp only [X0,X7] at h;obtain ⟨rfl,rfl⟩:=h;have hx:=jq8 hx;refine ⟨[i],.one hx rfl rfl,rfl,fun ρ hρ=>⟨.of_eq ?_,?_⟩⟩
   ·show AV.mp (ρ i)=AV.mp l.length;rw [show ρ i=l.length from hρ l.length i (by simp)]
   ·rw [ze7 hx];exact .cons (.same _) .nil
  ·cases h
 | .gm,a,l,l',x,h=>by
  unfold rdS at h;split at h<;>try (cases h;done)
  rename_i i ha;have:=qx5 ha;subst this;split at h
  ·rename_i hx;simp only [X0,X7] at h;obtain ⟨rfl,rfl⟩:=h;have hx:=jd1 hx;refine ⟨[i],.one hx rfl rfl,rfl,fun ρ hρ=>⟨.of_eq ?_,?_⟩⟩
   ·show AV.hmp (ρ i)=AV.hmp l.length;rw [show ρ i=l.length from hρ l.length i (by simp)]
   ·rw [ze7 hx];exact .cons (.same _) .nil
  ·cases h
 | .gmo p,a,l,l',x,h=>by
  unfold rdS at h;split at h<;>try (cases h;done)
  rename_i i ha;have:=qx5 ha;subst this;split at h
  ·rename_i hb;simp only [X0,X7] at h;obtain ⟨_,rfl⟩:=h;have hs:=zk1 hb;refine ⟨[],.nil (by intro j hj;simp [AV.ids] at hj;subst hj;exact X6 hs),rfl,fun ρ hρ=>⟨.of_eq ?_,.nil⟩⟩;show AV.hmp (ρ i)=AV.hmp p;rw [hρ p i hs]
  ·cases h
def zf7 {H:List (Ent T.U)}: ∀(ss:List Sh) (aS:List (AV T.U)) (l l':Src) (x:zg8 T ss),yg1 T H ss aS l=some (x,l')->
  ∃new,RdOk T H (j8 aS) l l' new/\new.length=zd1 ss/\ ∀ρ,Places ρ l'->ImpL T (zh7 ρ aS) (zi5 T id ss x l.length)/\ImpH T (zd0 T H ρ new) (zo4 T id ss x l.length)
 | [],aS,l,l',x,h=>by
  cases aS with
  |cons _ _=>unfold yg1 at h;cases h
  |nil=>
   unfold yg1 at h;simp only [X0,X7] at h;obtain ⟨_,rfl⟩:=h;exact ⟨[],.nil (by intro j hj;cases hj),rfl,fun ρ hρ=>⟨.nil,.nil⟩⟩
 |s::r,aS,l,l',x,h=>by
  cases aS with
  |nil=>unfold yg1 at h;cases h
  |cons a aS=>
   unfold yg1 at h;simp only at h;split at h<;>try (cases h;done)
   rename_i y l1 hy;obtain ⟨z,hz,rfl⟩:=ye8 h;obtain ⟨n1,g1,g2,g3⟩:=qk3 s a _ _ y hy;obtain ⟨n2,k1,k2,k3⟩:=zf7 r aS _ _ z hz;refine ⟨n1++n2,by rw [j8];exact g1.app k1,by rw [X9,g2,k2,zd1],fun ρ hρ=>?_⟩;obtain ⟨q1,q2⟩:=g3 ρ (by rw [k1.eq] at hρ;exact hρ.pre);obtain ⟨q3,q4⟩:=k3 ρ hρ;have hlen:l1.length=l.length+s.cnt:=by rw [g1.eq,X9,U7,g2]
   rw [hlen] at q3 q4;exact ⟨(.cons q1 q3),by rw [zq7];exact q2.app q4⟩
end
end
end Go.X
namespace Go.X
open Go.RowKit Go.V
section
variable {T:Tab} {P:Program} {w w':World} {S S':List Nat} {φ φ':Nat->RA} {w0:World} {S0:Ow} {F:AF T} {H:List (Ent T.U)} {F' F'':PF}
def yj6 (H:List (Ent T.U)) (ρ:Nat->Nat): ∀l:Src,(zh4 T H ρ l).length=l.length
 | []=>rfl
 |some i::r=>by simp [zh4,yj6 H ρ r]
 |none::r=>by simp [zh4,yj6 H ρ r]
def yj5 (H:List (Ent T.U)) (ρ:Nat->Nat): ∀l m:Src,zh4 T H ρ (l++m)=zh4 T H ρ l++zh4 T H ρ m
 | [],_=>rfl
 |some i::r,m=>by simp [zh4,yj5 H ρ r m]
 |none::r,m=>by simp [zh4,yj5 H ρ r m]
def ya2 (H:List (Ent T.U)) (ρ:Nat->Nat): ∀l:List Nat,zh4 T H ρ (l.map some)=zd0 T H ρ l
 | []=>rfl
 |i::r=>by
  rw [U1,zh4,ya2 H ρ r];cases hi:H[i]? with
  |none=>simp only [zd0,hi]
  |some e=>simp only [zd0,hi]
def zr1 {H:List (Ent T.U)} {ρ:Nat->Nat} {f:Ent T.U}: ∀ {l:Src} {j:Nat},(zh4 T H ρ l)[j]?=some f->f=.gone\/ ∃i e,l[j]?=some (some i)/\H[i]?=some e/\f=e.ren ρ
 | [],j,h=>by simp [zh4] at h
 |some i::r,0,h=>by
  simp only [zh4,Y4,X0] at h;split at h
  ·rename_i e he;exact .inr ⟨i,e,rfl,he,h.symm⟩
  ·exact .inl h.symm
 |none::r,0,h=>by simp only [zh4,Y4,X0] at h;exact .inl h.symm
 |some i::r,j+1,h=>by
  rcases zr1 (l:=r) (j:=j) (by simpa [zh4] using h) with h|⟨i,e,a,b,c⟩
  ·exact .inl h
  ·exact .inr ⟨i,e,by simpa using a,b,c⟩
 |none::r,j+1,h=>by
  rcases zr1 (l:=r) (j:=j) (by simpa [zh4] using h) with h|⟨i,e,a,b,c⟩
  ·exact .inl h
  ·exact .inr ⟨i,e,by simpa using a,b,c⟩
def φO (l:Src) (φ:Nat->RA) (j:Nat):RA:=match l[j]? with|some (some i)=>φ i|_=>φ j
def φO_at {l:Src} {j i:Nat} (h:l[j]?=some (some i)):φO l φ j=φ i:=by unfold φO;rw [h]
def φO_idx {l:Src} {i:Nat} (h:some i∈l):φO l φ (yu3 i l)=φ i:=φO_at (zr2 h)
def Sim.src (h:Sim T w0 S0 ⟨F,H⟩ F' w S φ) {l:Src} (hn:zt8 l=true) (hp: ∀k,k<S0.pin.length->l[k]?=some (some k)\/l[k]?=some none)
  (h2: ∀i e,some i∈l->H[i]?=some e-> ∀j∈e.cellIds,some j∈l):Sim T w0 S0 ⟨[],zh4 T H (fun i=>yu3 i l) l⟩ [] w S (φO l φ):=by
 refine ⟨fun i a ha=>by simp [AF.get] at ha,fun i a ha=>by simp [AF.get] at ha,h.chg,h.own,h.ex,?_,fun k r hk=>?_,?_,?_,?_⟩
 ·intro j f hf hl a ha;rcases zr1 hf with rfl|⟨i,e,h5,h6,rfl⟩
  ·cases hl
  ·rw [φO_at h5] at ha;exact h.lives i e h6 (by rw [Ent.ren_live] at hl;exact hl) a ha
 ·have hk':=hp k (X2.1 hk).1;have hφ:φO l φ k=φ k:=by
   rcases hk' with h|h
   ·exact φO_at h
   ·unfold φO;rw [h]
  refine ⟨by rw [hφ];exact (h.pins k r hk).1,?_⟩;simp only [yj6];rcases hk' with h|h<;>exact (X2.1 h).1
 ·intro j f hf;rcases zr1 hf with rfl|⟨i,e,h5,h6,rfl⟩
  ·trivial
  ·exact (h.ents i e h6).ren (φO_at h5) fun k hk=>φO_idx (h2 i e (X6 h5) h6 k hk)
 ·intro j f hf k hk;rcases zr1 hf with rfl|⟨i,e,h5,h6,rfl⟩
  ·cases hk
  ·rw [Ent.ren_cellIds] at hk;obtain ⟨m,hm,rfl⟩:=U3.1 hk;simp only [yj6];exact (X2.1 (zr2 (h2 i e (X6 h5) h6 m hm))).1
 ·intro j k f f' hf hf' hl hl' hjk a b ha hb;rcases zr1 hf with rfl|⟨i,e,h5,h6,rfl⟩
  ·cases hl
  ·rcases zr1 hf' with rfl|⟨i',e',h5',h6',rfl⟩
   ·cases hl'
   ·rw [φO_at h5] at ha;rw [φO_at h5'] at hb;rw [Ent.ren_live] at hl hl';exact h.apart i i' e e' h6 h6' hl hl' (fun e=>hjk (by subst e;exact ye7 hn h5 h5')) a b ha hb
def Sim.unpin {c x:List Nat} {p:List RA} (h:Sim T w0 ⟨c,x,p⟩ ⟨F,H⟩ F' w S φ):Sim T w0 ⟨c,x,[]⟩ ⟨F,H⟩ F' w S φ:=
 ⟨h.fr,h.ids,h.chg,h.own,h.ex,h.lives,fun k r hk=>by simp at hk,h.ents,h.eids,h.apart⟩
def Sim.start (h:Sim T w0 S0 ⟨F,H⟩ F' w S φ):Sim T w ⟨zd6 φ H.length,S,(List.range H.length).map φ⟩ ⟨[],H⟩ [] w S φ:=by
 refine ⟨fun i a ha=>by simp [AF.get] at ha,fun i a ha=>by simp [AF.get] at ha,Chg.refl _ _,fun b hb=>⟨.inl hb,(h.own b hb).2⟩,fun b hb _ _=>hb,fun i e he hl a ha=>⟨(h.lives i e he hl a ha).1,.inl ?_⟩,fun k r hk=>?_,h.ents,h.eids,h.apart⟩
 ·unfold zd6;exact V8.2 ⟨i,U9.2 (X2.1 he).1,zn2.2 ⟨a,ha,rfl⟩⟩
 ·have hlt:=(X2.1 hk).1;simp at hlt;simp [hlt] at hk;exact ⟨.of hk,hlt⟩
def Sim.slots (h:Sim T w0 S0 ⟨[],H⟩ F'' w S φ) {aS:List (AV T.U)} {vs:List Value} (hv:VRL T w S φ aS vs) (ho: ∀a∈aS,okA H a):Sim T w0 S0 ⟨yj2 T aS 0,H⟩ (jk0 vs 0) w S φ:=
 ⟨fun i a ha=>yv5 hv ha,fun i a ha=>ho a (yv6 ha),h.chg,h.own,h.ex,h.lives,h.pins,h.ents,h.eids,h.apart⟩
def σJ (ids:List Nat) (n:Nat) (j:Nat):Nat:=match Nat.blt j ids.length with|true=>ids.getD j 0|false=>n+(j-ids.length)
def σJ_lo {ids:List Nat} {n j:Nat} (h:j<ids.length):ids[j]?=some (σJ ids n j):=by
 unfold σJ;rw [show Nat.blt j ids.length=true by rw [U8];exact h];simp [Y0 h]
def σJ_hi {ids:List Nat} {n j:Nat} (h:ids.length<=j):σJ ids n j=n+(j-ids.length):=by
 unfold σJ;rw [show Nat.blt j ids.length=false by cases hb:Nat.blt j ids.length;rfl;rw [U8] at hb;omega]
def Sim.join (h:Sim T w0 S0 ⟨F,H⟩ F' w S φ) {ids:List Nat} (hn:zc3 ids=true) (hlv: ∀i∈ids,∃e,H[i]?=some e/\e.live=true) {φc φ1:Nat->RA} (hφc: ∀k i,ids[k]?=some i->φc k=φ i) {F1:PF} {S1:List Nat} {Pn Nw:List (Ent T.U)}
  (hc:Sim T w ⟨zd6 φc ids.length,S,(List.range ids.length).map φc⟩ ⟨[],Pn++Nw⟩ F1 w' S1 φ1) (hP:Pn.length=ids.length)
  (hty: ∀(k i:Nat) (e:TypeId) (t:Ty) (ys:List (den T.U t)),ids[k]?=some i->Pn[k]?=some (.row e t ys)-> ∃xs,H[i]?=some (.row e t xs)):
  ∃φ2,Sim T w0 S0 ⟨F,zn7 T H ids (Pn.map (Ent.ren (σJ ids H.length)))++Nw.map (Ent.ren (σJ ids H.length))⟩ F' w' S1 φ2/\
   ∀a v,VR T w' S1 φ1 a v->(∀i∈a.ids,i<Pn.length+Nw.length)->VR T w' S1 φ2 (a.ren (σJ ids H.length)) v:=by
 generalize hσ:σJ ids H.length=σ
 let φ2:Nat->RA:=fun i=>if i<H.length then (if i∈ids then φ1 (ids.idxOf i) else φ i) else φ1 (ids.length+(i-H.length))
 have hidl: ∀k i,ids[k]?=some i->i<H.length:=fun k i hk=>by
  obtain ⟨e,he,_⟩:=hlv i (X6 hk);exact (X2.1 he).1
 have hnewφ: ∀m,φ2 (H.length+m)=φ1 (ids.length+m):=fun m=>by
  show (if H.length+m<H.length then _ else _)=_;rw [if_neg (by omega),N1]
 have hpin: ∀k i,ids[k]?=some i->RSame (φ1 k) (φ i):=by
  intro k i hk;have hlt:=(X2.1 hk).1;rw [<-hφc k i hk];exact (hc.pins k (φc k) (by simp [hlt])).1
 have hidE: ∀k i,ids[k]?=some i->φ2 i=φ1 k:=by
  intro k i hk;have hm:=X6 hk;show (if i<H.length then (if i∈ids then φ1 (ids.idxOf i) else φ i) else _)=_;rw [if_pos (hidl k i hk),if_pos hm];have h1:ids[ids.idxOf i]?=some i:=by
   have hlt:=List.idxOf_lt_length_of_mem hm;rw [Y0 hlt,List.getElem_idxOf hlt]
  rw [zw9 hn h1 hk]
 have holdE: ∀i,i∉ids->i<H.length->φ2 i=φ i:=fun i hi hl=>by
  show (if i<H.length then (if i∈ids then φ1 (ids.idxOf i) else φ i) else _)=_;rw [if_pos hl,if_neg hi]
 have hold: ∀i,i<H.length->RSame (φ2 i) (φ i):=fun i hl=>by
  by_cases hi:i∈ids
  ·obtain ⟨k,hk⟩:=Y9.1 hi;rw [hidE k i hk];exact hpin k i hk
  ·exact .of (holdE i hi hl)
 have hσφ: ∀j,φ2 (σ j)=φ1 j:=by
  intro j;by_cases hj:j<ids.length
  ·have hs:=σJ_lo (n:=H.length) hj;rw [hσ] at hs;exact hidE j _ hs
  ·rw [<-hσ,σJ_hi (by omega),hnewφ];congr 1;omega
 have hσlt: ∀j,j<Pn.length+Nw.length->σ j<(zn7 T H ids (Pn.map (Ent.ren σ))++Nw.map (Ent.ren σ)).length:=by
  intro j hj;rw [X9,za7,U7];by_cases hlt:j<ids.length
  ·have hs:=σJ_lo (n:=H.length) hlt;rw [hσ] at hs;have:=hidl j _ hs;omega
  ·rw [<-hσ,σJ_hi (by omega)];omega
 have hchg: ∀b∈zd6 φc ids.length,∃(k i:Nat) (a:Addr),ids[k]?=some i/\At (φ i) a/\a.block=b:=by
  intro b hb;obtain ⟨k,hk,a,ha,rfl⟩:=yv7 hb;have hg:=Y0 hk;exact ⟨k,_,a,hg,by rw [<-hφc k _ hg];exact ha,rfl⟩
 have hTS: ∀b∈zd6 φc ids.length,b∈S:=by
  intro b hb;obtain ⟨k,i,a,hk,ha,rfl⟩:=hchg b hb;obtain ⟨e,he,hl⟩:=hlv i (X6 hk);exact zd5 h he hl ha
 have hTc: ∀b∈zd6 φc ids.length,b∈S0.chg\/w0.heap.size<=b:=by
  intro b hb;obtain ⟨k,i,a,hk,ha,rfl⟩:=hchg b hb;obtain ⟨e,he,hl⟩:=hlv i (X6 hk);exact (h.lives i e he hl a ha).2
 have hS1: ∀b∈S1,b∈S\/w.heap.size<=b:=fun b hb=>(hc.own b hb).1;have hlen:(Pn.map (Ent.ren σ)).length=ids.length:=by rw [U7,hP]
 have get: ∀(j:Nat) (f:Ent T.U),(zn7 T H ids (Pn.map (Ent.ren σ))++Nw.map (Ent.ren σ))[j]?=some f->
   (∃(k:Nat) (f0:Ent T.U),ids[k]?=some j/\Pn[k]?=some f0/\f=f0.ren σ/\j<H.length)\/(j∉ids/\H[j]?=some f/\j<H.length)\/(∃(m:Nat) (f0:Ent T.U),j=H.length+m/\(Pn++Nw)[ids.length+m]?=some f0/\f=f0.ren σ):=by
  intro j f hf;by_cases hj:j<H.length
  ·rw [X8 (by rw [za7];exact hj)] at hf;rcases zi2 ids _ H hlen hf with ⟨k,g1,g2⟩|⟨g1,g2⟩
   ·rw [W4] at g2;cases hp:Pn[k]? with
    |none=>rw [hp] at g2;cases g2
    |some f0=>rw [hp] at g2;simp only [Z8,X0] at g2;exact .inl ⟨k,f0,g1,hp,g2.symm,hj⟩
   ·exact .inr (.inl ⟨g1,g2,hj⟩)
  ·rw [Z2 (by rw [za7];omega),za7,W4] at hf;cases hp:Nw[j-H.length]? with
   |none=>rw [hp] at hf;cases hf
   |some f0=>
    rw [hp] at hf;simp only [Z8,X0] at hf;refine .inr (.inr ⟨j-H.length,f0,by omega,?_,hf.symm⟩);rw [Z2 (by omega),hP,N1];exact hp
 have getP: ∀ {k:Nat} {f0:Ent T.U},Pn[k]?=some f0->(Pn++Nw)[k]?=some f0:=fun hk=>by
  rw [X8 (X2.1 hk).1];exact hk
 refine ⟨φ2,⟨?_,?_,h.chg.step hc.chg hTc,fun b hb=>⟨?_,(hc.own b hb).2⟩,fun b hb q1 q2=>hc.ex b (h.ex b hb q1 q2) (fun hm=>(hTc b hm).elim q1 fun hm=>by omega) (h.own b (h.ex b hb q1 q2)).2,?_,fun k r hk=>?_,?_,?_,?_⟩,fun a v hv hi=>hv.ren T fun i _=>hσφ i⟩
 ·intro i a ha;obtain ⟨v,h1,h2⟩:=h.fr i a ha;exact ⟨v,h1,(h2.chg T hc.chg hTS hS1).phiS fun j hj=>hold j ((h.ids i a ha).1 j hj)⟩
 ·intro i a ha;obtain ⟨h1,h2⟩:=h.ids i a ha;refine ⟨fun j hj=>by have:=h1 j hj;simp only [X9,za7] at this⊢;omega,?_⟩;cases a with
  |eptr y sz k c=>
   have hy:=h1 y (by simp [AV.ids]);intro e t xs hx;rcases get y _ hx with ⟨k',f0,g1,g2,g3,_⟩|⟨_,g2,_⟩|⟨m,_,g1,_⟩
   ·cases f0 with
    |row e1 t1 ys=>
     simp only [Ent.ren,Ent.row.injEq] at g3;obtain ⟨rfl,rfl,g3⟩:=g3;have:=eq_of_heq g3;subst this;obtain ⟨zs,g4⟩:=hty k' y _ _ _ g1 g2;obtain ⟨q4,q5⟩:=h2 _ _ _ g4;obtain ⟨_,_,_,n1,_⟩:=h.ents y _ g4;obtain ⟨_,_,_,n2,_⟩:=hc.ents k' _ (getP g2);rw [(hpin k' y g1).2.1] at n2;exact ⟨by omega,q5⟩
    |blk _ _=>cases g3
    |drow _ _ _ _ _=>cases g3
    |pmap _ _ _ _ _=>cases g3
    |map _ _=>cases g3
    |tmap _ _ _=>cases g3
    |hid=>cases g3
    |gone=>cases g3
   ·exact h2 e t xs g2
   ·simp only at hy;omega
  |_=>trivial
 ·rcases (hc.own b hb).1 with hb|hb
  ·exact (h.own b hb).1
  ·exact .inr (W9 h.chg.size hb)
 ·intro j f hf hl a ha;rcases get j f hf with ⟨k,f0,g1,g2,rfl,hj⟩|⟨hni,g2,hj⟩|⟨m,f0,rfl,g2,rfl⟩
  ·rw [hidE k j g1] at ha;have hl0:f0.live=true:=by rw [Ent.ren_live] at hl;exact hl
   refine ⟨(hc.lives _ f0 (getP g2) hl0 a ha).1,?_⟩;rcases (hc.lives _ f0 (getP g2) hl0 a ha).2 with hm|hm
   ·exact hTc _ hm
   ·exact .inr (W9 h.chg.size hm)
  ·rw [holdE j hni hj] at ha;have q:=h.lives j f g2 hl a ha;refine ⟨hc.ex _ q.1 (fun hb=>?_) (h.own _ q.1).2,q.2⟩;obtain ⟨k,i,a',hk,ha',hbe⟩:=hchg _ hb;obtain ⟨e,he,hl'⟩:=hlv i (X6 hk);exact h.apart j i f e g2 he hl hl' (fun e=>hni (e▸X6 hk)) a a' ha ha' hbe.symm
  ·rw [hnewφ] at ha;have hl0:f0.live=true:=by rw [Ent.ren_live] at hl;exact hl
   refine ⟨(hc.lives _ f0 g2 hl0 a ha).1,?_⟩;rcases (hc.lives _ f0 g2 hl0 a ha).2 with hm|hm
   ·exact hTc _ hm
   ·exact .inr (W9 h.chg.size hm)
 ·obtain ⟨g1,g2⟩:=h.pins k r hk;simp only at g2;exact ⟨(hold k g2).trans g1,by simp only [X9,za7];omega⟩
 ·intro j f hf;rcases get j f hf with ⟨k,f0,g1,g2,rfl,hj⟩|⟨hj,g2,hjl⟩|⟨m,f0,rfl,g2,rfl⟩
  ·exact (hc.ents k f0 (getP g2)).ren (hidE k j g1) fun x _=>hσφ x
  ·have hnot:f.live=true-> ∀a,At (φ j) a->a.block∉zd6 φc ids.length:=fun hl a ha hb=>by
    obtain ⟨k,i,a',hk,ha',hbe⟩:=hchg _ hb;obtain ⟨e,he,hl'⟩:=hlv i (X6 hk);exact h.apart j i f e g2 he hl hl' (fun e=>hj (e▸X6 hk)) a a' ha ha' hbe.symm
   have h1:=(h.ents j f g2).chg T hc.chg hTS hS1 fun hl a ha=>⟨hnot hl a ha,hc.ex _ (zd5 h g2 hl ha) (hnot hl a ha) (h.own _ (zd5 h g2 hl ha)).2⟩;exact h1.phiE (holdE j hj hjl) fun x hx=>hold x (h.eids j f g2 x hx)
  ·exact (hc.ents _ f0 g2).ren (hnewφ m) fun x _=>hσφ x
 ·intro j f hf x hx;rcases get j f hf with ⟨k,f0,g1,g2,rfl,hj⟩|⟨hj,g2,hjl⟩|⟨m,f0,rfl,g2,rfl⟩
  ·rw [Ent.ren_cellIds] at hx;obtain ⟨y,hy,rfl⟩:=U3.1 hx;exact hσlt y (by have:=hc.eids k f0 (getP g2) y hy;simp only [X9] at this;exact this)
  ·have:=h.eids j f g2 x hx;simp only [X9,za7] at this⊢;omega
  ·rw [Ent.ren_cellIds] at hx;obtain ⟨y,hy,rfl⟩:=U3.1 hx;exact hσlt y (by have:=hc.eids _ f0 g2 y hy;simp only [X9] at this;exact this)
 ·
  have cross: ∀(j:Nat) (f:Ent T.U),j∉ids->H[j]?=some f->f.live=true-> ∀(m:Nat) (f0:Ent T.U),(Pn++Nw)[m]?=some f0->f0.live=true-> ∀a b,At (φ j) a->At (φ1 m) b->a.block≠b.block:=by
   intro j f hni g2 hl m f0 hm hl0 a b ha hb;rcases (hc.lives _ f0 hm hl0 b hb).2 with hb'|hb'
   ·obtain ⟨k,i,a',hk,ha',hbe⟩:=hchg _ hb';obtain ⟨e,he,hl'⟩:=hlv i (X6 hk);rw [<-hbe];exact h.apart j i f e g2 he hl hl' (fun e=>hni (e▸X6 hk)) a a' ha ha'
   ·have:=(h.own _ (zd5 h g2 hl ha)).2;omega
  have side: ∀(j:Nat) (f:Ent T.U),(zn7 T H ids (Pn.map (Ent.ren σ))++Nw.map (Ent.ren σ))[j]?=some f->f.live=true->
    (∃(k:Nat) (f0:Ent T.U),(Pn++Nw)[k]?=some f0/\f0.live=true/\φ2 j=φ1 k/\j=σ k)\/(j∉ids/\H[j]?=some f/\φ2 j=φ j):=by
   intro j f hf hl;rcases get j f hf with ⟨k,f0,g1,g2,rfl,hj⟩|⟨hni,g2,hj⟩|⟨m,f0,rfl,g2,rfl⟩
   ·refine .inl ⟨k,f0,getP g2,by rw [Ent.ren_live] at hl;exact hl,hidE k j g1,?_⟩;have hs:=σJ_lo (n:=H.length) (X2.1 g1).1;rw [hσ,g1] at hs;exact X5 hs
   ·exact .inr ⟨hni,g2,holdE j hni hj⟩
   ·refine .inl ⟨ids.length+m,f0,g2,by rw [Ent.ren_live] at hl;exact hl,hnewφ m,?_⟩;rw [<-hσ,σJ_hi (by omega)];omega
  intro i j f f' hf hf' hl hl' hij a b ha hb;rcases side i f hf hl with ⟨k,f0,g1,g2,g3,g4⟩|⟨g0,g1,g3⟩<;>rcases side j f' hf' hl' with ⟨k',f0',k1,k2,k3,k4⟩|⟨k0,k1,k3⟩<;>rw [g3] at ha<;>rw [k3] at hb
  ·exact hc.apart k k' f0 f0' g1 k1 g2 k2 (fun e=>hij (by rw [g4,k4,e])) a b ha hb
  ·exact (cross j f' k0 k1 hl' k f0 g1 g2 b a hb ha).symm
  ·exact cross i f g0 g1 hl k' f0' k1 k2 a b ha hb
  ·exact h.apart i j f f' g1 k1 hl hl' hij a b ha hb
end
end Go.X
namespace Go.X
open Go.RowKit Go.V
structure GSpec (T:Tab) where
 ps:List Sh
 post:List PE
 rs:List Sh
 g:zg8 T ps->Option (zv0 T post×zg8 T rs)
section
variable (T:Tab) (P:Program)
def yh1:Src->List Nat
 | []=> []
 |some i::r=>i::yh1 r
 |none::r=>yh1 r
def qa7 (H:List (Ent T.U)):List Nat->List PE->Bool
 | [],ps=>match ps with| []=>true|_::_=>false
 |i::r,ps=>match ps with
  | []=>false
  |p::q=>(match p with| .row e t=>(qa6 T H e t i).isSome|_=>true)&&qa7 H r q
def GOk (f:FuncId) (sp:GSpec T):Prop:= ∀x y,sp.g x=some y-> ∀(w:World) (S:List Nat) (φ:Nat->RA),Sim T w ⟨zd6 φ (zd1 sp.ps),S,(List.range (zd1 sp.ps)).map φ⟩ ⟨[],zo4 T id sp.ps x 0⟩ [] w S φ->
 ∀vs:List Value,VRL T w S φ (zi5 T id sp.ps x 0) vs->(∀a∈zi5 T id sp.ps x 0,okA (zo4 T id sp.ps x 0) a)->
 Calls P f vs.toArray w fun e w'=>match e with
  | .returned v=> ∃(F1:PF) (S1:List Nat) (φ1:Nat->RA) (us:List Value),Sim T w ⟨zd6 φ (zd1 sp.ps),S,(List.range (zd1 sp.ps)).map φ⟩ ⟨[],mkP T id sp.post y.1 sp.post.length++(je6 T id sp.post y.1 sp.post.length++zo4 T id sp.rs y.2 (sp.post.length+zo3 sp.post))⟩ F1 w' S1 φ1/\
    VRL T w' S1 φ1 (zi5 T id sp.rs y.2 (sp.post.length+zo3 sp.post)) us/\v=yo7 us/\ ∀i∈j8 (zi5 T id sp.rs y.2 (sp.post.length+zo3 sp.post)),i<sp.post.length+(zo3 sp.post+zd1 sp.rs)
  |_=>False
def GSpec.toCall {T:Tab} (sp:GSpec T) (alt:CallSpec T):CallSpec T where
 call:=fun aS H K Kp=>match yg1 T H sp.ps aS [] with
  |some (x,l)=>match zc3 (yh1 l)&&qa7 T H (yh1 l) sp.post with
   |true=>j7 (sp.g x) fun y=>K (yk5 T (zi5 T (σJ (yh1 l) H.length) sp.rs y.2 (sp.post.length+zo3 sp.post))) (zn7 T H (yh1 l) (mkP T (σJ (yh1 l) H.length) sp.post y.1 sp.post.length)++(je6 T (σJ (yh1 l) H.length) sp.post y.1 sp.post.length++zo4 T (σJ (yh1 l) H.length) sp.rs y.2 (sp.post.length+zo3 sp.post)))
   |false=>none
  |none=>alt.call aS H K Kp
 q:=alt.q
 isq:=alt.isq
 wr:=fun aS H=>match yg1 T H sp.ps aS [] with|some (_,l)=>yh1 l|none=>alt.wr aS H
def za4:CallSpec T where
 call:=fun _ _ _ _=>none
 q:=fun _ _ _=>none
 isq:=false
 wr:=fun _ _=> []
def vm5:List (Nat×TypeId×Ty×Bool)->List (AV T.U)->List (Ent T.U)->List (AV T.U)×List (Ent T.U)
 | [],aS,H=>(aS,H)
 |(j,e,t,b)::r,aS,H=>match aS[j]? with
  |some (.raw (.slice none 0 0))=>vm5 r (aS.set j (match b with|true=>.own H.length|false=>.sl H.length (szT T t) 0 0)) (H++ [.row e t []])
  |_=>vm5 r aS H
def vm4:List Nat->List (AV T.U)->List (Ent T.U)->List (AV T.U)
 | [],aS,_=>aS
 |j::r,aS,H=>match aS[j]? with
  |some (.own i)=>match H[i]? with
   |some (.row _ t xs)=>vm4 r (aS.set j (.sl i (szT T t) 0 xs.length)) H
   |_=>vm4 r aS H
  |_=>vm4 r aS H
structure Nl where
 rs:List (Nat×TypeId×Ty×Bool)
 ow:List Nat
 bn:List (Nat×Nat×TypeId×Ty)
 z:List (Nat×Ty)
 w:List Nat
def kl4 (post:List PE) (rs:List Sh) (aS:List (AV T.U)) (H:List (Ent T.U)):Option (zv0 T post×zg8 T rs):=
 match rdP T H post 0 (zo5 post 0) with
 |some (y,l)=>match yg1 T H rs aS l with
  |some (z,l')=>match zt8 l' with|true=>some (y,z)|false=>none
  |none=>none
 |none=>none
def jd6 (fn:Func) (nl:Nl) (post:List PE) (rs:List Sh) (st0:St T):Option (zv0 T post×zg8 T rs):=
 match jl8 T P st0 fn.results.toList with
 |some as0=>match vm6 T post.length nl.w as0 st0.H with
  |some (as1,H1)=>
   let p:=vm5 T nl.rs as1 (ze9 T nl.bn H1)
   ke3 T nl.z (vm4 T nl.ow p.1 p.2) p.2 (kl4 T post rs)
  |none=>none
 |none=>none
def jb3 (fn:Func) (nl:Nl) (post:List PE) (rs:List Sh):Ks T (zv0 T post×zg8 T rs):=⟨jd6 T P fn nl post rs,fun _ _=>none,jd6 T P fn nl post rs,fun _ _=>none⟩
noncomputable def yi9 (C:Ctx T) (cuts:List (Pos×Cut)) (fn:Func) (c:Code) (nl:Nl) (ps:List Sh) (post:List PE) (rs:List Sh) (m:Nat) (x:zg8 T ps):Option (zv0 T post×zg8 T rs):=
 evC P C fn.ntmps cuts (run P C fn.ntmps cuts c (jb3 T P fn nl post rs) m) c [] (jb3 T P fn nl post rs) ⟨yj2 T (zi5 T id ps x 0) 0,zo4 T id ps x 0⟩
noncomputable def qu8 (C:Ctx T) (cuts:List (Pos×Cut)) (fn:Func) (c:Code) (nl:Nl) (post:List PE) (rs:List Sh) (m:Nat) (q:Pos) (st:St T):Option (zv0 T post×zg8 T rs):=
 run P C fn.ntmps cuts c (jb3 T P fn nl post rs) m q st
end
section
variable {T:Tab} {P:Program} {w w':World} {S S':List Nat} {φ φ':Nat->RA} {w0:World} {S0:Ow} {F:AF T} {H:List (Ent T.U)} {F':PF}
def ji2: ∀l:List Nat,yh1 (l.map some)=l
 | []=>rfl
 |i::r=>by rw [U1,yh1,ji2 r]
mutual
def qy2 (σ:Nat->Nat): ∀(s:Sh) (x:s.den T) (k:Nat),(mkE T σ s x k).length=s.cnt
 | .row e t,x,k=>rfl
 | .slr e t,x,k=>rfl
 | .ptr o e cs,x,k=>(congrArg (· +1) (zf9 σ cs x (k+1))).trans (J6 _ _)
 | .slb sz n e cs,x,k=>(congrArg (· +1) (zf9 σ cs x (k+1))).trans (J6 _ _)
 | .fn f a b,x,k=>by show (zo4 T σ a x.1 k++zo4 T σ b x.2 (k+zd1 a)).length=zd1 a+zd1 b;rw [X9,zf9 σ a,zf9 σ b]
 | .agg cs,x,k=>zf9 σ cs x k
 | .ifc t s,x,k=>qy2 σ s x k
 | .val _,x,k=>rfl
 | .at_ _ _,x,k=>rfl
 | .own _,x,k=>rfl
 | .part _ _,x,k=>rfl
 | .nils,x,k=>rfl
 | .nilp,x,k=>rfl
 | .lit _ _,x,k=>rfl
 | .arr _ _,x,k=>rfl
 | .lp _ _,x,k=>rfl
 | .asp _ _ _ _,x,k=>rfl
 | .asn e cs o sz n,x,k=>(congrArg (· +1) (zf9 σ cs x.1 (k+1))).trans (J6 _ _)
 | .ap _ _ _ _ _,x,k=>rfl
 | .mp kd keys cs,x,k=>(congrArg (· +1) (zf9 σ cs x (k+1))).trans (J6 _ _)
 | .mpo _,x,k=>rfl
 | .rw _,x,k=>rfl
 | .lpk _ _ _,x,k=>rfl
 | .tm _ _,x,k=>rfl
 | .dr _ _ _,x,k=>rfl
 | .pm _ _ _,x,k=>rfl
 | .gm,x,k=>rfl
 | .gmo _,x,k=>rfl
def zf9 (σ:Nat->Nat): ∀(l:List Sh) (x:zg8 T l) (k:Nat),(zo4 T σ l x k).length=zd1 l
 | [],x,k=>rfl
 |s::r,x,k=>by show (mkE T σ s x.1 k++zo4 T σ r x.2 (k+s.cnt)).length=s.cnt+zd1 r;rw [X9,qy2 σ s,zf9 σ r]
end
def je7 (σ:Nat->Nat): ∀(ps:List PE) (x:zv0 T ps) (k:Nat),(mkP T σ ps x k).length=ps.length
 | [],x,k=>rfl
 |p::r,x,k=>by show (mkP T σ r x.2 (k+p.cnt)).length+1=r.length+1;rw [je7 σ r]
def ji7 (σ:Nat->Nat): ∀(ps:List PE) (x:zv0 T ps) (k:Nat),(je6 T σ ps x k).length=zo3 ps
 | [],x,k=>rfl
 |p::r,x,k=>by
  show (vl1 T σ p x.1 k++je6 T σ r x.2 (k+p.cnt)).length=p.cnt+zo3 r;rw [X9,ji7 σ r];cases p with
  |gone=>rfl
  |gm=>rfl
  |row e t=>rfl
  |tmap k t=>rfl
  |dr e d fe=>rfl
  |pm k be d=>rfl
  |blk e cs=>exact congrArg (· +zo3 r) (zf9 σ cs x.1 k)
  |map kd keys cs=>exact congrArg (· +zo3 r) (zf9 σ cs x.1 k)
mutual
def qy1 (τ:Nat->Nat): ∀(s:Sh) (x:s.den T) (k:Nat),(mkA T id s x k).ren τ=mkA T τ s x k
 | .val t,x,k=>ql4 t x τ
 | .row e t,x,k=>rfl
 | .slr e t,x,k=>rfl
 | .ptr o e cs,x,k=>rfl
 | .slb sz n e cs,x,k=>rfl
 | .fn f a b,x,k=>by
  show AV.fn (.func f) (zh7 τ (zi5 T id a x.1 k)) (zh7 τ (zi5 T id b x.2 (k+zd1 a)))=.fn (.func f) (zi5 T τ a x.1 k) (zi5 T τ b x.2 (k+zd1 a));rw [zj6 τ a,zj6 τ b]
 | .agg cs,x,k=>congrArg AV.agg (zj6 τ cs x k)
 | .ifc t s,x,k=>congrArg (AV.ifc t) (qy1 τ s x k)
 | .at_ _ _,x,k=>rfl
 | .own _,x,k=>rfl
 | .part _ _,x,k=>rfl
 | .nils,x,k=>rfl
 | .nilp,x,k=>rfl
 | .lit _ _,x,k=>rfl
 | .arr _ _,x,k=>rfl
 | .lp _ _,x,k=>rfl
 | .asp _ _ _ _,x,k=>rfl
 | .asn _ _ _ _ _,x,k=>rfl
 | .ap _ _ _ _ _,x,k=>rfl
 | .mp _ _ _,x,k=>rfl
 | .mpo _,x,k=>rfl
 | .rw _,x,k=>rfl
 | .lpk _ _ _,x,k=>rfl
 | .tm _ _,x,k=>rfl
 | .dr _ _ _,x,k=>rfl
 | .pm _ _ _,x,k=>rfl
 | .gm,x,k=>rfl
 | .gmo _,x,k=>rfl
def zj6 (τ:Nat->Nat): ∀(l:List Sh) (x:zg8 T l) (k:Nat),zh7 τ (zi5 T id l x k)=zi5 T τ l x k
 | [],x,k=>rfl
 |s::r,x,k=>by
  show (mkA T id s x.1 k).ren τ::zh7 τ (zi5 T id r x.2 (k+s.cnt))=mkA T τ s x.1 k::zi5 T τ r x.2 (k+s.cnt);rw [qy1 τ s,zj6 τ r]
end
def ym0 {α:Type} {a b:α} {l m:List α} (h:a=b) (h':l=m):a::l=b::m:=by rw [h,h']
def vv8 {α:Type} {a b l m:List α} (h:a=b) (h':l=m):a++l=b++m:=by rw [h,h']
mutual
def qy3 (τ:Nat->Nat): ∀(s:Sh) (x:s.den T) (k:Nat),(mkE T id s x k).map (Ent.ren τ)=mkE T τ s x k
 | .row e t,x,k=>rfl
 | .slr e t,x,k=>rfl
 | .ptr o e cs,x,k=>ym0 (congrArg (Ent.blk e) (zj6 τ cs x (k+1))) (zk6 τ cs x (k+1))
 | .slb sz n e cs,x,k=>ym0 (congrArg (Ent.blk e) (zj6 τ cs x (k+1))) (zk6 τ cs x (k+1))
 | .fn f a b,x,k=>by
  show (zo4 T id a x.1 k++zo4 T id b x.2 (k+zd1 a)).map (Ent.ren τ)=zo4 T τ a x.1 k++zo4 T τ b x.2 (k+zd1 a);rw [J0,zk6 τ a,zk6 τ b]
 | .agg cs,x,k=>zk6 τ cs x k
 | .ifc t s,x,k=>qy3 τ s x k
 | .val _,x,k=>rfl
 | .at_ _ _,x,k=>rfl
 | .own _,x,k=>rfl
 | .part _ _,x,k=>rfl
 | .nils,x,k=>rfl
 | .nilp,x,k=>rfl
 | .lit _ _,x,k=>rfl
 | .arr _ _,x,k=>rfl
 | .lp _ _,x,k=>rfl
 | .asp _ _ _ _,x,k=>rfl
 | .asn e cs _ _ _,x,k=>ym0 (congrArg (Ent.blk e) (zj6 τ cs x.1 (k+1))) (zk6 τ cs x.1 (k+1))
 | .ap _ _ _ _ _,x,k=>rfl
 | .mp kd keys cs,x,k=>ym0 (congrArg (Ent.map kd) ((yj0 τ keys _).trans (congrArg (yf6 keys) (zj6 τ cs x (k+1))))) (zk6 τ cs x (k+1))
 | .mpo _,x,k=>rfl
 | .rw _,x,k=>rfl
 | .lpk _ _ _,x,k=>rfl
 | .tm _ _,x,k=>rfl
 | .dr _ _ _,x,k=>rfl
 | .pm _ _ _,x,k=>rfl
 | .gm,x,k=>rfl
 | .gmo _,x,k=>rfl
def zk6 (τ:Nat->Nat): ∀(l:List Sh) (x:zg8 T l) (k:Nat),(zo4 T id l x k).map (Ent.ren τ)=zo4 T τ l x k
 | [],x,k=>rfl
 |s::r,x,k=>by
  show (mkE T id s x.1 k++zo4 T id r x.2 (k+s.cnt)).map (Ent.ren τ)=mkE T τ s x.1 k++zo4 T τ r x.2 (k+s.cnt);rw [J0,qy3 τ s,zk6 τ r]
end
def qy4 (τ:Nat->Nat): ∀(ps:List PE) (x:zv0 T ps) (k:Nat),(mkP T id ps x k).map (Ent.ren τ)=mkP T τ ps x k
 | [],x,k=>rfl
 |p::r,x,k=>by
  show (kf8 T id p x.1 k).ren τ::(mkP T id r x.2 (k+p.cnt)).map (Ent.ren τ)=kf8 T τ p x.1 k::mkP T τ r x.2 (k+p.cnt);rw [qy4 τ r];cases p with
  |gone=>rfl
  |gm=>rfl
  |row e t=>rfl
  |tmap k t=>rfl
  |dr e d fe=>rfl
  |pm k be d=>rfl
  |blk e cs=>exact ym0 (congrArg (Ent.blk e) (zj6 τ cs x.1 k)) rfl
  |map kd keys cs=>exact ym0 (congrArg (Ent.map kd) ((yj0 τ keys _).trans (congrArg (yf6 keys) (zj6 τ cs x.1 k)))) rfl
def qg0 (τ:Nat->Nat): ∀(ps:List PE) (x:zv0 T ps) (k:Nat),(je6 T id ps x k).map (Ent.ren τ)=je6 T τ ps x k
 | [],x,k=>rfl
 |p::r,x,k=>by
  show (vl1 T id p x.1 k++je6 T id r x.2 (k+p.cnt)).map (Ent.ren τ)=vl1 T τ p x.1 k++je6 T τ r x.2 (k+p.cnt);rw [J0,qg0 τ r];cases p with
  |gone=>rfl
  |gm=>rfl
  |row e t=>rfl
  |tmap k t=>rfl
  |dr e d fe=>rfl
  |pm k be d=>rfl
  |blk e cs=>exact vv8 (zk6 τ cs x.1 k) rfl
  |map kd keys cs=>exact vv8 (zk6 τ cs x.1 k) rfl
def vr1 (σ:Nat->Nat) (s:Sh) (x:s.den T) (k:Nat):zh1 (mkA T σ s x k)=true:=by
 cases s with
 |val t=>exact yp3 t x
 |_=>rfl
def yx1 (σ:Nat->Nat): ∀(l:List Sh) (x:zg8 T l) (k:Nat),∀a∈zi5 T σ l x k,zh1 a=true
 | [],x,k,a,h=>by cases h
 |s::r,x,k,a,h=>by
  have h:a∈mkA T σ s x.1 k::zi5 T σ r x.2 (k+s.cnt):=h;rcases Z0.1 h with rfl|h
  ·exact vr1 σ s x.1 k
  ·exact yx1 σ r x.2 _ a h
def yh6 {ρ:Nat->Nat} {n:Nat} {aS:List (AV T.U)} (h: ∀i∈j8 aS,ρ i<n): ∀i∈j8 (zh7 ρ aS),i<n:=by
 intro i hi;rw [zt3] at hi;obtain ⟨j,hj,rfl⟩:=U3.1 hi;exact h j hj
def yz5 {ids:List Nat}: ∀ {post:List PE},qa7 T H ids post=true->ids.length=post.length/\ ∀(k i:Nat) (e:TypeId) (t:Ty),ids[k]?=some i->post[k]?=some (.row e t)-> ∃xs,H[i]?=some (.row e t xs):=by
 induction ids with
 |nil=>
  intro post h;cases post with
  |nil=>exact ⟨rfl,fun k i e t h=>by simp at h⟩
  |cons _ _=>cases h
 |cons j r ih=>
  intro post h;cases post with
  |nil=>cases h
  |cons p q=>
   unfold qa7 at h;simp only [X3] at h;obtain ⟨h1,h2⟩:=ih h.2;refine ⟨by simp [h1],fun k i e t hk hp=>?_⟩;cases k with
   |zero=>
    simp at hk hp;subst hk;subst hp;obtain ⟨xs,hx⟩:=N6.1 h.1;exact ⟨xs,yf1 hx⟩
   |succ k=>exact h2 k i e t (by simpa using hk) (by simpa using hp)
def jv3 {σ:Nat->Nat}: ∀ {ps:List PE} {x:zv0 T ps} {k j:Nat} {e:TypeId} {t:Ty} {ys:List (den T.U t)},(mkP T σ ps x k)[j]?=some (.row e t ys)->ps[j]?=some (.row e t)
 | [],x,k,j,e,t,ys,h=>by simp [mkP] at h
 |p::r,x,k,j,e,t,ys,h=>by
  have h:(kf8 T σ p x.1 k::mkP T σ r x.2 (k+p.cnt))[j]?=some (.row e t ys):=h;cases j with
  |succ j=>simp only [List.getElem?_cons_succ] at h⊢;exact jv3 h
  |zero=>
   simp only [Y4,X0] at h⊢;cases p with
   |gone=>cases h
   |gm=>cases h
   |row e' t'=>
    simp only [kf8,Ent.row.injEq] at h;obtain ⟨rfl,rfl,_⟩:=h;rfl
   |blk _ _=>cases h
   |map _ _ _=>cases h
   |tmap _ _=>cases h
   |dr _ _ _=>cases h
   |pm _ _ _=>cases h
def qc8 {f:FuncId} {sp:GSpec T} {alt:CallSpec T} (hok:GOk T P f sp) (ha:zc2 T P f alt):zc2 T P f (sp.toCall alt):=by
 intro R aS H K Kp r hr w0 S0 F F' w S φ h vs hvs has;simp only [GSpec.toCall] at hr;split at hr
 ·rename_i x l hx;split at hr
  ·rename_i hb;simp only [X3] at hb;obtain ⟨hn,hro⟩:=hb;obtain ⟨y,hy,hK⟩:=zd8 hr;obtain ⟨new,g1,g2,g3⟩:=zf7 sp.ps aS [] l x hx;have hl:l=new.map some:=by rw [g1.eq];rfl
   have hids:yh1 l=new:=by rw [hl,ji2]
   rw [hids] at hn hro hK;have hno:zt8 l=true:=by
    rw [hl];clear hK hro hids hx g1 g2 g3 hl;induction new with
    |nil=>rfl
    |cons i r ih=>
     rw [zc3,X3,V4] at hn;rw [U1,zt8,ih hn.2,Bool.and_true,V4];cases hm:qo7 i (r.map some) with
     |false=>rfl
     |true=>
      have:=yi2.1 hm;obtain ⟨j,hj,e⟩:=U3.1 this;simp only [X0] at e;subst e;rw [za9.2 hj] at hn;exact absurd hn.1 (by simp)
   obtain ⟨q1,q2⟩:=g3 _ (yp0 hno);obtain ⟨hlen,hrow⟩:=yz5 hro;have hnewlen:new.length=zd1 sp.ps:=g2;obtain ⟨c0,x0,p0⟩:=S0;have hs:=(h.unpin.src (l:=l) hno (fun k hk=>by simp at hk) (fun i e hi he j hj=>by
    rw [hl] at hi;obtain ⟨i',hi',e'⟩:=U3.1 hi;simp only [X0] at e';subst e';obtain ⟨e0,h1,_,h3⟩:=g1.ents i' hi';rw [he] at h1;simp only [X0] at h1;subst h1;exact h3 j hj))
   rw [show zh4 T H (fun i=>yu3 i l) l=zd0 T H (fun i=>yu3 i l) new by rw [hl,ya2]] at hs;have hs:=(hs.imp q2).start;rw [zf9,<-hnewlen] at hs;have hφc: ∀k i,new[k]?=some i->φO l φ k=φ i:=fun k i hk=>φO_at (by rw [hl,W4,hk];rfl);have hvs':VRL T w S (φO l φ) (zi5 T id sp.ps x 0) vs:=q1.vrl (VRL.ren T (fun i hi=>φO_idx (g1.ids i hi)) hvs);have hoks: ∀a∈zi5 T id sp.ps x 0,okA (zo4 T id sp.ps x 0) a:=fun a ha=>zf6 (yx1 id _ _ _ a ha) fun i hi=>by
    have hi:=zi4 ha i hi;rw [show j8 (zi5 T id sp.ps x 0)=_ from q1.ids] at hi;rw [zf9,<-hnewlen];refine yh6 (fun j hj=>?_) i hi;have:=(X2.1 (zr2 (g1.ids j hj))).1;rw [hl,U7] at this;rw [hl];exact this
   refine (hok x y hy w S (φO l φ) (by rw [<-hnewlen];exact hs) vs hvs' hoks).mono fun e w' hR=>?_;cases e with
   |returned v=>
    obtain ⟨F1,S1,φ1,us,k1,k2,rfl,k3⟩:=hR;rw [<-hnewlen] at k1;obtain ⟨φ2,m1,m2⟩:=h.join hn (fun i hi=>by obtain ⟨e,a,b,_⟩:=g1.ents i hi;exact ⟨e,a,b⟩) hφc k1 (by rw [je7,hlen]) (fun k i e t ys hk hp=>hrow k i e t hk (jv3 hp));rw [qy4,J0,qg0,zk6] at m1;have hv2:VRL T w' S1 φ2 (zi5 T (σJ new H.length) sp.rs y.2 (sp.post.length+zo3 sp.post)) us:=by
     rw [<-zj6];rw [je7,X9,ji7,zf9] at m2;generalize zi5 T id sp.rs y.2 (sp.post.length+zo3 sp.post)=rs at k2 k3;clear hK m1 k1;induction rs generalizing us with
     |nil=>cases us<;>exact k2
     |cons a r ih=>
      match us,k2 with
      |u::us,k2=>
       rw [zh7];exact ⟨m2 a u k2.1 fun i hi=>k3 i (by rw [j8];exact X4.2 (.inl hi)),ih _ k2.2 fun i hi=>k3 i (by rw [j8];exact X4.2 (.inr hi))⟩
    refine ⟨_,_,hK,S1,φ2,m1,ys5 hv2,?_⟩;have hlt: ∀i∈j8 (zi5 T (σJ new H.length) sp.rs y.2 (sp.post.length+zo3 sp.post)),i<(zn7 T H new (mkP T (σJ new H.length) sp.post y.1 sp.post.length)++(je6 T (σJ new H.length) sp.post y.1 sp.post.length++zo4 T (σJ new H.length) sp.rs y.2 (sp.post.length+zo3 sp.post))).length:=by
     rw [<-zj6];refine yh6 fun j hj=>?_;have hj:=k3 j hj;rw [X9,X9,za7,ji7,zf9];by_cases hlt:j<new.length
     ·have hs:=σJ_lo (n:=H.length) hlt;obtain ⟨e,h1,_,_⟩:=g1.ents _ (X6 hs);have:=(X2.1 h1).1;omega
     ·rw [σJ_hi (by omega)];omega
    have hne:zh1 (yk5 T (zi5 T (σJ new H.length) sp.rs y.2 (sp.post.length+zo3 sp.post)))=true:=by
     unfold yk5;split
     ·rename_i a hl;exact yx1 (σJ new H.length) sp.rs y.2 _ a (by rw [hl];simp)
     ·rfl
    refine zf6 hne fun i hi=>hlt i ?_;unfold yk5 at hi;split at hi
    ·rename_i a hl;rw [hl,j8];exact X4.2 (.inl hi)
    ·rw [AV.ids] at hi;exact hi
   |panicked ch=>exact hR.elim
   |outgrown=>exact hR.elim
  ·cases hr
 ·exact ha aS H K Kp r hr w0 S0 F F' w S φ h vs hvs has
def kp9 {sp:GSpec T} {alt:CallSpec T} (ha:jb7 alt):jb7 (sp.toCall alt):=by
 intro R aS H K Kp r hr;simp only [GSpec.toCall] at hr;split at hr
 ·rename_i x l hx;split at hr
  ·rename_i hb;obtain ⟨y,hy,hK⟩:=zd8 hr;simp only [X3] at hb;obtain ⟨hlen,hrow⟩:=yz5 hb.2;refine .inl ⟨_,_,hK,?_,fun K' Kp'=>by simp only [GSpec.toCall,hx,hb.1,hb.2,N7,hy,j7]⟩;have hw:(GSpec.toCall sp alt).wr aS H=yh1 l:=by simp only [GSpec.toCall,hx]
   rw [hw];have hl:(mkP T (σJ (yh1 l) H.length) sp.post y.1 sp.post.length).length=(yh1 l).length:=by rw [je7,hlen]
   refine ⟨by rw [X9,za7];omega,fun e he hn=>?_,fun e ty t ys he h=>?_⟩
   ·rw [X8 (by rw [za7];exact he)];obtain ⟨f,hf⟩: ∃f,(zn7 T H (yh1 l) (mkP T (σJ (yh1 l) H.length) sp.post y.1 sp.post.length))[e]?=some f:=⟨_,Y0 (by rw [za7];exact he)⟩;rcases zi2 _ _ H hl hf with ⟨k,g1,_⟩|⟨_,g2⟩
    ·exact absurd (X6 g1) hn
    ·rw [hf,g2]
   ·rw [X8 (by rw [za7];exact he)] at h;rcases zi2 _ _ H hl h with ⟨k,g1,g2⟩|⟨_,g2⟩
    ·exact hrow k e ty t g1 (jv3 g2)
    ·exact ⟨ys,g2⟩
  ·cases hr
 ·rename_i hx;have hw:(GSpec.toCall sp alt).wr aS H=alt.wr aS H:=by simp only [GSpec.toCall,hx]
  rcases ha aS H K Kp r hr with ⟨a,H1,h1,h2,h3⟩|⟨a,H1,h1,h2,h3⟩
  ·exact .inl ⟨a,H1,h1,by rw [hw];exact h2,fun K' Kp'=>by simp only [GSpec.toCall,hx,h3]⟩
  ·exact .inr ⟨a,H1,h1,by rw [hw];exact h2,fun K' Kp'=>by simp only [GSpec.toCall,hx,h3]⟩
def yn9 {w0:World} {S0:Ow} {F:AF T} {F':PF} {w:World} {S:List Nat}: ∀(l:List (Nat×TypeId×Ty×Bool)) {aS:List (AV T.U)} {us:List Value} {H:List (Ent T.U)} {φ:Nat->RA},Sim T w0 S0 ⟨F,H⟩ F' w S φ->(∀i∈j8 aS,i<H.length)->VRL T w S φ aS us->
  ∃φ',Sim T w0 S0 ⟨F,(vm5 T l aS H).2⟩ F' w S φ'/\VRL T w S φ' (vm5 T l aS H).1 us
 | [],aS,us,H,φ,h,hi,hv=>⟨φ,h,hv⟩
 |(j,e,t,b)::r,aS,us,H,φ,h,hi,hv=>by
  unfold vm5;split
  ·rename_i ha;obtain ⟨v,hu,hvr⟩:=hv.get T ha;rw [VR] at hvr;subst hvr;have h1:=h.addNil e t;have hv1:VRL T w S (zu1 φ H.length ⟨none,0,0,[]⟩) aS us:=hv.phi fun i hm=>zb8 (by have:=hi i hm;omega);have hnew:VR T w S (zu1 φ H.length ⟨none,0,0,[]⟩) (match b with|true=>AV.own H.length|false=>.sl H.length (szT T t) 0 0) (.slice none 0 0):=by
    cases b with
    |true=>rw [VR,j5]
    |false=>rw [VR,j5];exact ⟨none,rfl,W8 _,.inl rfl,fun _=>⟨rfl,rfl⟩,fun _=>rfl⟩
   have hs:=hv1.set T j hnew;rw [show us.set j (.slice none 0 0)=us by
    obtain ⟨hlt,hg⟩:=X2.1 hu;rw [<-hg,T3]] at hs
   refine yn9 r h1 (fun i hm=>?_) hs;obtain ⟨a,ha',hia⟩:=zq0 hm;rcases M0 ha' with ha'|ha'
   ·have:=hi i (zi4 ha' i hia);simp;omega
   ·subst ha';cases b<;>simp [AV.ids] at hia<;>subst hia<;>simp
  ·exact yn9 r h hi hv
def ye4 {w0:World} {S0:Ow} {F:AF T} {F':PF} {w:World} {S:List Nat} {H:List (Ent T.U)} {φ:Nat->RA} (h:Sim T w0 S0 ⟨F,H⟩ F' w S φ): ∀(l:List Nat) {aS:List (AV T.U)} {us:List Value},VRL T w S φ aS us->VRL T w S φ (vm4 T l aS H) us
 | [],aS,us,hv=>hv
 |j::r,aS,us,hv=>by
  unfold vm4;split
  ·rename_i i ha;split
   ·rename_i e t xs hi;refine ye4 h r ?_;obtain ⟨v,hu,hvr⟩:=hv.get T ha;obtain ⟨B,vals,o1,o2,o3,o4,o5⟩:=h.ents i _ hi;rw [VR] at hvr;subst hvr;rw [o2] at o1;have hnew:VR T w S φ (.sl i (szT T t) 0 xs.length) (.slice (φ i).ad (φ i).n (φ i).cap):=by
     refine ⟨(φ i).ad,?_,?_,?_,fun hn=>o1.nil0 hn,fun _=>rfl⟩
     ·show Value.slice (φ i).ad (φ i).n (φ i).cap=Value.slice (φ i).ad xs.length ((φ i).cap-0);rw [o2];rfl
     ·show 0+xs.length<=(φ i).cap;rw [U0];exact o1.le.1
     rcases o1.cases with ⟨_,hn,_⟩|⟨c,had,_⟩
     ·exact .inl hn
     ·refine .inr ⟨_,had,had.trans ?_⟩;show some (⟨_,0,none⟩:Addr)=some ⟨_,0+0*_,none⟩;rw [M1]
    have hs:=hv.set T j hnew;rwa [show us.set j (.slice (φ i).ad (φ i).n (φ i).cap)=us by
     obtain ⟨hlt,hg⟩:=X2.1 hu;rw [<-hg,T3]] at hs
   ·exact ye4 h r hv
  ·exact ye4 h r hv
end
end Go.X
namespace Go.X
open Go.RowKit Go.V
section
variable {T:Tab} {P:Program} {w w':World} {S S':List Nat} {φ φ':Nat->RA} {w0:World} {S0:Ow} {F:AF T} {H:List (Ent T.U)} {F':PF}
def qk1 {H:List (Ent T.U)}: ∀(ps:List PE) (j:Nat) (l l':Src) (x:zv0 T ps),rdP T H ps j l=some (x,l')->
  ∃new,l'=l++new.map some/\new.length=zo3 ps/\(∀i∈new,∃e,H[i]?=some e/\e.live=true/\ ∀j∈e.cellIds,some j∈l')/\(∀i,some i∈zo5 ps j-> ∃e,H[i]?=some e/\ ∀j∈e.cellIds,some j∈l')/\
   ∀ρ,Places ρ l'->ImpH T (zh4 T H ρ (zo5 ps j)) (mkP T id ps x l.length)/\ImpH T (zd0 T H ρ new) (je6 T id ps x l.length)
 | [],j,l,l',x,h=>by
  simp only [rdP,X0,X7] at h;obtain ⟨_,rfl⟩:=h;exact ⟨[],by simp,rfl,(by intro i hi;cases hi),(by intro i hi;cases hi),fun ρ hρ=>⟨.nil,.nil⟩⟩
 |p::r,j,l,l',x,h=>by
  unfold rdP at h;split at h<;>try (cases h;done)
  rename_i y l1 hy;obtain ⟨z,hz,rfl⟩:=ye8 h;obtain ⟨n2,k1,k2,k3,k4,k5⟩:=qk1 r (j+1) l1 l' z hz;have hsub: ∀i,some i∈l1->some i∈l':=fun i hi=>by rw [k1];exact X4.2 (.inl hi)
  cases p with
  |gone=>
   simp only [qq4,X0,X7] at hy;obtain ⟨_,rfl⟩:=hy;refine ⟨n2,k1,by rw [k2];show _=0+zo3 r;omega,k3,fun i hi=>?_,fun ρ hρ=>?_⟩
   ·have hi:some i∈none::zo5 r (j+1):=hi;exact k4 i (by simpa using hi)
   ·obtain ⟨q1,q2⟩:=k5 ρ hρ;exact ⟨.cons (.same _) q1,q2⟩
  |row e t=>
   simp only [qq4] at hy;split at hy<;>try (cases hy;done)
   rename_i xs hx;simp only [X0,X7] at hy;obtain ⟨rfl,rfl⟩:=hy;have hx:=yf1 hx;refine ⟨n2,k1,by rw [k2];show _=0+zo3 r;omega,k3,fun i hi=>?_,fun ρ hρ=>?_⟩
   ·have hi:some i∈some j::zo5 r (j+1):=hi;rcases Z0.1 hi with hi|hi
    ·simp only [X0] at hi;subst hi;exact ⟨_,hx,by intro j hj;cases hj⟩
    ·exact k4 i hi
   ·obtain ⟨q1,q2⟩:=k5 ρ hρ;refine ⟨?_,q2⟩;show ImpH T ((match H[j]? with|some e=>e.ren ρ|none=>.gone)::zh4 T H ρ (zo5 r (j+1))) _;rw [hx];exact .cons (.same _) q1
  |tmap kd t=>
   simp only [qq4] at hy;split at hy<;>try (cases hy;done)
   rename_i xs hx;simp only [X0,X7] at hy;obtain ⟨rfl,rfl⟩:=hy;have hx:=js2 hx;refine ⟨n2,k1,by rw [k2];show _=0+zo3 r;omega,k3,fun i hi=>?_,fun ρ hρ=>?_⟩
   ·have hi:some i∈some j::zo5 r (j+1):=hi;rcases Z0.1 hi with hi|hi
    ·simp only [X0] at hi;subst hi;exact ⟨_,hx,by intro j hj;cases hj⟩
    ·exact k4 i hi
   ·obtain ⟨q1,q2⟩:=k5 ρ hρ;refine ⟨?_,q2⟩;show ImpH T ((match H[j]? with|some e=>e.ren ρ|none=>.gone)::zh4 T H ρ (zo5 r (j+1))) _;rw [hx];exact .cons (.same _) q1
  |gm=>
   simp only [qq4] at hy;split at hy<;>try (cases hy;done)
   rename_i hx;simp only [X0,X7] at hy;obtain ⟨rfl,rfl⟩:=hy;have hx:=jd1 hx;refine ⟨n2,k1,by rw [k2];show _=0+zo3 r;omega,k3,fun i hi=>?_,fun ρ hρ=>?_⟩
   ·have hi:some i∈some j::zo5 r (j+1):=hi;rcases Z0.1 hi with hi|hi
    ·simp only [X0] at hi;subst hi;exact ⟨_,hx,by intro j hj;cases hj⟩
    ·exact k4 i hi
   ·obtain ⟨q1,q2⟩:=k5 ρ hρ;refine ⟨?_,q2⟩;show ImpH T ((match H[j]? with|some e=>e.ren ρ|none=>.gone)::zh4 T H ρ (zo5 r (j+1))) _;rw [hx];exact .cons (.same _) q1
  |dr e d fe=>
   simp only [qq4] at hy;split at hy<;>try (cases hy;done)
   rename_i xs hx;simp only [X0,X7] at hy;obtain ⟨rfl,rfl⟩:=hy;have hx:=jo6 hx;refine ⟨n2,k1,by rw [k2];show _=0+zo3 r;omega,k3,fun i hi=>?_,fun ρ hρ=>?_⟩
   ·have hi:some i∈some j::zo5 r (j+1):=hi;rcases Z0.1 hi with hi|hi
    ·simp only [X0] at hi;subst hi;exact ⟨_,hx,by intro j hj;cases hj⟩
    ·exact k4 i hi
   ·obtain ⟨q1,q2⟩:=k5 ρ hρ;refine ⟨?_,q2⟩;show ImpH T ((match H[j]? with|some e=>e.ren ρ|none=>.gone)::zh4 T H ρ (zo5 r (j+1))) _;rw [hx];exact .cons (.same _) q1
  |pm k be d=>
   simp only [qq4] at hy;split at hy<;>try (cases hy;done)
   rename_i xs hx;simp only [X0,X7] at hy;obtain ⟨rfl,rfl⟩:=hy;have hx:=jq8 hx;refine ⟨n2,k1,by rw [k2];show _=0+zo3 r;omega,k3,fun i hi=>?_,fun ρ hρ=>?_⟩
   ·have hi:some i∈some j::zo5 r (j+1):=hi;rcases Z0.1 hi with hi|hi
    ·simp only [X0] at hi;subst hi;exact ⟨_,hx,by intro j hj;cases hj⟩
    ·exact k4 i hi
   ·obtain ⟨q1,q2⟩:=k5 ρ hρ;refine ⟨?_,q2⟩;show ImpH T ((match H[j]? with|some e=>e.ren ρ|none=>.gone)::zh4 T H ρ (zo5 r (j+1))) _;rw [hx];exact .cons (.same _) q1
  |blk e cs=>
   simp only [qq4] at hy;split at hy<;>try (cases hy;done)
   rename_i aS hb;have hb:=yd9 hb;obtain ⟨n1,g1,g2,g3⟩:=zf7 cs aS l l1 y hy;have hlen:l1.length=l.length+zd1 cs:=by rw [g1.eq,X9,U7,g2]
   refine ⟨n1++n2,by rw [k1,g1.eq,J0,Q2],by rw [X9,g2,k2];rfl,fun i hi=>?_,fun i hi=>?_,fun ρ hρ=>?_⟩
   ·rcases X4.1 hi with hi|hi
    ·obtain ⟨e,a,b,c⟩:=g1.ents i hi;exact ⟨e,a,b,fun j hj=>hsub j (c j hj)⟩
    ·exact k3 i hi
   ·have hi:some i∈some j::zo5 r (j+1):=hi;rcases Z0.1 hi with hi|hi
    ·simp only [X0] at hi;subst hi;exact ⟨_,hb,fun j hj=>hsub j (g1.ids j hj)⟩
    ·exact k4 i hi
   ·obtain ⟨q1,q2⟩:=k5 ρ hρ;obtain ⟨q3,q4⟩:=g3 ρ (by rw [k1] at hρ;exact hρ.pre);rw [hlen] at q1 q2;refine ⟨?_,by rw [zq7];exact q4.app q2⟩;show ImpH T ((match H[j]? with|some e=>e.ren ρ|none=>.gone)::zh4 T H ρ (zo5 r (j+1))) _;rw [hb];exact .cons (.blk q3) q1
  |map kd keys cs=>
   simp only [qq4] at hy;split at hy<;>try (cases hy;done)
   rename_i aS hb;have hb:=je2 hb;obtain ⟨n1,g1,g2,g3⟩:=zf7 cs aS l l1 y hy;have hlen:l1.length=l.length+zd1 cs:=by rw [g1.eq,X9,U7,g2]
   refine ⟨n1++n2,by rw [k1,g1.eq,J0,Q2],by rw [X9,g2,k2];rfl,fun i hi=>?_,fun i hi=>?_,fun ρ hρ=>?_⟩
   ·rcases X4.1 hi with hi|hi
    ·obtain ⟨e,a,b,c⟩:=g1.ents i hi;exact ⟨e,a,b,fun j hj=>hsub j (c j hj)⟩
    ·exact k3 i hi
   ·have hi:some i∈some j::zo5 r (j+1):=hi;rcases Z0.1 hi with hi|hi
    ·simp only [X0] at hi;subst hi;exact ⟨_,hb,fun j hj=>hsub j (g1.ids j (jj9 keys aS j hj))⟩
    ·exact k4 i hi
   ·obtain ⟨q1,q2⟩:=k5 ρ hρ;obtain ⟨q3,q4⟩:=g3 ρ (by rw [k1] at hρ;exact hρ.pre);rw [hlen] at q1 q2;refine ⟨?_,by rw [zq7];exact q4.app q2⟩;show ImpH T ((match H[j]? with|some e=>e.ren ρ|none=>.gone)::zh4 T H ρ (zo5 r (j+1))) _;rw [hb];refine .cons ?_ q1;show ImpE T (.map kd (jx6 ρ (yf6 keys aS))) _;rw [yj0];exact .map q3
def zk7: ∀(ps:List PE) (j:Nat),(zo5 ps j).length=ps.length
 | [],j=>rfl
 | .gone::r,j=>by simp [zo5,zk7 r]
 | .row _ _::r,j=>by simp [zo5,zk7 r]
 | .tmap _ _::r,j=>by simp [zo5,zk7 r]
 | .dr _ _ _::r,j=>by simp [zo5,zk7 r]
 | .pm _ _ _::r,j=>by simp [zo5,zk7 r]
 | .gm::r,j=>by simp [zo5,zk7 r]
 | .blk _ _::r,j=>by simp [zo5,zk7 r]
 | .map _ _ _::r,j=>by simp [zo5,zk7 r]
def vb6: ∀(ps:List PE) (j k:Nat),k<ps.length->(zo5 ps j)[k]?=some (some (j+k))\/(zo5 ps j)[k]?=some none
 | [],j,k,h=>by simp at h
 |p::r,j,0,h=>by cases p<;>simp [zo5]
 |p::r,j,k+1,h=>by
  have:=vb6 r (j+1) k (by simpa using h);rw [show j+1+k=j+(k+1) by omega] at this;cases p<;>simpa [zo5] using this
def zi6 {w0:World} {S0:Ow} {F:AF T} {F':PF} {w:World} {S:List Nat}: ∀(l:List (Nat×Nat×TypeId×Ty)) {aS:List (AV T.U)} {us:List Value} {H:List (Ent T.U)} {φ:Nat->RA},Sim T w0 S0 ⟨F,H⟩ F' w S φ->VRL T w S φ aS us->(∀i∈j8 aS,i<H.length)->
  ∃φ',Sim T w0 S0 ⟨F,ze9 T l H⟩ F' w S φ'/\VRL T w S φ' aS us/\ ∀i∈j8 aS,i<(ze9 T l H).length
 | [],aS,us,H,φ,h,hv,hi=>⟨φ,h,hv,hi⟩
 |(i,c,e,t)::r,aS,us,H,φ,h,hv,hids=>by
  unfold ze9;split
  ·obtain ⟨φ1,h1,h2,h3⟩:=h.closeL (List.range H.length);exact zi6 r h1 (hv.phiS fun i _=>h2 i) fun i hm=>by rw [h3];exact hids i hm
  split
  ·rename_i e0 cs hi;split
   ·rename_i hc;have h1:=h.addNilE e t;have hil:=(X2.1 hi).1;obtain ⟨g,cv,a1,a2,a3,a4⟩:=h1.ents i _ (by rw [X8 hil];exact hi);have h2:=h1.upd (i:=i) (e0:=.blk e0 cs) (e:=.blk e0 (cs.set c (.own H.length))) (Tc:= []) (w':=w) (by rw [X8 hil];exact hi) rfl (Chg.refl [] w) (by simp)
     ⟨g,cv,a1,a2,a3,BR.swap (b:=.own H.length) rfl rfl (fun v hv=>by rw [VR] at hv;subst hv;rw [VR,j5]) a4 hc⟩
     (by
      intro j hj;rw [Ent.cellIds] at hj;obtain ⟨b,hb,hjb⟩:=zq0 hj;rcases M0 hb with hb|hb
      ·have:=h.eids i _ hi j (by rw [Ent.cellIds];exact zi4 hb j hjb);simp at this⊢;omega
      ·subst hb;simp [AV.ids] at hjb;subst hjb;simp) (by intro _ _ _ h;cases h)
    have hset:(H++ [zv6 T e t]).set i (.blk e0 (cs.set c (.own H.length)))=H.set i (.blk e0 (cs.set c (.own H.length)))++ [zv6 T e t]:=by
     rw [List.set_append_left _ _ hil]
    rw [hset] at h2;exact zi6 r h2 (hv.phi fun i hm=>zb8 (by have:=hids i hm;omega)) fun i hm=>by have:=hids i hm;simp;omega
   ·rename_i k hc;split
    ·split
     ·rename_i e' t' xs hk;exact zi6 r (h.cellSl hi hc hk) hv fun i hm=>by have:=hids i hm;simpa using this
     ·exact zi6 r h hv hids
    ·exact zi6 r h hv hids
   ·exact zi6 r h hv hids
  ·exact zi6 r h hv hids
end
section
variable (T:Tab)
def kv5 (post:List PE) (rs:List Sh) (y:zv0 T post) (z:zg8 T rs) (w:World) (S:List Nat) (φ:Nat->RA) (cnt:Nat) (w':World) (us:List Value):Prop:=
 ∃(F1:PF) (S1:List Nat) (φ1:Nat->RA),Sim T w ⟨zd6 φ cnt,S,(List.range cnt).map φ⟩ ⟨[],mkP T id post y post.length++(je6 T id post y post.length++zo4 T id rs z (post.length+zo3 post))⟩ F1 w' S1 φ1/\
  VRL T w' S1 φ1 (zi5 T id rs z (post.length+zo3 post)) us/\ ∀i∈j8 (zi5 T id rs z (post.length+zo3 post)),i<post.length+(zo3 post+zd1 rs)
end
section
variable {T:Tab} {P:Program} {w w':World} {S S':List Nat} {φ φ':Nat->RA} {w0:World} {S0:Ow} {F:AF T} {H:List (Ent T.U)} {F':PF}
def kp0 {cnt:Nat} {post:List PE} (hpost:post.length=cnt) {rs:List Sh} {aS:List (AV T.U)} {st:St T} {y1:zv0 T post} {z:zg8 T rs} {l1 l2:Src} {F1:PF} {w1:World} {S1:List Nat} {φ1:Nat->RA} {us:List Value}
  (h1:rdP T st.H post 0 (zo5 post 0)=some (y1,l1)) (h2:yg1 T st.H rs aS l1=some (z,l2)) (hn:zt8 l2=true)
  (hsm:Sim T w ⟨zd6 φ cnt,S,(List.range cnt).map φ⟩ st F1 w1 S1 φ1) (hr2:VRL T w1 S1 φ1 aS us):kv5 T post rs y1 z w S φ cnt w1 us:=by
 obtain ⟨n1,g1,g2,g3,g4,g5⟩:=qk1 post 0 _ _ y1 h1;obtain ⟨n2,k1,k2,k3⟩:=zf7 rs aS _ _ z h2;have hsub: ∀i,some i∈l1->some i∈l2:=fun i hi=>by rw [k1.eq];exact X4.2 (.inl hi)
 have hl2:l2=zo5 post 0++(n1.map some++n2.map some):=by rw [k1.eq,g1,Q2]
 have hl1:l1.length=post.length+zo3 post:=by rw [g1,X9,U7,g2,zk7]
 have hpl:=yp0 hn;obtain ⟨q1,q2⟩:=g5 (fun i=>yu3 i l2) (Places.pre (m:=n2.map some) (by rw [<-k1.eq];exact hpl));obtain ⟨q3,q4⟩:=k3 _ hpl;rw [zk7] at q1 q2;rw [hl1] at q3 q4;have hs:=hsm.src (l:=l2) hn (fun k hk=>by
  simp at hk;rw [hl2,X8 (by rw [zk7];omega)];have:=vb6 post 0 k (by omega);rwa [U0] at this) (fun i e hi he j hj=>by
  rw [hl2] at hi;rcases X4.1 hi with hi|hi
  ·obtain ⟨e',p1,p2⟩:=g4 i hi;rw [he] at p1;simp only [X0] at p1;subst p1;exact hsub j (p2 j hj)
  ·rcases X4.1 hi with hi|hi
   ·obtain ⟨i',hi',e'⟩:=U3.1 hi;simp only [X0] at e';subst e';obtain ⟨e',p1,_,p2⟩:=g3 i' hi';rw [he] at p1;simp only [X0] at p1;subst p1;exact hsub j (p2 j hj)
   ·obtain ⟨i',hi',e'⟩:=U3.1 hi;simp only [X0] at e';subst e';obtain ⟨e',p1,_,p2⟩:=k1.ents i' hi';rw [he] at p1;simp only [X0] at p1;subst p1;exact p2 j hj)
 have hents:zh4 T st.H (fun i=>yu3 i l2) l2=zh4 T st.H (fun i=>yu3 i l2) (zo5 post 0)++(zd0 T st.H (fun i=>yu3 i l2) n1++zd0 T st.H (fun i=>yu3 i l2) n2):=by
  conv=>lhs;arg 4;rw [hl2]
  rw [yj5,yj5,ya2,ya2]
 rw [hents] at hs;refine ⟨[],S1,_,hs.imp (q1.app (q2.app q4)),q3.vrl (VRL.ren T (fun i hi=>φO_idx (k1.ids i hi)) hr2),?_⟩;intro i hi;rw [q3.ids] at hi;refine yh6 (fun j hj=>?_) i hi;have:=(X2.1 (zr2 (k1.ids j hj))).1;rw [k1.eq,X9,U7,k2,hl1] at this;rw [k1.eq];omega
def qf1 {cnt n:Nat} {ds:List Deferred} {fn:Func} {nl:Nl} {post:List PE} {rs:List Sh} (hpost:post.length=cnt) {st0:St T} {y':zv0 T post×zg8 T rs} (hst:jd6 T P fn nl post rs st0=some y') {F1:PF} {w1:World}
  (hsm0:zc0 T w ⟨zd6 φ cnt,S,(List.range cnt).map φ⟩ st0 F1 w1) {a:Act} (ha:Fr n ds F1 a): ∃v,(results fn a.tmps).run P w1=.ok v w1/\ ∃us,kv5 T post rs y'.1 y'.2 w S φ cnt w1 us/\v=yo7 us:=by
 unfold jd6 at hst;split at hst<;>try (cases hst;done)
 rename_i as0 has;obtain ⟨S1,φ0,hsm0'⟩:=hsm0;obtain ⟨us,hr1,hr0⟩:=yz4 hsm0' ha has;split at hst<;>try (cases hst;done)
 rename_i asw Hw hw;obtain ⟨φw,hsmw,hrw,hres⟩:=ye5 (by simp [hpost]) nl.w hw hsm0'.noF hr0 (yr8 (P:=P) hsm0' has);obtain ⟨φb,hsmb,hrb,hib⟩:=zi6 nl.bn hsmw hrw hres;obtain ⟨φ1,hsm,hr20⟩:=yn9 nl.rs hsmb hib hrb;have hr2:=ye4 hsm nl.ow hr20;simp only at hst;generalize hgp:vm5 T nl.rs asw (ze9 T nl.bn Hw)=pr at hst hsm hr2;obtain ⟨as1,Hf⟩:=pr;simp only at hr2 hst;generalize vm4 T nl.ow as1 Hf=aS at hst hr2;obtain ⟨as2,H2,S2,hK,hsm2,hv2⟩:=yo0 nl.z hst hsm hr2;unfold kl4 at hK;split at hK<;>try (cases hK;done)
 rename_i y1 l1 h1;split at hK<;>try (cases hK;done)
 rename_i z l2 h2;split at hK<;>try (cases hK;done)
 rename_i hn;simp only [X0] at hK;subst hK;exact ⟨_,hr1,us,kp0 (st:=⟨[],H2⟩) hpost h1 h2 hn hsm2 hv2,rfl⟩
def zj1 {C:Ctx T} {f:FuncId} {fn:Func} {c:Code} {cuts:List (Pos×Cut)} {ps rs:List Sh} {nl:Nl} {post:List PE} {g:zg8 T ps->Option (zv0 T post×zg8 T rs)} (hm:P.follows .mixedOrders=true) (hE:za0 T P C.E)
  (hf:P.funcs[f]?=some fn) (hb:fn.body=some c) (hs:Nat.ble ps.length fn.ntmps=true) (hpin:Nat.ble (zd1 ps) C.pin=true) (hpost:Nat.beq post.length (zd1 ps)=true)
  (hg: ∀x y,g x=some y-> ∃m,yi9 T P C cuts fn c nl ps post rs m x=some y):GOk T P f ⟨ps,post,rs,g⟩:=by
 intro x y hy w S φ hsim vs hvs hoks;obtain ⟨N,hN⟩:=hg x y hy;have hpost:=X1 hpost;have hall:(zi5 T id ps x 0).length=ps.length:=by
  have: ∀(l:List Sh) (x:zg8 T l) (k:Nat),(zi5 T id l x k).length=l.length:=by
   intro l;induction l with
   |nil=>intro x k;rfl
   |cons s r ih=>intro x k;exact congrArg (· +1) (ih x.2 _)
  exact this ps x 0
 have hlen:vs.length=ps.length:=by rw [<-hvs.len T];exact hall
 have hsz:vs.length<=fn.ntmps:=by rw [hlen];exact Y1 hs
 have hfr:Fr fn.ntmps [] (jk0 vs 0) {tmps:=vs.toArray++Array.replicate (fn.ntmps-vs.toArray.size) undef,defers:= []}:=by
  refine ⟨by simp;omega,rfl,fun i v hv=>?_⟩;obtain ⟨_,h2⟩:=yh7 vs 0 i v hv;simp only [J5] at h2;have hi:=(X2.1 h2).1;refine ⟨?_,by omega⟩;rw [Y7,Array.getElem?_append_left (by simpa using hi)];simp [h2]
 have hstart:=hsim.slots hvs hoks;have hpin':((List.range (zd1 ps)).map φ).length<=C.pin:=by simpa using Y1 hpin
 have key: ∀st,jd6 T P fn nl post rs st=some y-> ∀F1 w1,zc0 T w ⟨zd6 φ (zd1 ps),S,(List.range (zd1 ps)).map φ⟩ st F1 w1-> ∀a,Fr fn.ntmps [] F1 a-> ∃v,(results fn a.tmps).run P w1=.ok v w1/\
   ∃(F1:PF) (S1:List Nat) (φ1:Nat->RA) (us:List Value),Sim T w ⟨zd6 φ (zd1 ps),S,(List.range (zd1 ps)).map φ⟩ ⟨[],mkP T id post y.1 post.length++(je6 T id post y.1 post.length++zo4 T id rs y.2 (post.length+zo3 post))⟩ F1 w1 S1 φ1/\
    VRL T w1 S1 φ1 (zi5 T id rs y.2 (post.length+zo3 post)) us/\v=yo7 us/\ ∀i∈j8 (zi5 T id rs y.2 (post.length+zo3 post)),i<post.length+(zo3 post+zd1 rs):=by
  intro st0 hst F1 w1 hsm0 a ha;obtain ⟨v,h1,us,⟨F2,S2,φ2,k1,k2,k3⟩,h3⟩:=qf1 hpost hst hsm0 ha;exact ⟨v,h1,F2,S2,φ2,us,k1,k2,h3,k3⟩
 have hKs:KsOk (bodyPost P fn fun e w'=>match e with
   | .returned v=> ∃(F1:PF) (S1:List Nat) (φ1:Nat->RA) (us:List Value),Sim T w ⟨zd6 φ (zd1 ps),S,(List.range (zd1 ps)).map φ⟩ ⟨[],mkP T id post y.1 post.length++(je6 T id post y.1 post.length++zo4 T id rs y.2 (post.length+zo3 post))⟩ F1 w' S1 φ1/\
    VRL T w' S1 φ1 (zi5 T id rs y.2 (post.length+zo3 post)) us/\v=yo7 us/\ ∀i∈j8 (zi5 T id rs y.2 (post.length+zo3 post)),i<post.length+(zo3 post+zd1 rs)
   |_=>False) fn.ntmps [] w ⟨zd6 φ (zd1 ps),S,(List.range (zd1 ps)).map φ⟩ y (jb3 T P fn nl post rs):=by
  refine ⟨?_,fun i st h=>(by cases h),?_,fun a st h=>(by cases h)⟩
  ·intro st hst F1 w1 hs1 a ha;obtain ⟨v,h1,h2⟩:=key st hst F1 w1 hs1 a ha;exact ⟨ha.defers,v,h1,h2⟩
  ·intro st hst F1 w1 hs1 a ha;obtain ⟨v,h1,h2⟩:=key st hst F1 w1 hs1 a ha;exact ⟨ha.defers,v,h1,h2⟩
 exact calls_of_wp hf hb (zi1 hm hpin' hE c [] _ _ _ _ w hN hKs (JOk.run hm hpin' hE hKs N) ⟨S,φ,hstart⟩ _ hfr)
def q8 (f:FuncId):zc2 T P f (za4 T)/\zt5 T P f (za4 T)/\jb7 (za4 T):=
 ⟨fun _ _ _ _ _ h=>(by cases h),fun _ _ _ _ h=>(by cases h),fun _ _ _ _ _ h=>(by cases h)⟩
def zb0 {f:FuncId} {sp:FnSpec T} (h:yt7 T P f sp):zc2 T P f sp.toCall/\zt5 T P f sp.toCall/\jb7 sp.toCall:=⟨jt5 h,vi4 h,ke0 sp⟩
def v6 {f:FuncId} {sp:GSpec T} {alt:CallSpec T} (h:GOk T P f sp) (ha:zc2 T P f alt/\zt5 T P f alt/\jb7 alt):zc2 T P f (sp.toCall alt)/\zt5 T P f (sp.toCall alt)/\jb7 (sp.toCall alt):=⟨qc8 h ha.1,ha.2.1,kp9 ha.2.2⟩
def zg2 {f:FuncId} {cs:CallSpec T} {E:List (FuncId×CallSpec T)} (h:zc2 T P f cs/\zt5 T P f cs/\jb7 cs) (hE:za0 T P E):za0 T P ((f,cs)::E):=by
 intro g cs' hg;unfold jy7 at hg;split at hg
 ·rename_i hb;have:=X1 hb;subst this;simp only [X0] at hg;subst hg;exact h
 ·exact hE g cs' hg
end
end Go.X
