import Derived.Test.YtampgjnliepkiaaGreatA8
set_option linter.defProp false
namespace Go.X
open Go.RowKit Go.V
inductive Sh where
 |val (t:Ty)
 |row (e:TypeId) (t:Ty)
 |slr (e:TypeId) (t:Ty)
 |ptr (o:Nat) (e:TypeId) (cs:List Sh)
 |slb (sz n:Nat) (e:TypeId) (cs:List Sh)
 |at_ (i o:Nat)
 |own (i:Nat)
 |part (i sz:Nat)
 |fn (f:FuncId) (a b:List Sh)
 |agg (cs:List Sh)
 |ifc (t:TypeId) (s:Sh)
 |nils
 |nilp
 |arr (t:Ty) (n:Nat)
 |lp (e:Ty) (o:Nat)
 |asp (i o sz n:Nat)
 |asn (e:TypeId) (cs:List Sh) (o sz n:Nat)
 |asq (e:TypeId) (cs:List Sh) (o sz n lo m:Nat)
 |ap (i o sz n c:Nat)
 |mp (k:IntKind) (keys:List Int) (cs:List Sh)
 |mpo (i:Nat)
 |rw (n:Nat)
 |lpk (e:Ty) (k o:Nat)
 |tm (k:IntKind) (t:Ty)
 |dr (e:TypeId) (d:Nat) (fe:List TypeId)
 |pm (k:IntKind) (be:TypeId) (d:Nat)
 |lit (k:IntKind) (x:Int)
 |gm
 |gmo (i:Nat)
section
variable (T:Tab)
mutual
def Sh.den:Sh->Type
 | .val t=>den T.U t
 | .row _ t=>List (den T.U t)
 | .slr _ t=>List (den T.U t)×Nat×Nat
 | .ptr _ _ cs=>zf1 cs
 | .slb _ _ _ cs=>zf1 cs
 | .at_ _ _=>Unit
 | .own _=>Unit
 | .part _ _=>Nat×Nat
 | .fn _ a b=>zf1 a×zf1 b
 | .agg cs=>zf1 cs
 | .ifc _ s=>s.den
 | .nils=>Unit
 | .nilp=>Unit
 | .lit _ _=>Unit
 | .arr t _=>List (den T.U t)
 | .lp e _=>List (den T.U e)×Nat
 | .asp _ _ _ _=>Nat×Nat
 | .asn _ cs _ _ _=>zf1 cs×Nat×Nat
 | .asq _ cs _ _ _ _ _=>zf1 cs
 | .ap _ _ _ _ _=>Nat
 | .mp _ _ cs=>zf1 cs
 | .mpo _=>Unit
 | .rw _=>Unit
 | .lpk e _ _=>List (den T.U e)
 | .tm _ t=>List (Int×den T.U t)
 | .dr _ d _=>List (T.U d)
 | .pm _ _ d=>List (Int×T.U d)
 | .gm=>Unit
 | .gmo _=>Unit
def zf1:List Sh->Type
 | []=>Unit
 |s::r=>s.den×zf1 r
end
mutual
def Sh.cnt:Sh->Nat
 | .row _ _=>1
 | .slr _ _=>1
 | .ptr _ _ cs=>1+zb1 cs
 | .slb _ _ _ cs=>1+zb1 cs
 | .fn _ a b=>zb1 a+zb1 b
 | .agg cs=>zb1 cs
 | .ifc _ s=>s.cnt
 | .asn _ cs _ _ _=>1+zb1 cs
 | .asq _ cs _ _ _ _ _=>1+zb1 cs
 | .mp _ _ cs=>1+zb1 cs
 | .tm _ _=>1
 | .dr _ _ _=>1
 | .pm _ _ _=>1
 | .gm=>1
 |_=>0
def zb1:List Sh->Nat
 | []=>0
 |s::r=>s.cnt+zb1 r
end
def um3:Nat->Value
 |0=>.nilFunc
 |1=>.nilIface
 |2=>.map none
 |_=>.pointer none
def yg8 {U:Nat->Type}:List Int->List (AV U)->List (Int×AV U)
 |x::r,a::s=>(x,a)::yg8 r s
 |_,_=> []
mutual
def mkA (σ:Nat->Nat):(s:Sh)->s.den T->Nat->AV T.U
 | .val t,x,_=>zo3 T t x
 | .row _ _,_,k=>.own (σ k)
 | .slr _ t,x,k=>.sl (σ k) (szT T t) x.2.1 x.2.2
 | .ptr o _ _,_,k=>.ptr (σ k) o
 | .slb sz n _ _,_,k=>.sl (σ k) sz 0 n
 | .at_ i o,_,_=>.ptr (σ i) o
 | .own i,_,_=>.own (σ i)
 | .part i sz,x,_=>.sl (σ i) sz x.1 x.2
 | .fn f a b,x,k=>.fn (.func f) (zc6 σ a x.1 k) (zc6 σ b x.2 (k+zb1 a))
 | .agg cs,x,k=>.agg (zc6 σ cs x k)
 | .ifc t s,x,k=>.ifc t (mkA σ s x k)
 | .nils,_,_=>.raw (.slice none 0 0)
 | .nilp,_,_=>.raw (.pointer none)
 | .lit k x,_,_=>.cell ⟨.int k,x⟩
 | .arr t n,x,_=>.arr t n x
 | .lp e o,x,_=>.lptr e x.1 x.2 o
 | .asp i o sz n,x,_=>.asl (σ i) o sz n x.1 x.2
 | .asn _ _ o sz n,x,k=>.asl (σ k) o sz n x.2.1 x.2.2
 | .asq _ _ o sz n lo m,_,k=>.asl (σ k) o sz n lo m
 | .ap i o sz n c,x,_=>.aptr (σ i) o sz n x c
 | .mp _ _ _,_,k=>.mp (σ k)
 | .mpo i,_,_=>.mp (σ i)
 | .rw n,_,_=>.raw (um3 n)
 | .lpk e k o,x,_=>.lptr e x k o
 | .tm _ _,_,k=>.mp (σ k)
 | .dr _ _ _,_,k=>.own (σ k)
 | .pm _ _ _,_,k=>.mp (σ k)
 | .gm,_,k=>.hmp (σ k)
 | .gmo i,_,_=>.hmp (σ i)
def zc6 (a:Nat->Nat):(l:List Sh)->zf1 T l->Nat->List (AV T.U)
 | [],_,_=> []
 |s::r,x,k=>mkA a s x.1 k::zc6 a r x.2 (k+s.cnt)
end
mutual
def mkE (σ:Nat->Nat):(s:Sh)->s.den T->Nat->List (Ent T.U)
 | .row e t,x,_=> [.row e t x]
 | .slr e t,x,_=> [.row e t x.1]
 | .ptr _ e cs,x,k=>.blk e (zc6 T σ cs x (k+1))::zg9 σ cs x (k+1)
 | .slb _ _ e cs,x,k=>.blk e (zc6 T σ cs x (k+1))::zg9 σ cs x (k+1)
 | .fn _ a b,x,k=>zg9 σ a x.1 k++zg9 σ b x.2 (k+zb1 a)
 | .agg cs,x,k=>zg9 σ cs x k
 | .ifc _ s,x,k=>mkE σ s x k
 | .val _,_,_=> []
 | .at_ _ _,_,_=> []
 | .own _,_,_=> []
 | .part _ _,_,_=> []
 | .nils,_,_=> []
 | .nilp,_,_=> []
 | .lit _ _,_,_=> []
 | .arr _ _,_,_=> []
 | .lp _ _,_,_=> []
 | .asp _ _ _ _,_,_=> []
 | .asn e cs _ _ _,x,k=>.blk e (zc6 T σ cs x.1 (k+1))::zg9 σ cs x.1 (k+1)
 | .asq e cs _ _ _ _ _,x,k=>.blk e (zc6 T σ cs x (k+1))::zg9 σ cs x (k+1)
 | .ap _ _ _ _ _,_,_=> []
 | .mp kd keys cs,x,k=>.map kd (yg8 keys (zc6 T σ cs x (k+1)))::zg9 σ cs x (k+1)
 | .mpo _,_,_=> []
 | .rw _,_,_=> []
 | .lpk _ _ _,_,_=> []
 | .tm kd t,x,_=> [.tmap kd t x]
 | .dr e d fe,x,_=> [.drow e d fe x none]
 | .pm k be d,x,_=> [.pmap k be d x none]
 | .gm,_,_=> [.hid]
 | .gmo _,_,_=> []
def zg9 (a:Nat->Nat):(l:List Sh)->zf1 T l->Nat->List (Ent T.U)
 | [],_,_=> []
 |s::r,x,k=>mkE a s x.1 k++zg9 a r x.2 (k+s.cnt)
end
abbrev Src:=List (Option Nat)
def qg0 (H:List (Ent T.U)) (e:TypeId) (t:Ty) (i:Nat):Option (List (den T.U t)):=
 match H[i]? with
 |some (.row a b xs)=>match Nat.beq a e with|true=>(if h:b=t then some (h▸xs) else none)|false=>none
 |_=>none
def jq2 (H:List (Ent T.U)) (e:TypeId) (i:Nat):Option (List (AV T.U)):=
 match H[i]? with
 |some (.blk a cs)=>match Nat.beq a e with|true=>some cs|false=>none
 |_=>none
def yi8 (l:Src) (p i:Nat):Bool:=match l[p]? with|some (some j)=>Nat.beq j i|_=>false
def qe3 {α a b:Type} (f:α->a):Option (α×b)->Option (a×b)
 |some (x,l)=>some (f x,l)
 |none=>none
def gf8 {U:Nat->Type}:AV U->Option Nat| .own i=>some i|_=>none
def slI {U:Nat->Type}:AV U->Option (Nat×Nat×Nat×Nat)| .sl i sz o n=>some (i,sz,o,n)|_=>none
def go5 {U:Nat->Type}:AV U->Option (Nat×Nat)| .ptr i o=>some (i,o)|_=>none
def fnI {U:Nat->Type}:AV U->Option (FuncId×List (AV U)×List (AV U))| .fn (.func f) a b=>some (f,a,b)|_=>none
def wo8 {U:Nat->Type}:AV U->Option (List (AV U))| .agg cs=>some cs|_=>none
def wp2 {U:Nat->Type}:AV U->Option (TypeId×AV U)| .ifc t a=>some (t,a)|_=>none
def kx6 {U:Nat->Type}:AV U->Bool| .raw (.slice none 0 0)=>true|_=>false
def kw7 {U:Nat->Type} (t:Ty) (n:Nat):AV U->Option (List (den U t))
 | .arr a b xs=>match Nat.beq b n with|true=>(if h:a=t then some (h▸xs) else none)|false=>none
 |_=>none
def lpI {U:Nat->Type} (e:Ty) (o:Nat):AV U->Option (List (den U e)×Nat)
 | .lptr a xs k o'=>match Nat.beq o' o with|true=>(if h:a=e then some (h▸xs,k) else none)|false=>none
 |_=>none
def ga6 {U:Nat->Type}:AV U->Option (Nat×Nat×Nat×Nat×Nat×Nat)| .asl i o sz n a m=>some (i,o,sz,n,a,m)|_=>none
def kw4 {U:Nat->Type}:AV U->Option (Nat×Nat×Nat×Nat×Nat×Nat)| .aptr i o sz n k c=>some (i,o,sz,n,k,c)|_=>none
def mpI {U:Nat->Type}:AV U->Option Nat| .mp i=>some i|_=>none
def wq1 {U:Nat->Type} (n:Nat):AV U->Bool
 | .raw .nilFunc=>Nat.beq n 0
 | .raw .nilIface=>Nat.beq n 1
 | .raw (.map none)=>Nat.beq n 2
 |_=>false
def qc8 {U:Nat->Type}:List Int->List (Int×AV U)->Bool
 | [],[]=>true
 |x::r,(y,_)::s=>match gm2 x y with|true=>qc8 r s|false=>false
 |_,_=>false
def vx7 (H:List (Ent T.U)) (k:IntKind) (a:List Int) (i:Nat):Option (List (AV T.U)):=
 match H[i]? with
 |some (.map b es)=>match zf0 b k&&qc8 a es with|true=>some (es.map Prod.snd)|false=>none
 |_=>none
def gz4 (H:List (Ent T.U)) (k:IntKind) (t:Ty) (i:Nat):Option (List (Int×den T.U t)):=
 match H[i]? with
 |some (.tmap a b xs)=>match zf0 a k with|true=>(if h:b=t then some (h▸xs) else none)|false=>none
 |_=>none
def gm0 (H:List (Ent T.U)) (e:TypeId) (d:Nat) (fe:List TypeId) (i:Nat):Option (List (T.U d)):=
 match H[i]? with
 |some (.drow b c a xs none)=>match Nat.beq b e with|true=>(if h:c=d then (if a=fe then some (h▸xs) else none) else none)|false=>none
 |_=>none
def go4 (H:List (Ent T.U)) (k:IntKind) (b:TypeId) (d:Nat) (i:Nat):Option (List (Int×T.U d)):=
 match H[i]? with
 |some (.pmap c a e xs none)=>match zf0 c k&&Nat.beq a b with|true=>(if h:e=d then some (h▸xs) else none)|false=>none
 |_=>none
def vx1 (H:List (Ent T.U)) (i:Nat):Bool:=match H[i]? with|some .hid=>true|_=>false
def gm4 {U:Nat->Type}:AV U->Option Nat| .hmp i=>some i|_=>none
def wp4 {U:Nat->Type} (k:IntKind) (x:Int):AV U->Bool| .cell ⟨.int a,y⟩=>zf0 a k&&gm2 y x|_=>false
def kx5 {U:Nat->Type}:AV U->Bool| .raw (.pointer none)=>true|_=>false
mutual
def rdS (H:List (Ent T.U)):(s:Sh)->AV T.U->Src->Option (s.den T×Src)
 | .val t,a,l=>match jo3 T t a with|some x=>some (x,l)|none=>none
 | .row e t,a,l=>match gf8 a with
  |some i=>(match qg0 T H e t i with|some xs=>some (xs,l++ [some i])|none=>none)
  |none=>none
 | .slr e t,a,l=>match slI a with
  |some (i,sz,o,n)=>(match qg0 T H e t i with|some xs=>(match Nat.beq sz (szT T t) with|true=>some ((xs,o,n),l++ [some i])|false=>none)|none=>none)
  |none=>none
 | .ptr o e cs,a,l=>match go5 a with
  |some (i,o')=>(match jq2 T H e i with|some aS=>(match Nat.beq o' o with|true=>yb4 H cs aS (l++ [some i])|false=>none)|none=>none)
  |none=>none
 | .slb sz n e cs,a,l=>match slI a with
  |some (i,sz',o,n')=>(match jq2 T H e i with|some aS=>(match Nat.beq sz' sz&&(Nat.beq n' n&&Nat.beq o 0) with|true=>yb4 H cs aS (l++ [some i])|false=>none)|none=>none)
  |none=>none
 | .at_ p o,a,l=>match go5 a with
  |some (i,o')=>(match Nat.beq o' o&&yi8 l p i with|true=>some ((),l)|false=>none)
  |none=>none
 | .own p,a,l=>match gf8 a with
  |some i=>(match yi8 l p i with|true=>some ((),l)|false=>none)
  |none=>none
 | .part p sz,a,l=>match slI a with
  |some (i,sz',o,n)=>(match Nat.beq sz' sz&&yi8 l p i with|true=>some ((o,n),l)|false=>none)
  |none=>none
 | .fn f a b,c,l=>match fnI c with
  |some (f',aS,bs)=>(match yb4 H a aS l with
   |some (x,l1)=>(match Nat.beq f' f with|true=>qe3 (fun y=>(x,y)) (yb4 H b bs l1)|false=>none)
   |none=>none)
  |none=>none
 | .agg cs,a,l=>match wo8 a with|some aS=>yb4 H cs aS l|none=>none
 | .ifc t s,a,l=>match wp2 a with
  |some (t',b)=>(match Nat.beq t' t with|true=>rdS H s b l|false=>none)
  |none=>none
 | .nils,a,l=>match kx6 a with|true=>some ((),l)|false=>none
 | .nilp,a,l=>match kx5 a with|true=>some ((),l)|false=>none
 | .lit k x,a,l=>match wp4 k x a with|true=>some ((),l)|false=>none
 | .arr t n,a,l=>match kw7 t n a with|some xs=>some (xs,l)|none=>none
 | .lp e o,a,l=>match lpI e o a with|some x=>some (x,l)|none=>none
 | .asp p o sz n,a,l=>match ga6 a with
  |some (i,o',sz',n',lo,m)=>(match yi8 l p i&&(Nat.beq o' o&&(Nat.beq sz' sz&&Nat.beq n' n)) with|true=>some ((lo,m),l)|false=>none)
  |none=>none
 | .asn e cs o sz n,a,l=>match ga6 a with
  |some (i,o',sz',n',lo,m)=>(match jq2 T H e i with|some aS=>(match Nat.beq o' o&&(Nat.beq sz' sz&&Nat.beq n' n) with|true=>qe3 (fun x=>(x,lo,m)) (yb4 H cs aS (l++ [some i]))|false=>none)|none=>none)
  |none=>none
 | .asq e cs o sz n lo m,a,l=>match ga6 a with
  |some (i,o',sz',n',lo',m')=>(match jq2 T H e i with|some aS=>(match Nat.beq o' o&&(Nat.beq sz' sz&&(Nat.beq n' n&&(Nat.beq lo' lo&&Nat.beq m' m))) with|true=>yb4 H cs aS (l++ [some i])|false=>none)|none=>none)
  |none=>none
 | .ap p o sz n c,a,l=>match kw4 a with
  |some (i,o',sz',n',k,c')=>(match yi8 l p i&&(Nat.beq o' o&&(Nat.beq sz' sz&&(Nat.beq n' n&&Nat.beq c' c))) with|true=>some (k,l)|false=>none)
  |none=>none
 | .mp kd keys cs,a,l=>match mpI a with
  |some i=>(match vx7 T H kd keys i with|some aS=>yb4 H cs aS (l++ [some i])|none=>none)
  |none=>none
 | .mpo p,a,l=>match mpI a with
  |some i=>(match yi8 l p i with|true=>some ((),l)|false=>none)
  |none=>none
 | .rw n,a,l=>match wq1 n a with|true=>some ((),l)|false=>none
 | .lpk e k o,a,l=>match lpI e o a with|some x=>(match Nat.beq x.2 k with|true=>some (x.1,l)|false=>none)|none=>none
 | .tm kd t,a,l=>match mpI a with
  |some i=>(match gz4 T H kd t i with|some xs=>some (xs,l++ [some i])|none=>none)
  |none=>none
 | .dr e d fe,a,l=>match gf8 a with
  |some i=>(match gm0 T H e d fe i with|some xs=>some (xs,l++ [some i])|none=>none)
  |none=>none
 | .pm k be d,a,l=>match mpI a with
  |some i=>(match go4 T H k be d i with|some xs=>some (xs,l++ [some i])|none=>none)
  |none=>none
 | .gm,a,l=>match gm4 a with
  |some i=>(match vx1 T H i with|true=>some ((),l++ [some i])|false=>none)
  |none=>none
 | .gmo p,a,l=>match gm4 a with
  |some i=>(match yi8 l p i with|true=>some ((),l)|false=>none)
  |none=>none
def yb4 (H:List (Ent T.U)):(ss:List Sh)->List (AV T.U)->Src->Option (zf1 T ss×Src)
 | [],aS,l=>match aS with| []=>some ((),l)|_::_=>none
 |s::r,aS,l=>match aS with
  |a::aS=>(match rdS H s a l with|some (x,l1)=>qe3 (fun y=>(x,y)) (yb4 H r aS l1)|none=>none)
  | []=>none
end
inductive PE where
 |gone
 |row (e:TypeId) (t:Ty)
 |blk (e:TypeId) (cs:List Sh)
 |map (k:IntKind) (keys:List Int) (cs:List Sh)
 |tmap (k:IntKind) (t:Ty)
 |dr (e:TypeId) (d:Nat) (fe:List TypeId)
 |pm (k:IntKind) (be:TypeId) (d:Nat)
 |gm
def PE.den:PE->Type
 | .gone=>Unit
 | .row _ t=>List (Go.X.den T.U t)
 | .blk _ cs=>zf1 T cs
 | .map _ _ cs=>zf1 T cs
 | .tmap _ t=>List (Int×Go.X.den T.U t)
 | .dr _ d _=>List (T.U d)
 | .pm _ _ d=>List (Int×T.U d)
 | .gm=>Unit
def zq1:List PE->Type
 | []=>Unit
 |p::r=>p.den T×zq1 r
def PE.cnt:PE->Nat| .blk _ cs=>zb1 cs| .map _ _ cs=>zb1 cs|_=>0
def ze0:List PE->Nat
 | []=>0
 |p::r=>p.cnt+ze0 r
def zp3:List PE->Nat->Src
 | [],_=> []
 | .gone::r,j=>none::zp3 r (j+1)
 |_::r,j=>some j::zp3 r (j+1)
def gf1 (c:Nat->Nat):(p:PE)->p.den T->Nat->Ent T.U
 | .gone,_,_=>.gone
 | .row e t,x,_=>.row e t x
 | .blk e cs,x,k=>.blk e (zc6 T c cs x k)
 | .map b a cs,x,k=>.map b (yg8 a (zc6 T c cs x k))
 | .tmap b t,x,_=>.tmap b t x
 | .dr e d fe,x,_=>.drow e d fe x none
 | .pm k f d,x,_=>.pmap k f d x none
 | .gm,_,_=>.hid
def vx9 (a:Nat->Nat):(p:PE)->p.den T->Nat->List (Ent T.U)
 | .blk _ cs,x,k=>zg9 T a cs x k
 | .map _ _ cs,x,k=>zg9 T a cs x k
 | .gone,_,_=> []
 | .row _ _,_,_=> []
 | .tmap _ _,_,_=> []
 | .dr _ _ _,_,_=> []
 | .pm _ _ _,_,_=> []
 | .gm,_,_=> []
def mkP (a:Nat->Nat):(ps:List PE)->zq1 T ps->Nat->List (Ent T.U)
 | [],_,_=> []
 |p::r,x,k=>gf1 T a p x.1 k::mkP a r x.2 (k+p.cnt)
def yh5 (a:Nat->Nat):(ps:List PE)->zq1 T ps->Nat->List (Ent T.U)
 | [],_,_=> []
 |p::r,x,k=>vx9 T a p x.1 k++yh5 a r x.2 (k+p.cnt)
def qy4 (H:List (Ent T.U)) (j:Nat):(p:PE)->Src->Option (p.den T×Src)
 | .gone,l=>some ((),l)
 | .row e t,l=>match qg0 T H e t j with|some xs=>some (xs,l)|none=>none
 | .blk e cs,l=>match jq2 T H e j with|some aS=>yb4 T H cs aS l|none=>none
 | .map kd keys cs,l=>match vx7 T H kd keys j with|some aS=>yb4 T H cs aS l|none=>none
 | .tmap kd t,l=>match gz4 T H kd t j with|some xs=>some (xs,l)|none=>none
 | .dr e d fe,l=>match gm0 T H e d fe j with|some xs=>some (xs,l)|none=>none
 | .pm k be d,l=>match go4 T H k be d j with|some xs=>some (xs,l)|none=>none
 | .gm,l=>match vx1 T H j with|true=>some ((),l)|false=>none
def rdP (H:List (Ent T.U)):(ps:List PE)->Nat->Src->Option (zq1 T ps×Src)
 | [],_,l=>some ((),l)
 |p::r,j,l=>match qy4 T H j p l with|some (x,a)=>qe3 (fun y=>(x,y)) (rdP H r (j+1) a)|none=>none
def zh6 (H:List (Ent T.U)) (ρ:Nat->Nat):Src->List (Ent T.U)
 | []=> []
 |some i::r=>(match H[i]? with|some e=>e.ren ρ|none=>.gone)::zh6 H ρ r
 |none::r=>.gone::zh6 H ρ r
def yq7 (i:Nat):Src->Nat
 | []=>0
 |some j::r=>match Nat.beq j i with|true=>0|false=>yq7 i r+1
 |none::r=>yq7 i r+1
def ql7 (i:Nat):Src->Bool| []=>false|some j::r=>(match Nat.beq j i with|true=>true|false=>ql7 i r)|none::r=>ql7 i r
def zm3:Src->Bool| []=>true|some i::r=> !ql7 i r&&zm3 r|none::r=>zm3 r
end
section
variable {T:Tab}
def yd8 {i}: ∀ {l},ql7 i l=true↔some i∈l
 | []=>by simp [ql7]
 |none::r=>by simp [ql7,yd8 (l:=r)]
 |some j::r=>by
  unfold ql7;split
  ·rename_i h;have:=X1 h;subst this;simp
  ·rename_i h;rw [yd8 (l:=r)];have:j≠i:=fun e=>by subst e;simp at h
   simp [Ne.symm this]
def yf9: ∀ {l},zm3 l=true-> ∀ {a b x:Nat},l[a]?=some (some x)->l[b]?=some (some x)->a=b
 | [],_,_,_,_,h,_=>by simp at h
 |none::r,d,a,b,x,e,f=>by
  unfold zm3 at d;cases a with
  |zero=>simp at e
  |succ a=>
   cases b with
   |zero=>simp at f
   |succ b=>have:=yf9 d (a:=a) (b:=b) (by simpa using e) (by simpa using f);omega
 |some j::r,d,a,b,x,e,f=>by
  unfold zm3 at d;simp only [X3,V4] at d;have g: ∀ {c:Nat},r[c]?=some (some j)->False:=fun i=>by
   have:=yd8.2 (X6 i);rw [d.1] at this;cases this
  cases a with
  |zero=>
   simp at e;subst e;cases b with
   |zero=>rfl
   |succ b=>exact (g (by simpa using f)).elim
  |succ a=>
   cases b with
   |zero=>simp at f;subst f;exact (g (by simpa using e)).elim
   |succ b=>have:=yf9 d.2 (a:=a) (b:=b) (by simpa using e) (by simpa using f);omega
def zl6 {i}: ∀ {l},some i∈l->l[yq7 i l]?=some (some i)
 | [],h=>by cases h
 |none::r,h=>by
  have h:some i∈r:=by simpa using h
  show (none::r)[yq7 i r+1]?=_;simpa using zl6 h
 |some j::r,h=>by
  unfold yq7;split
  ·rename_i a;have:=X1 a;subst this;rfl
  ·rename_i a;rcases Z0.1 h with h|h
   ·cases h;simp at a
   ·simpa using zl6 h
def Places (ρ:Nat->Nat) (l:Src):Prop:= ∀(p i:Nat),l[p]?=some (some i)->ρ i=p
def Places.pre {ρ l m} (h:Places ρ (l++m)):Places ρ l:=fun p i a=>h p i (by
 rw [X8 (X2.1 a).1];exact a)
def yg1 {l} (h:zm3 l=true):Places (fun i=>yq7 i l) l:=fun p i a=>yf9 h (zl6 (X6 a)) a
def yg3 {H e t i xs} (h:qg0 T H e t i=some xs):H[i]?=some (.row e t xs):=by
 unfold qg0 at h;split at h
 ·rename_i d f ys a;split at h
  ·rename_i b;have:=X1 b;subst this;split at h
   ·rename_i c;subst c;have h:ys=xs:=X5 h;subst h;exact a
   ·cases h
  ·cases h
 ·cases h
def jx3 {H k t i xs} (h:gz4 T H k t i=some xs):H[i]?=some (.tmap k t xs):=by
 unfold gz4 at h;split at h
 ·rename_i d e ys a;split at h
  ·rename_i b;have:=za8 b;subst this;split at h
   ·rename_i c;subst c;have h:ys=xs:=X5 h;subst h;exact a
   ·cases h
  ·cases h
 ·cases h
def ju8 {H k b d i xs} (h:go4 T H k b d i=some xs):H[i]?=some (.pmap k b d xs none):=by
 unfold go4 at h;split at h
 ·rename_i g c j ys e;split at h
  ·rename_i a;rw [X3] at a;have:=za8 a.1;subst this;have:=X1 a.2;subst this;split at h
   ·rename_i f;subst f;have h:ys=xs:=X5 h;subst h;exact e
   ·cases h
  ·cases h
 ·cases h
def js6 {H e d fe i xs} (h:gm0 T H e d fe i=some xs):H[i]?=some (.drow e d fe xs none):=by
 unfold gm0 at h;split at h
 ·rename_i j k a ys b;split at h
  ·rename_i c;have:=X1 c;subst this;split at h
   ·rename_i f;subst f;split at h
    ·rename_i g;subst g;have h:ys=xs:=X5 h;subst h;exact b
    ·cases h
   ·cases h
  ·cases h
 ·cases h
def zx1 {H e i cs} (h:jq2 T H e i=some cs):H[i]?=some (.blk e cs):=by
 unfold jq2 at h;split at h
 ·rename_i d a b;split at h
  ·rename_i c;have:=X1 c;subst this;simp only [X0] at h;subst h;exact b
  ·cases h
 ·cases h
def jg3 {H:List (Ent T.U)} {k:IntKind} {keys:List Int} {i:Nat} {aS:List (AV T.U)} (h:vx7 T H k keys i=some aS):H[i]?=some (.map k (yg8 keys aS)):=by
 unfold vx7 at h;split at h
 ·rename_i k' es hi;split at h
  ·rename_i hb;rw [X3] at hb;have:=za8 hb.1;subst this;simp only [X0] at h;subst h;rw [hi];have key: ∀(keys:List Int) (es:List (Int×AV T.U)),qc8 keys es=true->es=yg8 keys (es.map Prod.snd):=by
    intro keys;induction keys with
    |nil=>intro es h;cases es with|nil=>rfl|cons _ _=>cases h
    |cons x r ih=>
     intro es h
     match es,h with
     |(y,a)::s,h=>
      unfold qc8 at h;split at h
      ·rename_i he;have:x=y:=by simpa [gm2] using he
       subst this;rw [U2,yg8,<-ih s h]
      ·cases h
   rw [<-key keys es hb.2]
  ·cases h
 ·cases h
def zk8 {l p i} (h:yi8 l p i=true):l[p]?=some (some i):=by
 unfold yi8 at h;split at h
 ·rename_i j a;rw [X1 h] at a;exact a
 ·cases h
def zr7 (H ρ): ∀(l m),ze3 T H ρ (l++m)=ze3 T H ρ l++ze3 T H ρ m
 | [],_=>rfl
 |i::r,m=>by
  rw [M9,ze3,ze3];split
  ·rw [zr7 H ρ r m];rfl
  ·rw [zr7 H ρ r m];rfl
def yg0 {α a b:Type} {f:α->a} {o:Option (α×b)} {y:a} {l:b} (h:qe3 f o=some (y,l)): ∃x,o=some (x,l)/\f x=y:=by
 unfold qe3 at h;split at h
 ·simp only [X0,X7] at h;obtain ⟨c,rfl⟩:=h;exact ⟨_,rfl,c⟩
 ·cases h
structure RdOk (T:Tab) (H:List (Ent T.U)) (ids:List Nat) (l l':Src) (new:List Nat):Prop where
 eq:l'=l++new.map some
 ids: ∀j∈ids,some j∈l'
 ents: ∀i∈new,∃e,H[i]?=some e/\e.live=true/\ ∀j∈e.cellIds,some j∈l'
end
end Go.X
namespace Go.X
open Go.RowKit Go.V
section
variable {T:Tab}
def RdOk.nil {H ids l} (h: ∀j∈ids,some j∈l):RdOk T H ids l l []:=⟨by simp,h,by intro i a;cases a⟩
def RdOk.one {H l i e} (b:H[i]?=some e) (c:e.live=true) (d:e.cellIds= []):RdOk T H [i] l (l++ [some i]) [i]:=
 ⟨rfl,by intro j a;simp at a;subst a;simp,by intro j a;simp at a;subst a;exact ⟨e,b,c,by rw [d];intro j a;cases a⟩⟩
def RdOk.app {H n o l k l2 p q} (m:RdOk T H n l k p) (h:RdOk T H o k l2 q):RdOk T H (n++o) l l2 (p++q):=by
 have f: ∀j,some j∈k->some j∈l2:=fun j d=>by rw [h.eq];exact X4.2 (.inl d)
 refine ⟨by rw [h.eq,m.eq,J3,Q2],?_,?_⟩
 ·intro j d;rcases X4.1 d with d|d
  ·exact f j (m.ids j d)
  ·exact h.ids j d
 ·intro i g;rcases X4.1 g with g|g
  ·obtain ⟨e,a,b,c⟩:=m.ents i g;exact ⟨e,a,b,fun j d=>f j (c j d)⟩
  ·exact h.ents i g
def RdOk.blk {H l l' i e cs b} (c:H[i]?=some (.blk e cs)) (h:RdOk T H (u0 cs) (l++ [some i]) l' b):RdOk T H [i] l l' (i::b):=by
 refine ⟨by rw [h.eq];simp,?_,?_⟩
 ·intro j a;simp at a;subst a;rw [h.eq];simp
 ·intro j a;rcases Z0.1 a with rfl|a
  ·exact ⟨_,c,rfl,h.ids⟩
  ·exact h.ents j a
def RdOk.map {H l l' i k a cs c} (d:H[i]?=some (.map k (yg8 a cs))) (e: ∀j∈idsM (yg8 a cs),j∈u0 cs) (h:RdOk T H (u0 cs) (l++ [some i]) l' c):RdOk T H [i] l l' (i::c):=by
 refine ⟨by rw [h.eq];simp,?_,?_⟩
 ·intro j b;simp at b;subst b;rw [h.eq];simp
 ·intro j b;rcases Z0.1 b with rfl|b
  ·exact ⟨_,d,rfl,fun j b=>h.ids j (e j b)⟩
  ·exact h.ents j b
def Places.last {ρ l m i} (h:Places ρ (l++ [some i]++m)):ρ i=l.length:=h l.length i (by simp)
def ze1 {H ρ i e} (b:H[i]?=some e) (r):ze3 T H ρ (i::r)=e.ren ρ::ze3 T H ρ r:=by
 rw [ze3];split
 ·rename_i d a;rw [b] at a;simp only [X0] at a;subst a;rfl
 ·rename_i c;rw [b] at c;cases c
def qt1 (t x ρ):(zo3 T t x).ren ρ=zo3 T t x:=by
 cases t with
 |user i=>
  show (AV.agg _).ren ρ=_;rw [AV.ren];show AV.agg (zi6 ρ ((T.cells i x).map .cell))=AV.agg ((T.cells i x).map .cell);congr 1;induction T.cells i x with
  |nil=>rfl
  |cons c r a=>rw [U2,zi6,a,AV.ren]
 |int k=>exact AV.ren.eq_1 ..
 |bool=>exact AV.ren.eq_1 ..
 |str=>exact AV.ren.eq_1 ..
 |list e=>exact AV.ren.eq_1 ..
 |nl e=>exact AV.ren.eq_1 ..
def gf5 {t:Ty} {a:AV T.U} {x:den T.U t} (h:jo3 T t a=some x) (hn:a≠.raw (.slice none 0 0)):a=zo3 T t x:=by
 have one: ∀ {t:Ty} {c:Cell T.U} {x:den T.U t},(∀i,t≠.user i)->c.aS t=some x->AV.cell c=zo3 T t x:=by
  intro t c x hn h;have:=Cell.as_eq h;subst this;cases t<;>first|rfl|exact absurd rfl (hn _)
 cases t with
 |user i=>
  cases a<;>simp only [jo3,reduceCtorEq] at h;rename_i cs;split at h
  ·rename_i l hl;have:=T.packed _ _ _ h;rw [zs9 hl,<-this];rfl
  ·cases h
 |list e=>
  cases a with
  |cell c=>exact one (by intro i hi;cases hi) h
  |raw u=>
   cases u with
   |slice ad n c=>
    cases ad with
    |some _=>cases h
    |none=>
     cases n with
     |succ _=>cases h
     |zero=>
      cases c with
      |succ _=>cases h
      |zero=>exact absurd rfl hn
   |_=>cases h
  |_=>cases h
 |nl e=>
  cases a with
  |cell c=>exact one (by intro i hi;cases hi) h
  |raw u=>
   cases u with
   |slice ad n c=>
    cases ad with
    |some _=>cases h
    |none=>
     cases n with
     |succ _=>cases h
     |zero=>
      cases c with
      |succ _=>cases h
      |zero=>exact absurd rfl hn
   |_=>cases h
  |_=>cases h
 |int k=>cases a<;>first|(cases h;done)|exact one (by intro i hi;cases hi) h
 |bool=>cases a<;>first|(cases h;done)|exact one (by intro i hi;cases hi) h
 |str=>cases a<;>first|(cases h;done)|exact one (by intro i hi;cases hi) h
def Imp (T:Tab) (a b:AV T.U):Prop:=b.ids=a.ids/\(b=a\/(za6 T a=true/\za6 T b=true))/\ ∀(w:World) (S:List Nat) (φ:Nat->RA) (v:Value),VR T w S φ a v->VR T w S φ b v
inductive ImpL (T:Tab):List (AV T.U)->List (AV T.U)->Prop
 |nil:ImpL T [] []
 |cons {a b:AV T.U} {aS bs:List (AV T.U)}:Imp T a b->ImpL T aS bs->ImpL T (a::aS) (b::bs)
inductive ImpE (T:Tab):Ent T.U->Ent T.U->Prop
 |same (e:Ent T.U):ImpE T e e
 |blk {e:TypeId} {aS bs:List (AV T.U)}:ImpL T aS bs->ImpE T (.blk e aS) (.blk e bs)
 |map {k:IntKind} {keys:List Int} {aS bs:List (AV T.U)}:ImpL T aS bs->ImpE T (.map k (yg8 keys aS)) (.map k (yg8 keys bs))
inductive ImpH (T:Tab):List (Ent T.U)->List (Ent T.U)->Prop
 |nil:ImpH T [] []
 |cons {e f:Ent T.U} {es fs:List (Ent T.U)}:ImpE T e f->ImpH T es fs->ImpH T (e::es) (f::fs)
def Imp.refl (a):Imp T a a:=⟨rfl,.inl rfl,fun _ _ _ _ h=>h⟩
def Imp.of_eq {a b} (h:a=b):Imp T a b:=h▸.refl a
def ImpL.vrl {aS bs:List (AV T.U)} (h:ImpL T aS bs): ∀ {w:World} {S:List Nat} {φ:Nat->RA} {vs:List Value},VRL T w S φ aS vs->VRL T w S φ bs vs:=by
 induction h with
 |nil=>exact fun h=>h
 |cons h1 _ ih=>
  intro w S φ vs hv
  match vs,hv with
  |v::vs,hv=>exact ⟨h1.2.2 _ _ _ _ hv.1,ih hv.2⟩
def ImpL.ids {aS bs:List (AV T.U)} (h:ImpL T aS bs):u0 bs=u0 aS:=by
 induction h with
 |nil=>rfl
 |cons h1 _ ih=>rw [u0,u0,ih,h1.1]
def ImpL.agg {aS bs:List (AV T.U)} (h:ImpL T aS bs):Imp T (.agg aS) (.agg bs):=⟨by rw [AV.ids,AV.ids,h.ids],.inr ⟨rfl,rfl⟩,fun w S φ v hv=>by obtain ⟨vs,h1,h2⟩:=hv;exact ⟨vs,h1,h.vrl h2⟩⟩
def ImpL.fn {f:Fn} {aS bs aS' bs':List (AV T.U)} (h:ImpL T aS bs) (h':ImpL T aS' bs'):Imp T (.fn f aS aS') (.fn f bs bs'):=⟨by rw [AV.ids,AV.ids,h.ids,h'.ids],.inr ⟨rfl,rfl⟩,fun w S φ v hv=>by obtain ⟨va,vb,h1,h2,h3⟩:=hv;exact ⟨va,vb,h1,h.vrl h2,h'.vrl h3⟩⟩
def Imp.ifc {t a b} (h:Imp T a b):Imp T (.ifc t a) (.ifc t b):=⟨by rw [AV.ids,AV.ids,h.1],.inr ⟨rfl,rfl⟩,fun w S φ v c=>by obtain ⟨u,d,e⟩:=c;exact ⟨u,d,h.2.2 _ _ _ _ e⟩⟩
def ImpL.app {aS bs aS' bs':List (AV T.U)} (h:ImpL T aS bs) (h':ImpL T aS' bs'):ImpL T (aS++aS') (bs++bs'):=by
 induction h with
 |nil=>exact h'
 |cons h1 _ ih=>exact .cons h1 ih
def Imp.exp {a b} (h:Imp T a b):ImpL T (jf3 T a) (jf3 T b)/\(jq8 T a->jq8 T b):=by
 rcases h.2.1 with rfl|⟨d,c⟩
 ·refine ⟨?_,id⟩;generalize jf3 T b=l;induction l with
  |nil=>exact .nil
  |cons a r e=>exact .cons (.refl a) e
 ·rw [zq7 T d,zq7 T c];exact ⟨.cons h .nil,fun _=>yc1 T c⟩
def ImpL.exp {aS bs:List (AV T.U)} (h:ImpL T aS bs):ImpL T (zh3 T aS) (zh3 T bs)/\(zz6 T aS->zz6 T bs):=by
 induction h with
 |nil=>exact ⟨.nil,id⟩
 |cons h1 _ ih=>exact ⟨h1.exp.1.app ih.1,fun hl=>⟨h1.exp.2 hl.1,ih.2 hl.2⟩⟩
def ImpL.br {aS bs:List (AV T.U)} (h:ImpL T aS bs) {w:World} {S:List Nat} {φ:Nat->RA} {vs:List Value} (hb:BR T w S φ aS vs):BR T w S φ bs vs:=⟨h.exp.1.vrl hb.1,h.exp.2 hb.2⟩
def ImpL.mr {k:IntKind} {aS bs:List (AV T.U)} (h:ImpL T aS bs): ∀ {keys:List Int} {w:World} {S:List Nat} {φ:Nat->RA} {l:List MapEntry},MR T w S φ k (yg8 keys aS) l->MR T w S φ k (yg8 keys bs) l:=by
 induction h with
 |nil=>exact fun h=>h
 |cons h1 _ ih=>
  intro keys w S φ l hm
  match keys,l,hm with
  | [],_,hm=>exact hm
  |_::_,[],hm=>exact hm
  |x::r,e::l,hm=>exact ⟨hm.1,h1.2.2 _ _ _ _ hm.2.1,ih hm.2.2⟩
def ImpL.idsM {aS bs:List (AV T.U)} (h:ImpL T aS bs): ∀(keys:List Int),idsM (yg8 keys bs)=idsM (yg8 keys aS):=by
 induction h with
 |nil=>exact fun _=>rfl
 |cons h1 _ ih=>
  intro keys;cases keys with
  |nil=>rfl
  |cons x r=>rw [yg8,yg8,Go.X.idsM,Go.X.idsM,h1.1,ih r]
def jn1 {U:Nat->Type}: ∀(keys:List Int) (aS:List (AV U)),∀i∈idsM (yg8 keys aS),i∈u0 aS
 | [],_,i,hi=>by cases hi
 |_::_,[],i,hi=>by cases hi
 |x::r,a::s,i,hi=>by
  rcases X4.1 (show i∈a.ids++idsM (yg8 r s) from hi) with hi|hi
  ·exact X4.2 (.inl hi)
  ·exact X4.2 (.inr (jn1 r s i hi))
def yl1 {U:Nat->Type} (ρ:Nat->Nat): ∀(keys:List Int) (aS:List (AV U)),qa9 ρ (yg8 keys aS)=yg8 keys (zi6 ρ aS)
 | [],_=>rfl
 |_::_,[]=>rfl
 |x::r,a::s=>congrArg ((x,a.ren ρ):: ·) (yl1 ρ r s)
def ImpH.app {aS bs aS' bs':List (Ent T.U)} (h:ImpH T aS bs) (h':ImpH T aS' bs'):ImpH T (aS++aS') (bs++bs'):=by
 induction h with
 |nil=>exact h'
 |cons h1 _ ih=>exact .cons h1 ih
def ImpH.get {es b:List (Ent T.U)} (h:ImpH T es b): ∀ {i:Nat} {f:Ent T.U},b[i]?=some f-> ∃e,es[i]?=some e/\ImpE T e f:=by
 induction h with
 |nil=>intro i f h;simp at h
 |cons c _ d=>
  intro i f a;cases i with
  |zero=>simp at a;subst a;exact ⟨_,rfl,c⟩
  |succ i=>exact d (by simpa using a)
def ImpH.len {es a} (h:ImpH T es a):a.length=es.length:=by
 induction h with
 |nil=>rfl
 |cons _ _ b=>simp [b]
def ImpE.live {e f} (h:ImpE T e f):f.live=e.live:=by cases h<;>rfl
def ImpE.cellIds {e f} (h:ImpE T e f):f.cellIds=e.cellIds:=by
 cases h with
 |same e=>rfl
 |blk h=>exact h.ids
 |map h=>exact h.idsM _
def ImpE.entR {e f} (h:ImpE T e f) {w S φ i} (a:EntR T w S φ i e):EntR T w S φ i f:=by
 cases h with
 |same e=>exact a
 |blk h=>obtain ⟨g,c,b,d,j,k⟩:=a;exact ⟨g,c,b,d,j,h.br k⟩
 |map h=>obtain ⟨g,l,c,b,d,j,k,m⟩:=a;exact ⟨g,l,c,b,d,j,h.mr k,m⟩
def Sim.imp {w0:World} {S0:Ow} {F:AF T} {H H1:List (Ent T.U)} {z:PF} {w:World} {S:List Nat} {φ:Nat->RA} (h:Sim T w0 S0 ⟨F,H⟩ z w S φ) (d:ImpH T H H1):Sim T w0 S0 ⟨F,H1⟩ z w S φ:=by
 refine ⟨h.fr,?_,h.chg,h.own,h.ex,?_,fun k r A=>⟨(h.pins k r A).1,by have:=(h.pins k r A).2;simp only [d.len] at this⊢;exact this⟩,?_,?_,?_⟩
 ·intro i a n;obtain ⟨B,C⟩:=h.ids i a n;refine ⟨fun j o=>by have:=B j o;simp only [d.len] at this⊢;exact this,?_⟩;cases a with
  |eptr j sz k c=>
   intro e t xs D;obtain ⟨e0,g,l⟩:=d.get D;cases l with
   |same=>exact C e t xs g
  |_=>trivial
 ·intro i f m p a n;obtain ⟨e0,g,l⟩:=d.get m;exact h.lives i e0 g (by rw [<-l.live];exact p) a n
 ·intro i f m;obtain ⟨e0,g,l⟩:=d.get m;exact l.entR (h.ents i e0 g)
 ·intro i f m j o;obtain ⟨e0,g,l⟩:=d.get m;rw [l.cellIds] at o;have:=h.eids i e0 g j o;simp only [d.len] at this⊢;exact this
 ·intro i j f G m q p s u a b n E;obtain ⟨e0,g,l⟩:=d.get m;obtain ⟨v,x,y⟩:=d.get q;exact h.apart i j e0 v g x (by rw [<-l.live];exact p) (by rw [<-y.live];exact s) u a b n E
def qm2 {t a x} (h:jo3 T t a=some x) (ρ):Imp T (a.ren ρ) (zo3 T t x)/\a.ids= []:=by
 by_cases c:a=.raw (.slice none 0 0)
 ·subst c;cases t<;>try (cases h;done)
  ·rename_i e;have h:([]:List (den T.U e))=x:=X5 h;subst h;refine ⟨⟨rfl,.inr ⟨rfl,rfl⟩,fun w S φ v b=>?_⟩,rfl⟩;rw [AV.ren,VR] at b;subst b;exact CR.nilS
  ·rename_i e;have h:([]:List (den T.U e))=x:=X5 h;subst h;refine ⟨⟨rfl,.inr ⟨rfl,rfl⟩,fun w S φ v b=>?_⟩,rfl⟩;rw [AV.ren,VR] at b;subst b;exact .nl e [] none 0 CR.nilS fun _=>⟨rfl,rfl⟩
 ·have:=gf5 h c;subst this;rw [qt1];exact ⟨.refl _,yk9 t x⟩
def jz7 {U:Nat->Type} {a:AV U} {i:Nat} (h:gf8 a=some i):a=.own i:=by cases a<;>simp_all [gf8]
def ve3 {U:Nat->Type} {a:AV U} {i sz o n:Nat} (h:slI a=some (i,sz,o,n)):a=.sl i sz o n:=by cases a<;>simp_all [slI]
def vh4 {U:Nat->Type} {a:AV U} {i o:Nat} (h:go5 a=some (i,o)):a=.ptr i o:=by cases a<;>simp_all [go5]
def wb8 {U:Nat->Type} {a:AV U} {f:FuncId} {aS bs:List (AV U)} (h:fnI a=some (f,aS,bs)):a=.fn (.func f) aS bs:=by
 cases a<;>try (cases h;done)
 rename_i f' _ _;cases f'<;>try (cases h;done)
 simp only [fnI,X0,X7] at h;obtain ⟨rfl,rfl,rfl⟩:=h;rfl
def kz7 {U:Nat->Type} {a:AV U} {aS:List (AV U)} (h:wo8 a=some aS):a=.agg aS:=by cases a<;>simp_all [wo8]
def gd6 {U:Nat->Type} {a b:AV U} {t:TypeId} (h:wp2 a=some (t,b)):a=.ifc t b:=by cases a<;>simp_all [wp2]
def kg8 {U:Nat->Type} {a:AV U} (h:kx6 a=true):a=.raw (.slice none 0 0):=by
 unfold kx6 at h;split at h
 ·rfl
 ·cases h
def ge3 {U:Nat->Type} {k:IntKind} {x:Int} {a:AV U} (h:wp4 k x a=true):a=.cell ⟨.int k,x⟩:=by
 unfold wp4 at h;split at h
 ·rename_i c y;rw [X3] at h;have:=za8 h.1;subst this;have b:(show Int from y)=x:=eq_of_beq h.2;subst b;rfl
 ·cases h
def kg7 {U:Nat->Type} {a:AV U} (h:kx5 a=true):a=.raw (.pointer none):=by
 unfold kx5 at h;split at h
 ·rfl
 ·cases h
def kd4 {U:Nat->Type} {t:Ty} {n:Nat} {a:AV U} {xs:List (den U t)} (h:kw7 t n a=some xs):a=.arr t n xs:=by
 unfold kw7 at h;split at h
 ·split at h
  ·rename_i b;have:=X1 b;subst this;split at h
   ·rename_i c;subst c;simp only [X0] at h;subst h;rfl
   ·cases h
  ·cases h
 ·cases h
def kr5 {U:Nat->Type} {e:Ty} {o k:Nat} {a:AV U} {xs:List (den U e)} (h:lpI e o a=some (xs,k)):a=.lptr e xs k o:=by
 unfold lpI at h;split at h
 ·split at h
  ·rename_i b;have:=X1 b;subst this;split at h
   ·rename_i c;subst c;simp only [X0,X7] at h;obtain ⟨rfl,rfl⟩:=h;rfl
   ·cases h
  ·cases h
 ·cases h
def jy4 {U:Nat->Type} {a:AV U} {i o sz n b m:Nat} (h:ga6 a=some (i,o,sz,n,b,m)):a=.asl i o sz n b m:=by cases a<;>simp_all [ga6]
def kd2 {U:Nat->Type} {a:AV U} {i o sz n k c:Nat} (h:kw4 a=some (i,o,sz,n,k,c)):a=.aptr i o sz n k c:=by cases a<;>simp_all [kw4]
def vg1 {U:Nat->Type} {a:AV U} {i:Nat} (h:gm4 a=some i):a=.hmp i:=by cases a<;>simp_all [gm4]
def jf6 {H i} (h:vx1 T H i=true):H[i]?=some .hid:=by
 unfold vx1 at h;split at h
 ·assumption
 ·cases h
def qe1 {U:Nat->Type} {a:AV U} {i:Nat} (h:mpI a=some i):a=.mp i:=by cases a<;>simp_all [mpI]
def gj1 {U:Nat->Type} {a:AV U} {n:Nat} (h:wq1 n a=true):a=.raw (um3 n):=by
 unfold wq1 at h;split at h<;>first|(have:=X1 h;subst this;rfl)|cases h
mutual
def qs0 {H:List (Ent T.U)}: ∀(s:Sh) (a:AV T.U) (l l':Src) (x:s.den T),rdS T H s a l=some (x,l')->
  ∃new,RdOk T H a.ids l l' new/\new.length=s.cnt/\ ∀ρ,Places ρ l'->Imp T (a.ren ρ) (mkA T id s x l.length)/\ImpH T (ze3 T H ρ new) (mkE T id s x l.length)
 | .val t,a,l,l',x,h=>by
  unfold rdS at h;split at h
  ·rename_i y hy;simp only [X0,X7] at h;obtain ⟨rfl,rfl⟩:=h;refine ⟨[],.nil (by rw [(qm2 hy id).2];intro j hj;cases hj),rfl,fun ρ hρ=>⟨?_,.nil⟩⟩;exact (qm2 hy ρ).1
  ·cases h
 | .row e t,a,l,l',x,h=>by
  unfold rdS at h;split at h<;>try (cases h;done)
  rename_i i ha;have:=jz7 ha;subst this;split at h
  ·rename_i xs hx;simp only [X0,X7] at h;obtain ⟨rfl,rfl⟩:=h;have hx:=yg3 hx;refine ⟨[i],.one hx rfl rfl,rfl,fun ρ hρ=>⟨.of_eq ?_,?_⟩⟩
   ·show AV.own (ρ i)=AV.own l.length;rw [show ρ i=l.length from hρ l.length i (by simp)]
   ·rw [ze1 hx];exact .cons (.same _) .nil
  ·cases h
 | .slr e t,a,l,l',x,h=>by
  unfold rdS at h;split at h<;>try (cases h;done)
  rename_i i sz o n ha;have:=ve3 ha;subst this;split at h<;>try (cases h;done)
  rename_i xs hx;split at h<;>try (cases h;done)
  rename_i hsz;simp only [X0,X7] at h;obtain ⟨rfl,rfl⟩:=h;have:=X1 hsz;subst this;have hx:=yg3 hx;refine ⟨[i],.one hx rfl rfl,rfl,fun ρ hρ=>⟨.of_eq ?_,?_⟩⟩
  ·show AV.sl (ρ i) _ o n=AV.sl l.length _ o n;rw [show ρ i=l.length from hρ l.length i (by simp)]
  ·rw [ze1 hx];exact .cons (.same _) .nil
 | .ptr o e cs,a,l,l',x,h=>by
  unfold rdS at h;split at h<;>try (cases h;done)
  rename_i i o' ha;have:=vh4 ha;subst this;split at h<;>try (cases h;done)
  rename_i aS hb;split at h<;>try (cases h;done)
  rename_i ho;have:=X1 ho;subst this;have hb:=zx1 hb;obtain ⟨new,g1,g2,g3⟩:=zd8 cs aS _ _ x h;refine ⟨i::new,.blk hb g1,by rw [U5,g2,Sh.cnt];omega,fun ρ hρ=>?_⟩;obtain ⟨q1,q2⟩:=g3 ρ hρ;rw [show (l++ [some i]).length=l.length+1 by simp] at q1 q2;refine ⟨.of_eq ?_,?_⟩
  ·rw [g1.eq] at hρ;show AV.ptr (ρ i) o'=AV.ptr l.length o';rw [hρ.last]
  ·rw [ze1 hb];exact .cons (.blk q1) q2
 | .slb sz n e cs,a,l,l',x,h=>by
  unfold rdS at h;split at h<;>try (cases h;done)
  rename_i i sz' o n' ha;have:=ve3 ha;subst this;split at h<;>try (cases h;done)
  rename_i aS hb;split at h<;>try (cases h;done)
  rename_i ho;simp only [X3] at ho;have:=X1 ho.1;subst this;have:=X1 ho.2.1;subst this;have:=X1 ho.2.2;subst this;have hb:=zx1 hb;obtain ⟨new,g1,g2,g3⟩:=zd8 cs aS _ _ x h;refine ⟨i::new,.blk hb g1,by rw [U5,g2,Sh.cnt];omega,fun ρ hρ=>?_⟩;obtain ⟨q1,q2⟩:=g3 ρ hρ;rw [show (l++ [some i]).length=l.length+1 by simp] at q1 q2;refine ⟨.of_eq ?_,?_⟩
  ·rw [g1.eq] at hρ;show AV.sl (ρ i) sz' 0 n'=AV.sl l.length sz' 0 n';rw [hρ.last]
  ·rw [ze1 hb];exact .cons (.blk q1) q2
 | .at_ p o,a,l,l',x,h=>by
  unfold rdS at h;split at h<;>try (cases h;done)
  rename_i i o' ha;have:=vh4 ha;subst this;split at h
  ·rename_i hb;simp only [X0,X7] at h;obtain ⟨_,rfl⟩:=h;simp only [X3] at hb;have:=X1 hb.1;subst this;have hs:=zk8 hb.2;refine ⟨[],.nil (by intro j hj;simp [AV.ids] at hj;subst hj;exact X6 hs),rfl,fun ρ hρ=>⟨.of_eq ?_,.nil⟩⟩;show AV.ptr (ρ i) o'=AV.ptr p o';rw [hρ p i hs]
  ·cases h
 | .own p,a,l,l',x,h=>by
  unfold rdS at h;split at h<;>try (cases h;done)
  rename_i i ha;have:=jz7 ha;subst this;split at h
  ·rename_i hb;simp only [X0,X7] at h;obtain ⟨_,rfl⟩:=h;have hs:=zk8 hb;refine ⟨[],.nil (by intro j hj;simp [AV.ids] at hj;subst hj;exact X6 hs),rfl,fun ρ hρ=>⟨.of_eq ?_,.nil⟩⟩;show AV.own (ρ i)=AV.own p;rw [hρ p i hs]
  ·cases h
 | .part p sz,a,l,l',x,h=>by
  unfold rdS at h;split at h<;>try (cases h;done)
  rename_i i sz' o n ha;have:=ve3 ha;subst this;split at h
  ·rename_i hb;simp only [X0,X7] at h;obtain ⟨rfl,rfl⟩:=h;simp only [X3] at hb;have:=X1 hb.1;subst this;have hs:=zk8 hb.2;refine ⟨[],.nil (by intro j hj;simp [AV.ids] at hj;subst hj;exact X6 hs),rfl,fun ρ hρ=>⟨.of_eq ?_,.nil⟩⟩;show AV.sl (ρ i) sz' o n=AV.sl p sz' o n;rw [hρ p i hs]
  ·cases h
 | .fn f a b,c,l,l',x,h=>by
  unfold rdS at h;split at h<;>try (cases h;done)
  rename_i f' aS bs ha;have:=wb8 ha;subst this;split at h<;>try (cases h;done)
  rename_i y l1 hy;split at h<;>try (cases h;done)
  rename_i hf;have:=X1 hf;subst this;obtain ⟨z,hz,rfl⟩:=yg0 h;obtain ⟨n1,g1,g2,g3⟩:=zd8 a aS _ _ y hy;obtain ⟨n2,k1,k2,k3⟩:=zd8 b bs _ _ z hz;refine ⟨n1++n2,by rw [AV.ids];exact g1.app k1,by rw [X9,g2,k2,Sh.cnt],fun ρ hρ=>?_⟩;obtain ⟨q1,q2⟩:=g3 ρ (by rw [k1.eq] at hρ;exact hρ.pre);obtain ⟨q3,q4⟩:=k3 ρ hρ;have hlen:l1.length=l.length+zb1 a:=by rw [g1.eq,X9,W9,g2]
  rw [hlen] at q3 q4;refine ⟨?_,?_⟩
  ·show Imp T (.fn (.func f') (zi6 ρ aS) (zi6 ρ bs)) (.fn (.func f') (zc6 T id a y l.length) (zc6 T id b z (l.length+zb1 a)));exact q1.fn q3
  ·rw [zr7];exact q2.app q4
 | .agg cs,a,l,l',x,h=>by
  unfold rdS at h;split at h<;>try (cases h;done)
  rename_i aS ha;have:=kz7 ha;subst this;obtain ⟨new,g1,g2,g3⟩:=zd8 cs aS _ _ x h;refine ⟨new,by rw [AV.ids];exact g1,by rw [g2,Sh.cnt],fun ρ hρ=>?_⟩;obtain ⟨q1,q2⟩:=g3 ρ hρ;exact ⟨(show Imp T (.agg (zi6 ρ aS)) (.agg (zc6 T id cs x l.length)) from q1.agg),q2⟩
 | .ifc t s,a,l,l',x,h=>by
  unfold rdS at h;split at h<;>try (cases h;done)
  rename_i t' a ha;have:=gd6 ha;subst this;split at h
  ·rename_i ht;have:=X1 ht;subst this;obtain ⟨new,g1,g2,g3⟩:=qs0 s a _ _ x h;refine ⟨new,by rw [AV.ids];exact g1,by rw [g2,Sh.cnt],fun ρ hρ=>?_⟩;obtain ⟨q1,q2⟩:=g3 ρ hρ;exact ⟨(show Imp T (.ifc t' (a.ren ρ)) (.ifc t' (mkA T id s x l.length)) from q1.ifc),q2⟩
  ·cases h
 | .nils,a,l,l',x,h=>by
  unfold rdS at h;split at h<;>try (cases h;done)
  rename_i ha;have:=kg8 ha;subst this;simp only [X0,X7] at h;obtain ⟨_,rfl⟩:=h;exact ⟨[],.nil (by intro j hj;cases hj),rfl,fun ρ hρ=>⟨.of_eq rfl,.nil⟩⟩
 | .nilp,a,l,l',x,h=>by
  unfold rdS at h;split at h<;>try (cases h;done)
  rename_i ha;have:=kg7 ha;subst this;simp only [X0,X7] at h;obtain ⟨_,rfl⟩:=h;exact ⟨[],.nil (by intro j hj;cases hj),rfl,fun ρ hρ=>⟨.of_eq rfl,.nil⟩⟩
 | .lit k y,a,l,l',x,h=>by
  unfold rdS at h;split at h<;>try (cases h;done)
  rename_i ha;have:=ge3 ha;subst this;simp only [X0,X7] at h;obtain ⟨_,rfl⟩:=h;exact ⟨[],.nil (by intro j hj;cases hj),rfl,fun ρ hρ=>⟨.of_eq (by rw [AV.ren];rfl),.nil⟩⟩
 | .arr t n,a,l,l',x,h=>by
  unfold rdS at h;split at h
  ·rename_i xs hx;simp only [X0,X7] at h;obtain ⟨rfl,rfl⟩:=h;have:=kd4 hx;subst this;exact ⟨[],.nil (by intro j hj;cases hj),rfl,fun ρ hρ=>⟨.of_eq rfl,.nil⟩⟩
  ·cases h
 | .lp e o,a,l,l',x,h=>by
  unfold rdS at h;split at h
  ·rename_i y hx;obtain ⟨xs,k⟩:=y;simp only [X0,X7] at h;obtain ⟨rfl,rfl⟩:=h;have:=kr5 hx;subst this;exact ⟨[],.nil (by intro j hj;cases hj),rfl,fun ρ hρ=>⟨.of_eq rfl,.nil⟩⟩
  ·cases h
 | .lpk e k o,a,l,l',x,h=>by
  unfold rdS at h;split at h<;>try (cases h;done)
  rename_i y hx;split at h<;>try (cases h;done)
  rename_i hk;obtain ⟨xs,k'⟩:=y;have:=X1 hk;subst this;simp only [X0,X7] at h;obtain ⟨rfl,rfl⟩:=h;have:=kr5 hx;subst this;exact ⟨[],.nil (by intro j hj;cases hj),rfl,fun ρ hρ=>⟨.of_eq rfl,.nil⟩⟩
 | .asp p o sz n,a,l,l',x,h=>by
  unfold rdS at h;split at h<;>try (cases h;done)
  rename_i i o' sz' n' lo m ha;have:=jy4 ha;subst this;split at h
  ·rename_i hb;simp only [X0,X7] at h;obtain ⟨rfl,rfl⟩:=h;simp only [X3] at hb;have hs:=zk8 hb.1;have:=X1 hb.2.1;subst this;have:=X1 hb.2.2.1;subst this;have:=X1 hb.2.2.2;subst this;refine ⟨[],.nil (by intro j hj;simp [AV.ids] at hj;subst hj;exact X6 hs),rfl,fun ρ hρ=>⟨.of_eq ?_,.nil⟩⟩;show AV.asl (ρ i) _ _ _ _ _=AV.asl p _ _ _ _ _;rw [hρ p i hs]
  ·cases h
 | .asn e cs o sz n,a,l,l',x,h=>by
  unfold rdS at h;split at h<;>try (cases h;done)
  rename_i i o' sz' n' lo m ha;have:=jy4 ha;subst this;split at h<;>try (cases h;done)
  rename_i aS hb;split at h<;>try (cases h;done)
  rename_i ho;simp only [X3] at ho;have:=X1 ho.1;subst this;have:=X1 ho.2.1;subst this;have:=X1 ho.2.2;subst this;have hb:=zx1 hb;obtain ⟨y,hy,rfl⟩:=yg0 h;obtain ⟨new,g1,g2,g3⟩:=zd8 cs aS _ _ y hy;refine ⟨i::new,.blk hb g1,by rw [U5,g2,Sh.cnt];omega,fun ρ hρ=>?_⟩;obtain ⟨q1,q2⟩:=g3 ρ hρ;rw [show (l++ [some i]).length=l.length+1 by simp] at q1 q2;refine ⟨.of_eq ?_,?_⟩
  ·rw [g1.eq] at hρ;show AV.asl (ρ i) _ _ _ lo m=AV.asl l.length _ _ _ lo m;rw [hρ.last]
  ·rw [ze1 hb];exact .cons (.blk q1) q2
 | .asq e cs o sz n lo m,a,l,l',x,h=>by
  unfold rdS at h;split at h<;>try (cases h;done)
  rename_i i o' sz' n' lo' m' ha;have:=jy4 ha;subst this;split at h<;>try (cases h;done)
  rename_i aS hb;split at h<;>try (cases h;done)
  rename_i ho;simp only [X3] at ho;have:=X1 ho.1;subst this;have:=X1 ho.2.1;subst this;have:=X1 ho.2.2.1;subst this;have:=X1 ho.2.2.2.1;subst this;have:=X1 ho.2.2.2.2;subst this;have hb:=zx1 hb;obtain ⟨new,g1,g2,g3⟩:=zd8 cs aS _ _ x h;refine ⟨i::new,.blk hb g1,by rw [U5,g2,Sh.cnt];omega,fun ρ hρ=>?_⟩;obtain ⟨q1,q2⟩:=g3 ρ hρ;rw [show (l++ [some i]).length=l.length+1 by simp] at q1 q2;refine ⟨.of_eq ?_,?_⟩
  ·rw [g1.eq] at hρ;show AV.asl (ρ i) _ _ _ _ _=AV.asl l.length _ _ _ _ _;rw [hρ.last]
  ·rw [ze1 hb];exact .cons (.blk q1) q2
 | .ap p o sz n c,a,l,l',x,h=>by
  unfold rdS at h;split at h<;>try (cases h;done)
  rename_i i o' sz' n' k c' ha;have:=kd2 ha;subst this;split at h
  ·rename_i hb;simp only [X0,X7] at h;obtain ⟨rfl,rfl⟩:=h;simp only [X3] at hb;have hs:=zk8 hb.1;have:=X1 hb.2.1;subst this;have:=X1 hb.2.2.1;subst this;have:=X1 hb.2.2.2.1;subst this;have:=X1 hb.2.2.2.2;subst this;refine ⟨[],.nil (by intro j hj;simp [AV.ids] at hj;subst hj;exact X6 hs),rfl,fun ρ hρ=>⟨.of_eq ?_,.nil⟩⟩;show AV.aptr (ρ i) _ _ _ _ _=AV.aptr p _ _ _ _ _;rw [hρ p i hs]
  ·cases h
 | .mp kd keys cs,a,l,l',x,h=>by
  unfold rdS at h;split at h<;>try (cases h;done)
  rename_i i ha;have:=qe1 ha;subst this;split at h<;>try (cases h;done)
  rename_i aS hb;have hb:=jg3 hb;obtain ⟨new,g1,g2,g3⟩:=zd8 cs aS _ _ x h;refine ⟨i::new,.map hb (jn1 keys aS) g1,by rw [U5,g2,Sh.cnt];omega,fun ρ hρ=>?_⟩;obtain ⟨q1,q2⟩:=g3 ρ hρ;rw [show (l++ [some i]).length=l.length+1 by simp] at q1 q2;refine ⟨.of_eq ?_,?_⟩
  ·rw [g1.eq] at hρ;show AV.mp (ρ i)=AV.mp l.length;rw [hρ.last]
  ·rw [ze1 hb];refine .cons ?_ q2;show ImpE T (.map kd (qa9 ρ (yg8 keys aS))) _;rw [yl1];exact .map q1
 | .mpo p,a,l,l',x,h=>by
  unfold rdS at h;split at h<;>try (cases h;done)
  rename_i i ha;have:=qe1 ha;subst this;split at h
  ·rename_i hb;simp only [X0,X7] at h;obtain ⟨_,rfl⟩:=h;have hs:=zk8 hb;refine ⟨[],.nil (by intro j hj;simp [AV.ids] at hj;subst hj;exact X6 hs),rfl,fun ρ hρ=>⟨.of_eq ?_,.nil⟩⟩;show AV.mp (ρ i)=AV.mp p;rw [hρ p i hs]
  ·cases h
 | .rw n,a,l,l',x,h=>by
  unfold rdS at h;split at h<;>try (cases h;done)
  rename_i ha;have:=gj1 ha;subst this;simp only [X0,X7] at h;obtain ⟨_,rfl⟩:=h;exact ⟨[],.nil (by intro j hj;cases hj),rfl,fun ρ hρ=>⟨.of_eq (by rw [AV.ren];rfl),.nil⟩⟩
 | .tm kd t,a,l,l',x,h=>by
  unfold rdS at h;split at h<;>try (cases h;done)
  rename_i i ha;have:=qe1 ha;subst this;split at h
  ·rename_i xs hx;simp only [X0,X7] at h;obtain ⟨rfl,rfl⟩:=h;have hx:=jx3 hx;refine ⟨[i],.one hx rfl rfl,rfl,fun ρ hρ=>⟨.of_eq ?_,?_⟩⟩
   ·show AV.mp (ρ i)=AV.mp l.length;rw [show ρ i=l.length from hρ l.length i (by simp)]
   ·rw [ze1 hx];exact .cons (.same _) .nil
  ·cases h
 | .dr e d fe,a,l,l',x,h=>by
  unfold rdS at h;split at h<;>try (cases h;done)
  rename_i i ha;have:=jz7 ha;subst this;split at h
  ·rename_i xs hx;simp only [X0,X7] at h;obtain ⟨rfl,rfl⟩:=h;have hx:=js6 hx;refine ⟨[i],.one hx rfl rfl,rfl,fun ρ hρ=>⟨.of_eq ?_,?_⟩⟩
   ·show AV.own (ρ i)=AV.own l.length;rw [show ρ i=l.length from hρ l.length i (by simp)]
   ·rw [ze1 hx];exact .cons (.same _) .nil
  ·cases h
 | .pm k be d,a,l,l',x,h=>by
  unfold rdS at h;split at h<;>try (cases h;done)
  rename_i i ha;have:=qe1 ha;subst this;split at h
  ·rename_i xs hx;simp only [X0,X7] at h;obtain ⟨rfl,rfl⟩:=h;have hx:=ju8 hx;refine ⟨[i],.one hx rfl rfl,rfl,fun ρ hρ=>⟨.of_eq ?_,?_⟩⟩
   ·show AV.mp (ρ i)=AV.mp l.length;rw [show ρ i=l.length from hρ l.length i (by simp)]
   ·rw [ze1 hx];exact .cons (.same _) .nil
  ·cases h
 | .gm,a,l,l',x,h=>by
  unfold rdS at h;split at h<;>try (cases h;done)
  rename_i i ha;have:=vg1 ha;subst this;split at h
  ·rename_i hx;simp only [X0,X7] at h;obtain ⟨rfl,rfl⟩:=h;have hx:=jf6 hx;refine ⟨[i],.one hx rfl rfl,rfl,fun ρ hρ=>⟨.of_eq ?_,?_⟩⟩
   ·show AV.hmp (ρ i)=AV.hmp l.length;rw [show ρ i=l.length from hρ l.length i (by simp)]
   ·rw [ze1 hx];exact .cons (.same _) .nil
  ·cases h
 | .gmo p,a,l,l',x,h=>by
  unfold rdS at h;split at h<;>try (cases h;done)
  rename_i i ha;have:=vg1 ha;subst this;split at h
  ·rename_i hb;simp only [X0,X7] at h;obtain ⟨_,rfl⟩:=h;have hs:=zk8 hb;refine ⟨[],.nil (by intro j hj;simp [AV.ids] at hj;subst hj;exact X6 hs),rfl,fun ρ hρ=>⟨.of_eq ?_,.nil⟩⟩;show AV.hmp (ρ i)=AV.hmp p;rw [hρ p i hs]
  ·cases h
def zd8 {H:List (Ent T.U)}: ∀(ss:List Sh) (aS:List (AV T.U)) (l l':Src) (x:zf1 T ss),yb4 T H ss aS l=some (x,l')->
  ∃new,RdOk T H (u0 aS) l l' new/\new.length=zb1 ss/\ ∀ρ,Places ρ l'->ImpL T (zi6 ρ aS) (zc6 T id ss x l.length)/\ImpH T (ze3 T H ρ new) (zg9 T id ss x l.length)
 | [],aS,l,l',x,h=>by
  cases aS with
  |cons _ _=>unfold yb4 at h;cases h
  |nil=>
   unfold yb4 at h;simp only [X0,X7] at h;obtain ⟨_,rfl⟩:=h;exact ⟨[],.nil (by intro j hj;cases hj),rfl,fun ρ hρ=>⟨.nil,.nil⟩⟩
 |s::r,aS,l,l',x,h=>by
  cases aS with
  |nil=>unfold yb4 at h;cases h
  |cons a aS=>
   unfold yb4 at h;simp only at h;split at h<;>try (cases h;done)
   rename_i y l1 hy;obtain ⟨z,hz,rfl⟩:=yg0 h;obtain ⟨n1,g1,g2,g3⟩:=qs0 s a _ _ y hy;obtain ⟨n2,k1,k2,k3⟩:=zd8 r aS _ _ z hz;refine ⟨n1++n2,by rw [u0];exact g1.app k1,by rw [X9,g2,k2,zb1],fun ρ hρ=>?_⟩;obtain ⟨q1,q2⟩:=g3 ρ (by rw [k1.eq] at hρ;exact hρ.pre);obtain ⟨q3,q4⟩:=k3 ρ hρ;have hlen:l1.length=l.length+s.cnt:=by rw [g1.eq,X9,W9,g2]
   rw [hlen] at q3 q4;exact ⟨(.cons q1 q3),by rw [zr7];exact q2.app q4⟩
end
end
end Go.X
namespace Go.X
open Go.RowKit Go.V
section
variable {T:Tab} {P:Program} {w w':World} {S S':List Nat} {φ φ':Nat->RA} {w0:World} {S0:Ow} {F:AF T} {H:List (Ent T.U)} {F' F'':PF}
def yl8 (H ρ): ∀l:Src,(zh6 T H ρ l).length=l.length
 | []=>rfl
 |some i::r=>by simp [zh6,yl8 H ρ r]
 |none::r=>by simp [zh6,yl8 H ρ r]
def yl7 (H ρ): ∀l m:Src,zh6 T H ρ (l++m)=zh6 T H ρ l++zh6 T H ρ m
 | [],_=>rfl
 |some i::r,m=>by simp [zh6,yl7 H ρ r m]
 |none::r,m=>by simp [zh6,yl7 H ρ r m]
def zw4 (H ρ): ∀l:List Nat,zh6 T H ρ (l.map some)=ze3 T H ρ l
 | []=>rfl
 |i::r=>by
  rw [U2,zh6,zw4 H ρ r];cases hi:H[i]? with
  |none=>simp only [ze3,hi]
  |some e=>simp only [ze3,hi]
def zs5 {H:List (Ent T.U)} {ρ:Nat->Nat} {f:Ent T.U}: ∀ {l:Src} {j:Nat},(zh6 T H ρ l)[j]?=some f->f=.gone\/ ∃i e,l[j]?=some (some i)/\H[i]?=some e/\f=e.ren ρ
 | [],j,h=>by simp [zh6] at h
 |some i::r,0,h=>by
  simp only [zh6,Y4,X0] at h;split at h
  ·rename_i e d;exact .inr ⟨i,e,rfl,d,h.symm⟩
  ·exact .inl h.symm
 |none::r,0,h=>by simp only [zh6,Y4,X0] at h;exact .inl h.symm
 |some i::r,j+1,h=>by
  rcases zs5 (l:=r) (j:=j) (by simpa [zh6] using h) with h|⟨i,e,a,b,c⟩
  ·exact .inl h
  ·exact .inr ⟨i,e,by simpa using a,b,c⟩
 |none::r,j+1,h=>by
  rcases zs5 (l:=r) (j:=j) (by simpa [zh6] using h) with h|⟨i,e,a,b,c⟩
  ·exact .inl h
  ·exact .inr ⟨i,e,by simpa using a,b,c⟩
def φO (l:Src) (φ:Nat->RA) (j:Nat):RA:=match l[j]? with|some (some i)=>φ i|_=>φ j
def φO_at {l j i} (h:l[j]?=some (some i)):φO l φ j=φ i:=by unfold φO;rw [h]
def φO_idx {l i} (h:some i∈l):φO l φ (yq7 i l)=φ i:=φO_at (zl6 h)
def Sim.src (h:Sim T w0 S0 ⟨F,H⟩ F' w S φ) {l} (B:zm3 l=true) (C: ∀k,k<S0.pin.length->l[k]?=some (some k)\/l[k]?=some none)
  (z: ∀i e,some i∈l->H[i]?=some e-> ∀j∈e.cellIds,some j∈l):Sim T w0 S0 ⟨[],zh6 T H (fun i=>yq7 i l) l⟩ [] w S (φO l φ):=by
 refine ⟨fun i a c=>by simp [AF.get] at c,fun i a c=>by simp [AF.get] at c,h.chg,h.own,h.ex,?_,fun k r g=>?_,?_,?_,?_⟩
 ·intro j f o p a c;rcases zs5 o with rfl|⟨i,e,d,n,rfl⟩
  ·cases p
  ·rw [φO_at d] at c;exact h.lives i e n (by rw [Ent.ren_live] at p;exact p) a c
 ·have s:=C k (X2.1 g).1;have u:φO l φ k=φ k:=by
   rcases s with h|h
   ·exact φO_at h
   ·unfold φO;rw [h]
  refine ⟨by rw [u];exact (h.pins k r g).1,?_⟩;simp only [yl8];rcases s with h|h<;>exact (X2.1 h).1
 ·intro j f o;rcases zs5 o with rfl|⟨i,e,d,n,rfl⟩
  ·trivial
  ·exact (h.ents i e n).ren (φO_at d) fun k g=>φO_idx (z i e (X6 d) n k g)
 ·intro j f o k g;rcases zs5 o with rfl|⟨i,e,d,n,rfl⟩
  ·cases g
  ·rw [Ent.ren_cellIds] at g;obtain ⟨m,D,rfl⟩:=U0.1 g;simp only [yl8];exact (X2.1 (zl6 (z i e (X6 d) n m D))).1
 ·intro j k f I o v p q x a b c A;rcases zs5 o with rfl|⟨i,e,d,n,rfl⟩
  ·cases p
  ·rcases zs5 v with rfl|⟨E,G,t,y,rfl⟩
   ·cases q
   ·rw [φO_at d] at c;rw [φO_at t] at A;rw [Ent.ren_live] at p q;exact h.apart i E e G n y p q (fun e=>x (by subst e;exact yf9 B d t)) a b c A
def Sim.unpin {c x p} (h:Sim T w0 ⟨c,x,p⟩ ⟨F,H⟩ F' w S φ):Sim T w0 ⟨c,x,[]⟩ ⟨F,H⟩ F' w S φ:=
 ⟨h.fr,h.ids,h.chg,h.own,h.ex,h.lives,fun k r a=>by simp at a,h.ents,h.eids,h.apart⟩
def Sim.start (h:Sim T w0 S0 ⟨F,H⟩ F' w S φ):Sim T w ⟨zc4 φ H.length,S,(List.range H.length).map φ⟩ ⟨[],H⟩ [] w S φ:=by
 refine ⟨fun i a d=>by simp [AF.get] at d,fun i a d=>by simp [AF.get] at d,Chg.refl _ _,fun b f=>⟨.inl f,(h.own b f).2⟩,fun b f _ _=>f,fun i e j l a d=>⟨(h.lives i e j l a d).1,.inl ?_⟩,fun k r g=>?_,h.ents,h.eids,h.apart⟩
 ·unfold zc4;exact V6.2 ⟨i,V0.2 (X2.1 j).1,zr4.2 ⟨a,d,rfl⟩⟩
 ·have c:=(X2.1 g).1;simp at c;simp [c] at g;exact ⟨.of g,c⟩
def Sim.slots (h:Sim T w0 S0 ⟨[],H⟩ F'' w S φ) {aS:List (AV T.U)} {vs:List Value} (hv:VRL T w S φ aS vs) (ho: ∀a∈aS,okA H a):Sim T w0 S0 ⟨yb5 T aS 0,H⟩ (je2 vs 0) w S φ:=
 ⟨fun i a ha=>yy5 hv ha,fun i a ha=>ho a (yy6 ha),h.chg,h.own,h.ex,h.lives,h.pins,h.ents,h.eids,h.apart⟩
def σJ (ids:List Nat) (n:Nat) (j:Nat):Nat:=match Nat.blt j ids.length with|true=>ids.getD j 0|false=>n+(j-ids.length)
def σJ_lo {ids n j} (h:j<ids.length):ids[j]?=some (σJ ids n j):=by
 unfold σJ;rw [show Nat.blt j ids.length=true by rw [U4];exact h];simp [Y0 h]
def σJ_hi {ids n j} (h:ids.length<=j):σJ ids n j=n+(j-ids.length):=by
 unfold σJ;rw [show Nat.blt j ids.length=false by cases hb:Nat.blt j ids.length;rfl;rw [U4] at hb;omega]
def Sim.join (h:Sim T w0 S0 ⟨F,H⟩ F' w S φ) {ids} (hn:zd5 ids=true) (X: ∀i∈ids,∃e,H[i]?=some e/\e.live=true) {K u} (hφc: ∀k i,ids[k]?=some i->K k=φ i) {F1 S1 L Nw}
  (D:Sim T w ⟨zc4 K ids.length,S,(List.range ids.length).map K⟩ ⟨[],L++Nw⟩ F1 w' S1 u) (hP:L.length=ids.length)
  (hty: ∀(k i:Nat) (e:TypeId) (t:Ty) (ys:List (den T.U t)),ids[k]?=some i->L[k]?=some (.row e t ys)-> ∃xs,H[i]?=some (.row e t xs)):
  ∃B,Sim T w0 S0 ⟨F,zh2 T H ids (L.map (Ent.ren (σJ ids H.length)))++Nw.map (Ent.ren (σJ ids H.length))⟩ F' w' S1 B/\
   ∀a v,VR T w' S1 u a v->(∀i∈a.ids,i<L.length+Nw.length)->VR T w' S1 B (a.ren (σJ ids H.length)) v:=by
 generalize Y:σJ ids H.length=σ
 let B:Nat->RA:=fun i=>if i<H.length then (if i∈ids then u (ids.idxOf i) else φ i) else u (ids.length+(i-H.length))
 have hidl: ∀k i,ids[k]?=some i->i<H.length:=fun k i p=>by
  obtain ⟨e,he,_⟩:=X i (X6 p);exact (X2.1 he).1
 have z: ∀m,B (H.length+m)=u (ids.length+m):=fun m=>by
  show (if H.length+m<H.length then _ else _)=_;rw [if_neg (by omega),N7]
 have hpin: ∀k i,ids[k]?=some i->RSame (u k) (φ i):=by
  intro k i p;have Z:=(X2.1 p).1;rw [<-hφc k i p];exact (D.pins k (K k) (by simp [Z])).1
 have M: ∀k i,ids[k]?=some i->B i=u k:=by
  intro k i p;have O:=X6 p;show (if i<H.length then (if i∈ids then u (ids.idxOf i) else φ i) else _)=_;rw [if_pos (hidl k i p),if_pos O];have h1:ids[ids.idxOf i]?=some i:=by
   have Z:=List.idxOf_lt_length_of_mem O;rw [Y0 Z,List.getElem_idxOf Z]
  rw [yf8 hn h1 p]
 have G: ∀i,i∉ids->i<H.length->B i=φ i:=fun i hi o=>by
  show (if i<H.length then (if i∈ids then u (ids.idxOf i) else φ i) else _)=_;rw [if_pos o,if_neg hi]
 have hold: ∀i,i<H.length->RSame (B i) (φ i):=fun i o=>by
  by_cases hi:i∈ids
  ·obtain ⟨k,p⟩:=Y9.1 hi;rw [M k i p];exact hpin k i p
  ·exact .of (G i hi o)
 have Q: ∀j,B (σ j)=u j:=by
  intro j;by_cases C:j<ids.length
  ·have hs:=σJ_lo (n:=H.length) C;rw [Y] at hs;exact M j _ hs
  ·rw [<-Y,σJ_hi (by omega),z];congr 1;omega
 have hσlt: ∀j,j<L.length+Nw.length->σ j<(zh2 T H ids (L.map (Ent.ren σ))++Nw.map (Ent.ren σ)).length:=by
  intro j C;rw [X9,za5,W9];by_cases Z:j<ids.length
  ·have hs:=σJ_lo (n:=H.length) Z;rw [Y] at hs;have:=hidl j _ hs;omega
  ·rw [<-Y,σJ_hi (by omega)];omega
 have N: ∀b∈zc4 K ids.length,∃(k i:Nat) (a:Addr),ids[k]?=some i/\At (φ i) a/\a.block=b:=by
  intro b s;obtain ⟨k,p,a,l,rfl⟩:=yy7 s;have hg:=Y0 p;exact ⟨k,_,a,hg,by rw [<-hφc k _ hg];exact l,rfl⟩
 have hTS: ∀b∈zc4 K ids.length,b∈S:=by
  intro b s;obtain ⟨k,i,a,p,l,rfl⟩:=N b s;obtain ⟨e,he,o⟩:=X i (X6 p);exact zf5 h he o l
 have hTc: ∀b∈zc4 K ids.length,b∈S0.chg\/w0.heap.size<=b:=by
  intro b s;obtain ⟨k,i,a,p,l,rfl⟩:=N b s;obtain ⟨e,he,o⟩:=X i (X6 p);exact (h.lives i e he o a l).2
 have hS1: ∀b∈S1,b∈S\/w.heap.size<=b:=fun b s=>(D.own b s).1;have hlen:(L.map (Ent.ren σ)).length=ids.length:=by rw [W9,hP]
 have get: ∀(j:Nat) (f:Ent T.U),(zh2 T H ids (L.map (Ent.ren σ))++Nw.map (Ent.ren σ))[j]?=some f->
   (∃(k:Nat) (g:Ent T.U),ids[k]?=some j/\L[k]?=some g/\f=g.ren σ/\j<H.length)\/(j∉ids/\H[j]?=some f/\j<H.length)\/(∃(m:Nat) (g:Ent T.U),j=H.length+m/\(L++Nw)[ids.length+m]?=some g/\f=g.ren σ):=by
  intro j f J;by_cases C:j<H.length
  ·rw [X8 (by rw [za5];exact C)] at J;rcases zg2 ids _ H hlen J with ⟨k,A,d⟩|⟨A,d⟩
   ·rw [W2] at d;cases hp:L[k]? with
    |none=>rw [hp] at d;cases d
    |some g=>rw [hp] at d;simp only [Z8,X0] at d;exact .inl ⟨k,g,A,hp,d.symm,C⟩
   ·exact .inr (.inl ⟨A,d,C⟩)
  ·rw [Z2 (by rw [za5];omega),za5,W2] at J;cases hp:Nw[j-H.length]? with
   |none=>rw [hp] at J;cases J
   |some g=>
    rw [hp] at J;simp only [Z8,X0] at J;refine .inr (.inr ⟨j-H.length,g,by omega,?_,J.symm⟩);rw [Z2 (by omega),hP,N7];exact hp
 have E: ∀ {k:Nat} {g:Ent T.U},L[k]?=some g->(L++Nw)[k]?=some g:=fun p=>by
  rw [X8 (X2.1 p).1];exact p
 refine ⟨B,⟨?_,?_,h.chg.step D.chg hTc,fun b s=>⟨?_,(D.own b s).2⟩,fun b s q1 q2=>D.ex b (h.ex b s q1 q2) (fun O=>(hTc b O).elim q1 fun O=>by omega) (h.own b (h.ex b s q1 q2)).2,?_,fun k r p=>?_,?_,?_,?_⟩,fun a v hv hi=>hv.ren T fun i _=>Q i⟩
 ·intro i a l;obtain ⟨v,h1,h2⟩:=h.fr i a l;exact ⟨v,h1,(h2.chg T D.chg hTS hS1).phiS fun j C=>hold j ((h.ids i a l).1 j C)⟩
 ·intro i a l;obtain ⟨h1,h2⟩:=h.ids i a l;refine ⟨fun j C=>by have:=h1 j C;simp only [X9,za5] at this⊢;omega,?_⟩;cases a with
  |eptr y sz k c=>
   have hy:=h1 y (by simp [AV.ids]);intro e t xs hx;rcases get y _ hx with ⟨k',g,A,d,W,_⟩|⟨_,d,_⟩|⟨m,_,A,_⟩
   ·cases g with
    |row e1 t1 ys=>
     simp only [Ent.ren,Ent.row.injEq] at W;obtain ⟨rfl,rfl,W⟩:=W;have:=eq_of_heq W;subst this;obtain ⟨zs,g4⟩:=hty k' y _ _ _ A d;obtain ⟨q4,q5⟩:=h2 _ _ _ g4;obtain ⟨_,_,_,n1,_⟩:=h.ents y _ g4;obtain ⟨_,_,_,n2,_⟩:=D.ents k' _ (E d);rw [(hpin k' y A).2.1] at n2;exact ⟨by omega,q5⟩
    |blk _ _=>cases W
    |drow _ _ _ _ _=>cases W
    |pmap _ _ _ _ _=>cases W
    |map _ _=>cases W
    |tmap _ _ _=>cases W
    |hid=>cases W
    |gone=>cases W
   ·exact h2 e t xs d
   ·simp only at hy;omega
  |_=>trivial
 ·rcases (D.own b s).1 with s|s
  ·exact (h.own b s).1
  ·exact .inr (W7 h.chg.size s)
 ·intro j f J o a l;rcases get j f J with ⟨k,g,A,d,rfl,C⟩|⟨R,d,C⟩|⟨m,g,rfl,d,rfl⟩
  ·rw [M k j A] at l;have V:g.live=true:=by rw [Ent.ren_live] at o;exact o
   refine ⟨(D.lives _ g (E d) V a l).1,?_⟩;rcases (D.lives _ g (E d) V a l).2 with O|O
   ·exact hTc _ O
   ·exact .inr (W7 h.chg.size O)
  ·rw [G j R C] at l;have q:=h.lives j f d o a l;refine ⟨D.ex _ q.1 (fun s=>?_) (h.own _ q.1).2,q.2⟩;obtain ⟨k,i,a',p,ha',hbe⟩:=N _ s;obtain ⟨e,he,I⟩:=X i (X6 p);exact h.apart j i f e d he o I (fun e=>R (e▸X6 p)) a a' l ha' hbe.symm
  ·rw [z] at l;have V:g.live=true:=by rw [Ent.ren_live] at o;exact o
   refine ⟨(D.lives _ g d V a l).1,?_⟩;rcases (D.lives _ g d V a l).2 with O|O
   ·exact hTc _ O
   ·exact .inr (W7 h.chg.size O)
 ·obtain ⟨A,d⟩:=h.pins k r p;simp only at d;exact ⟨(hold k d).trans A,by simp only [X9,za5];omega⟩
 ·intro j f J;rcases get j f J with ⟨k,g,A,d,rfl,C⟩|⟨C,d,hjl⟩|⟨m,g,rfl,d,rfl⟩
  ·exact (D.ents k g (E d)).ren (M k j A) fun x _=>Q x
  ·have hnot:f.live=true-> ∀a,At (φ j) a->a.block∉zc4 K ids.length:=fun o a l s=>by
    obtain ⟨k,i,a',p,ha',hbe⟩:=N _ s;obtain ⟨e,he,I⟩:=X i (X6 p);exact h.apart j i f e d he o I (fun e=>C (e▸X6 p)) a a' l ha' hbe.symm
   have h1:=(h.ents j f d).chg T D.chg hTS hS1 fun o a l=>⟨hnot o a l,D.ex _ (zf5 h d o l) (hnot o a l) (h.own _ (zf5 h d o l)).2⟩;exact h1.phiE (G j C hjl) fun x hx=>hold x (h.eids j f d x hx)
  ·exact (D.ents _ g d).ren (z m) fun x _=>Q x
 ·intro j f J x hx;rcases get j f J with ⟨k,g,A,d,rfl,C⟩|⟨C,d,hjl⟩|⟨m,g,rfl,d,rfl⟩
  ·rw [Ent.ren_cellIds] at hx;obtain ⟨y,hy,rfl⟩:=U0.1 hx;exact hσlt y (by have:=D.eids k g (E d) y hy;simp only [X9] at this;exact this)
  ·have:=h.eids j f d x hx;simp only [X9,za5] at this⊢;omega
  ·rw [Ent.ren_cellIds] at hx;obtain ⟨y,hy,rfl⟩:=U0.1 hx;exact hσlt y (by have:=D.eids _ g d y hy;simp only [X9] at this;exact this)
 ·
  have cross: ∀(j:Nat) (f:Ent T.U),j∉ids->H[j]?=some f->f.live=true-> ∀(m:Nat) (g:Ent T.U),(L++Nw)[m]?=some g->g.live=true-> ∀a b,At (φ j) a->At (u m) b->a.block≠b.block:=by
   intro j f R d o m g O V a b l s;rcases (D.lives _ g O V b s).2 with hb'|hb'
   ·obtain ⟨k,i,a',p,ha',hbe⟩:=N _ hb';obtain ⟨e,he,I⟩:=X i (X6 p);rw [<-hbe];exact h.apart j i f e d he o I (fun e=>R (e▸X6 p)) a a' l ha'
   ·have:=(h.own _ (zf5 h d o l)).2;omega
  have side: ∀(j:Nat) (f:Ent T.U),(zh2 T H ids (L.map (Ent.ren σ))++Nw.map (Ent.ren σ))[j]?=some f->f.live=true->
    (∃(k:Nat) (g:Ent T.U),(L++Nw)[k]?=some g/\g.live=true/\B j=u k/\j=σ k)\/(j∉ids/\H[j]?=some f/\B j=φ j):=by
   intro j f J o;rcases get j f J with ⟨k,g,A,d,rfl,C⟩|⟨R,d,C⟩|⟨m,g,rfl,d,rfl⟩
   ·refine .inl ⟨k,g,E d,by rw [Ent.ren_live] at o;exact o,M k j A,?_⟩;have hs:=σJ_lo (n:=H.length) (X2.1 A).1;rw [Y,A] at hs;exact X5 hs
   ·exact .inr ⟨R,d,G j R C⟩
   ·refine .inl ⟨ids.length+m,g,d,by rw [Ent.ren_live] at o;exact o,z m,?_⟩;rw [<-Y,σJ_hi (by omega)];omega
  intro i j f f' J hf' o I hij a b l s;rcases side i f J o with ⟨k,g,A,d,W,g4⟩|⟨g0,A,W⟩<;>rcases side j f' hf' I with ⟨k',f0',k1,k2,k3,k4⟩|⟨k0,k1,k3⟩<;>rw [W] at l<;>rw [k3] at s
  ·exact D.apart k k' g f0' A k1 d k2 (fun e=>hij (by rw [g4,k4,e])) a b l s
  ·exact (cross j f' k0 k1 I k g A d b a s l).symm
  ·exact cross i f g0 A o k' f0' k1 k2 a b l s
  ·exact h.apart i j f f' A k1 o I hij a b l s
end
end Go.X
namespace Go.X
open Go.RowKit Go.V
structure GSpec (T:Tab) where
 ps:List Sh
 post:List PE
 rs:List Sh
 g:zf1 T ps->Option (zq1 T post×zf1 T rs)
section
variable (T:Tab) (P:Program)
def zg4:Src->List Nat
 | []=> []
 |some i::r=>i::zg4 r
 |none::r=>zg4 r
def yu3 (H:List (Ent T.U)):List Nat->List PE->Bool
 | [],ps=>match ps with| []=>true|_::_=>false
 |i::r,ps=>match ps with
  | []=>false
  |p::q=>(match p with| .row e t=>(qg0 T H e t i).isSome|_=>true)&&yu3 H r q
def GOk (f:FuncId) (b:GSpec T):Prop:= ∀x y,b.g x=some y-> ∀(w:World) (S:List Nat) (φ:Nat->RA),Sim T w ⟨zc4 φ (zb1 b.ps),S,(List.range (zb1 b.ps)).map φ⟩ ⟨[],zg9 T id b.ps x 0⟩ [] w S φ->
 ∀vs:List Value,VRL T w S φ (zc6 T id b.ps x 0) vs->(∀a∈zc6 T id b.ps x 0,okA (zg9 T id b.ps x 0) a)->
 Calls P f vs.toArray w fun e w'=>match e with
  | .returned v=> ∃(F1:PF) (S1:List Nat) (c:Nat->RA) (us:List Value),Sim T w ⟨zc4 φ (zb1 b.ps),S,(List.range (zb1 b.ps)).map φ⟩ ⟨[],mkP T id b.post y.1 b.post.length++(yh5 T id b.post y.1 b.post.length++zg9 T id b.rs y.2 (b.post.length+ze0 b.post))⟩ F1 w' S1 c/\
    VRL T w' S1 c (zc6 T id b.rs y.2 (b.post.length+ze0 b.post)) us/\v=zz7 us/\ ∀i∈u0 (zc6 T id b.rs y.2 (b.post.length+ze0 b.post)),i<b.post.length+(ze0 b.post+zb1 b.rs)
  |_=>False
def GSpec.toCall {T:Tab} (sp:GSpec T) (alt:CallSpec T):CallSpec T where
 call:=fun aS H K Kp=>match yb4 T H sp.ps aS [] with
  |some (x,l)=>match zd5 (zg4 l)&&yu3 T H (zg4 l) sp.post with
   |true=>q9 (sp.g x) fun y=>K (zm5 T (zc6 T (σJ (zg4 l) H.length) sp.rs y.2 (sp.post.length+ze0 sp.post))) (zh2 T H (zg4 l) (mkP T (σJ (zg4 l) H.length) sp.post y.1 sp.post.length)++(yh5 T (σJ (zg4 l) H.length) sp.post y.1 sp.post.length++zg9 T (σJ (zg4 l) H.length) sp.rs y.2 (sp.post.length+ze0 sp.post)))
   |false=>none
  |none=>alt.call aS H K Kp
 q:=alt.q
 isq:=alt.isq
 wr:=fun aS H=>match yb4 T H sp.ps aS [] with|some (_,l)=>zg4 l|none=>alt.wr aS H
def k9:CallSpec T where
 call:=fun _ _ _ _=>none
 q:=fun _ _ _=>none
 isq:=false
 wr:=fun _ _=> []
def kc0:List (Nat×TypeId×Ty×Bool)->List (AV T.U)->List (Ent T.U)->List (AV T.U)×List (Ent T.U)
 | [],aS,H=>(aS,H)
 |(j,e,t,b)::r,aS,H=>match aS[j]? with
  |some (.raw (.slice none 0 0))=>kc0 r (aS.set j (match b with|true=>.own H.length|false=>.sl H.length (szT T t) 0 0)) (H++ [.row e t []])
  |_=>kc0 r aS H
def kb9:List Nat->List (AV T.U)->List (Ent T.U)->List (AV T.U)
 | [],aS,_=>aS
 |j::r,aS,H=>match aS[j]? with
  |some (.own i)=>match H[i]? with
   |some (.row _ t xs)=>kb9 r (aS.set j (.sl i (szT T t) 0 xs.length)) H
   |_=>kb9 r aS H
  |_=>kb9 r aS H
structure Nl where
 rs:List (Nat×TypeId×Ty×Bool)
 ow:List Nat
 bn:List (Nat×Nat×TypeId×Ty)
 z:List (Nat×Ty)
 w:List Nat
def gn2 (post:List PE) (rs:List Sh) (aS:List (AV T.U)) (H:List (Ent T.U)):Option (zq1 T post×zf1 T rs):=
 match rdP T H post 0 (zp3 post 0) with
 |some (y,l)=>match yb4 T H rs aS l with
  |some (z,l')=>match zm3 l' with|true=>some (y,z)|false=>none
  |none=>none
 |none=>none
def yf7 (fn:Func) (nl:Nl) (a:List PE) (rs:List Sh) (b:St T):Option (zq1 T a×zf1 T rs):=
 match jp7 T P b fn.results.toList with
 |some c=>match kc1 T a.length nl.w c b.H with
  |some (d,H1)=>
   let p:=kc0 T nl.rs d (ze8 T nl.bn H1)
   gb7 T nl.z (kb9 T nl.ow p.1 p.2) p.2 (gn2 T a rs)
  |none=>none
 |none=>none
def jd4 (fn:Func) (nl:Nl) (a:List PE) (rs:List Sh):Ks T (zq1 T a×zf1 T rs):=⟨yf7 T P fn nl a rs,fun _ _=>none,yf7 T P fn nl a rs,fun _ _=>none⟩
noncomputable def gk5 (C:Ctx T) (b:List (Pos×Cut)) (fn:Func) (c:Code) (nl:Nl) (ps:List Sh) (a:List PE) (rs:List Sh) (m:Nat) (x:zf1 T ps):Option (zq1 T a×zf1 T rs):=
 evC P C fn.ntmps b (run P C fn.ntmps b c (jd4 T P fn nl a rs) m) c [] (jd4 T P fn nl a rs) ⟨yb5 T (zc6 T id ps x 0) 0,zg9 T id ps x 0⟩
noncomputable def un7 (C:Ctx T) (b:List (Pos×Cut)) (fn:Func) (c:Code) (nl:Nl) (a:List PE) (rs:List Sh) (m:Nat) (q:Pos) (st:St T):Option (zq1 T a×zf1 T rs):=
 run P C fn.ntmps b c (jd4 T P fn nl a rs) m q st
end
section
variable {T:Tab} {P:Program} {w w':World} {S S':List Nat} {φ φ':Nat->RA} {w0:World} {S0:Ow} {F:AF T} {H:List (Ent T.U)} {F':PF}
def yv8: ∀l:List Nat,zg4 (l.map some)=l
 | []=>rfl
 |i::r=>by rw [U2,zg4,yv8 r]
mutual
def vg6 (σ:Nat->Nat): ∀(s:Sh) (x:s.den T) (k:Nat),(mkE T σ s x k).length=s.cnt
 | .row e t,x,k=>rfl
 | .slr e t,x,k=>rfl
 | .ptr o e cs,x,k=>(congrArg (· +1) (zc3 σ cs x (k+1))).trans (J4 _ _)
 | .slb sz n e cs,x,k=>(congrArg (· +1) (zc3 σ cs x (k+1))).trans (J4 _ _)
 | .fn f a b,x,k=>by show (zg9 T σ a x.1 k++zg9 T σ b x.2 (k+zb1 a)).length=zb1 a+zb1 b;rw [X9,zc3 σ a,zc3 σ b]
 | .agg cs,x,k=>zc3 σ cs x k
 | .ifc t s,x,k=>vg6 σ s x k
 | .val _,x,k=>rfl
 | .at_ _ _,x,k=>rfl
 | .own _,x,k=>rfl
 | .part _ _,x,k=>rfl
 | .nils,x,k=>rfl
 | .nilp,x,k=>rfl
 | .lit _ _,x,k=>rfl
 | .arr _ _,x,k=>rfl
 | .lp _ _,x,k=>rfl
 | .asp _ _ _ _,x,k=>rfl
 | .asn e cs o sz n,x,k=>(congrArg (· +1) (zc3 σ cs x.1 (k+1))).trans (J4 _ _)
 | .asq e cs o sz n lo m,x,k=>(congrArg (· +1) (zc3 σ cs x (k+1))).trans (J4 _ _)
 | .ap _ _ _ _ _,x,k=>rfl
 | .mp kd keys cs,x,k=>(congrArg (· +1) (zc3 σ cs x (k+1))).trans (J4 _ _)
 | .mpo _,x,k=>rfl
 | .rw _,x,k=>rfl
 | .lpk _ _ _,x,k=>rfl
 | .tm _ _,x,k=>rfl
 | .dr _ _ _,x,k=>rfl
 | .pm _ _ _,x,k=>rfl
 | .gm,x,k=>rfl
 | .gmo _,x,k=>rfl
def zc3 (a): ∀(l x k),(zg9 T a l x k).length=zb1 l
 | [],x,k=>rfl
 |s::r,x,k=>by show (mkE T a s x.1 k++zg9 T a r x.2 (k+s.cnt)).length=s.cnt+zb1 r;rw [X9,vg6 a s,zc3 a r]
end
def zy2 (a): ∀(ps x k),(mkP T a ps x k).length=ps.length
 | [],x,k=>rfl
 |p::r,x,k=>by show (mkP T a r x.2 (k+p.cnt)).length+1=r.length+1;rw [zy2 a r]
def zz1 (a): ∀(ps x k),(yh5 T a ps x k).length=ze0 ps
 | [],x,k=>rfl
 |p::r,x,k=>by
  show (vx9 T a p x.1 k++yh5 T a r x.2 (k+p.cnt)).length=p.cnt+ze0 r;rw [X9,zz1 a r];cases p with
  |gone=>rfl
  |gm=>rfl
  |row e t=>rfl
  |tmap k t=>rfl
  |dr e d fe=>rfl
  |pm k c d=>rfl
  |blk e cs=>exact congrArg (· +ze0 r) (zc3 a cs x.1 k)
  |map f b cs=>exact congrArg (· +ze0 r) (zc3 a cs x.1 k)
mutual
def vg5 (τ:Nat->Nat): ∀(s:Sh) (x:s.den T) (k:Nat),(mkA T id s x k).ren τ=mkA T τ s x k
 | .val t,x,k=>qt1 t x τ
 | .row e t,x,k=>rfl
 | .slr e t,x,k=>rfl
 | .ptr o e cs,x,k=>rfl
 | .slb sz n e cs,x,k=>rfl
 | .fn f a b,x,k=>by
  show AV.fn (.func f) (zi6 τ (zc6 T id a x.1 k)) (zi6 τ (zc6 T id b x.2 (k+zb1 a)))=.fn (.func f) (zc6 T τ a x.1 k) (zc6 T τ b x.2 (k+zb1 a));rw [ze7 τ a,ze7 τ b]
 | .agg cs,x,k=>congrArg AV.agg (ze7 τ cs x k)
 | .ifc t s,x,k=>congrArg (AV.ifc t) (vg5 τ s x k)
 | .at_ _ _,x,k=>rfl
 | .own _,x,k=>rfl
 | .part _ _,x,k=>rfl
 | .nils,x,k=>rfl
 | .nilp,x,k=>rfl
 | .lit _ _,x,k=>rfl
 | .arr _ _,x,k=>rfl
 | .lp _ _,x,k=>rfl
 | .asp _ _ _ _,x,k=>rfl
 | .asn _ _ _ _ _,x,k=>rfl
 | .asq _ _ _ _ _ _ _,x,k=>rfl
 | .ap _ _ _ _ _,x,k=>rfl
 | .mp _ _ _,x,k=>rfl
 | .mpo _,x,k=>rfl
 | .rw _,x,k=>rfl
 | .lpk _ _ _,x,k=>rfl
 | .tm _ _,x,k=>rfl
 | .dr _ _ _,x,k=>rfl
 | .pm _ _ _,x,k=>rfl
 | .gm,x,k=>rfl
 | .gmo _,x,k=>rfl
def ze7 (a): ∀(l x k),zi6 a (zc6 T id l x k)=zc6 T a l x k
 | [],x,k=>rfl
 |s::r,x,k=>by
  show (mkA T id s x.1 k).ren a::zi6 a (zc6 T id r x.2 (k+s.cnt))=mkA T a s x.1 k::zc6 T a r x.2 (k+s.cnt);rw [vg5 a s,ze7 a r]
end
def yh0 {α:Type} {a b:α} {l m:List α} (h:a=b) (c:l=m):a::l=b::m:=by rw [h,c]
def kn9 {α:Type} {a b l m:List α} (h:a=b) (c:l=m):a++l=b++m:=by rw [h,c]
mutual
def vg7 (τ:Nat->Nat): ∀(s:Sh) (x:s.den T) (k:Nat),(mkE T id s x k).map (Ent.ren τ)=mkE T τ s x k
 | .row e t,x,k=>rfl
 | .slr e t,x,k=>rfl
 | .ptr o e cs,x,k=>yh0 (congrArg (Ent.blk e) (ze7 τ cs x (k+1))) (zh8 τ cs x (k+1))
 | .slb sz n e cs,x,k=>yh0 (congrArg (Ent.blk e) (ze7 τ cs x (k+1))) (zh8 τ cs x (k+1))
 | .fn f a b,x,k=>by
  show (zg9 T id a x.1 k++zg9 T id b x.2 (k+zb1 a)).map (Ent.ren τ)=zg9 T τ a x.1 k++zg9 T τ b x.2 (k+zb1 a);rw [J3,zh8 τ a,zh8 τ b]
 | .agg cs,x,k=>zh8 τ cs x k
 | .ifc t s,x,k=>vg7 τ s x k
 | .val _,x,k=>rfl
 | .at_ _ _,x,k=>rfl
 | .own _,x,k=>rfl
 | .part _ _,x,k=>rfl
 | .nils,x,k=>rfl
 | .nilp,x,k=>rfl
 | .lit _ _,x,k=>rfl
 | .arr _ _,x,k=>rfl
 | .lp _ _,x,k=>rfl
 | .asp _ _ _ _,x,k=>rfl
 | .asn e cs _ _ _,x,k=>yh0 (congrArg (Ent.blk e) (ze7 τ cs x.1 (k+1))) (zh8 τ cs x.1 (k+1))
 | .asq e cs _ _ _ _ _,x,k=>yh0 (congrArg (Ent.blk e) (ze7 τ cs x (k+1))) (zh8 τ cs x (k+1))
 | .ap _ _ _ _ _,x,k=>rfl
 | .mp kd keys cs,x,k=>yh0 (congrArg (Ent.map kd) ((yl1 τ keys _).trans (congrArg (yg8 keys) (ze7 τ cs x (k+1))))) (zh8 τ cs x (k+1))
 | .mpo _,x,k=>rfl
 | .rw _,x,k=>rfl
 | .lpk _ _ _,x,k=>rfl
 | .tm _ _,x,k=>rfl
 | .dr _ _ _,x,k=>rfl
 | .pm _ _ _,x,k=>rfl
 | .gm,x,k=>rfl
 | .gmo _,x,k=>rfl
def zh8 (a): ∀(l x k),(zg9 T id l x k).map (Ent.ren a)=zg9 T a l x k
 | [],x,k=>rfl
 |s::r,x,k=>by
  show (mkE T id s x.1 k++zg9 T id r x.2 (k+s.cnt)).map (Ent.ren a)=mkE T a s x.1 k++zg9 T a r x.2 (k+s.cnt);rw [J3,vg7 a s,zh8 a r]
end
def jg6 (a): ∀(ps x k),(mkP T id ps x k).map (Ent.ren a)=mkP T a ps x k
 | [],x,k=>rfl
 |p::r,x,k=>by
  show (gf1 T id p x.1 k).ren a::(mkP T id r x.2 (k+p.cnt)).map (Ent.ren a)=gf1 T a p x.1 k::mkP T a r x.2 (k+p.cnt);rw [jg6 a r];cases p with
  |gone=>rfl
  |gm=>rfl
  |row e t=>rfl
  |tmap k t=>rfl
  |dr e d fe=>rfl
  |pm k f d=>rfl
  |blk e cs=>exact yh0 (congrArg (Ent.blk e) (ze7 a cs x.1 k)) rfl
  |map c b cs=>exact yh0 (congrArg (Ent.map c) ((yl1 a b _).trans (congrArg (yg8 b) (ze7 a cs x.1 k)))) rfl
def yw1 (a): ∀(ps x k),(yh5 T id ps x k).map (Ent.ren a)=yh5 T a ps x k
 | [],x,k=>rfl
 |p::r,x,k=>by
  show (vx9 T id p x.1 k++yh5 T id r x.2 (k+p.cnt)).map (Ent.ren a)=vx9 T a p x.1 k++yh5 T a r x.2 (k+p.cnt);rw [J3,yw1 a r];cases p with
  |gone=>rfl
  |gm=>rfl
  |row e t=>rfl
  |tmap k t=>rfl
  |dr e d fe=>rfl
  |pm k c d=>rfl
  |blk e cs=>exact kn9 (zh8 a cs x.1 k) rfl
  |map f b cs=>exact kn9 (zh8 a cs x.1 k) rfl
def kg5 (a:Nat->Nat) (s:Sh) (x:s.den T) (k:Nat):zh9 (mkA T a s x k)=true:=by
 cases s with
 |val t=>exact yr7 t x
 |_=>rfl
def zs7 (b): ∀(l x k),∀a∈zc6 T b l x k,zh9 a=true
 | [],x,k,a,h=>by cases h
 |s::r,x,k,a,h=>by
  have h:a∈mkA T b s x.1 k::zc6 T b r x.2 (k+s.cnt):=h;rcases Z0.1 h with rfl|h
  ·exact kg5 b s x.1 k
  ·exact zs7 b r x.2 _ a h
def zk7 {ρ:Nat->Nat} {n:Nat} {aS:List (AV T.U)} (h: ∀i∈u0 aS,ρ i<n): ∀i∈u0 (zi6 ρ aS),i<n:=by
 intro i hi;rw [zu4] at hi;obtain ⟨j,hj,rfl⟩:=U0.1 hi;exact h j hj
def zt2 {ids}: ∀ {a},yu3 T H ids a=true->ids.length=a.length/\ ∀(k i:Nat) (e:TypeId) (t:Ty),ids[k]?=some i->a[k]?=some (.row e t)-> ∃xs,H[i]?=some (.row e t xs):=by
 induction ids with
 |nil=>
  intro a h;cases a with
  |nil=>exact ⟨rfl,fun k i e t h=>by simp at h⟩
  |cons _ _=>cases h
 |cons j r d=>
  intro a h;cases a with
  |nil=>cases h
  |cons p q=>
   unfold yu3 at h;simp only [X3] at h;obtain ⟨f,g⟩:=d h.2;refine ⟨by simp [f],fun k i e t b c=>?_⟩;cases k with
   |zero=>
    simp at b c;subst b;subst c;obtain ⟨xs,l⟩:=N4.1 h.1;exact ⟨xs,yg3 l⟩
   |succ k=>exact g k i e t (by simpa using b) (by simpa using c)
def yo6 {a:Nat->Nat}: ∀ {ps:List PE} {x:zq1 T ps} {k j:Nat} {e:TypeId} {t:Ty} {ys:List (den T.U t)},(mkP T a ps x k)[j]?=some (.row e t ys)->ps[j]?=some (.row e t)
 | [],x,k,j,e,t,ys,h=>by simp [mkP] at h
 |p::r,x,k,j,e,t,ys,h=>by
  have h:(gf1 T a p x.1 k::mkP T a r x.2 (k+p.cnt))[j]?=some (.row e t ys):=h;cases j with
  |succ j=>simp only [List.getElem?_cons_succ] at h⊢;exact yo6 h
  |zero=>
   simp only [Y4,X0] at h⊢;cases p with
   |gone=>cases h
   |gm=>cases h
   |row b c=>
    simp only [gf1,Ent.row.injEq] at h;obtain ⟨rfl,rfl,_⟩:=h;rfl
   |blk _ _=>cases h
   |map _ _ _=>cases h
   |tmap _ _=>cases h
   |dr _ _ _=>cases h
   |pm _ _ _=>cases h
def qi9 {f:FuncId} {sp:GSpec T} {alt:CallSpec T} (hok:GOk T P f sp) (ha:zb8 T P f alt):zb8 T P f (sp.toCall alt):=by
 intro R aS H K Kp r hr w0 S0 F F' w S φ h vs hvs has;simp only [GSpec.toCall] at hr;split at hr
 ·rename_i x l hx;split at hr
  ·rename_i hb;simp only [X3] at hb;obtain ⟨hn,hro⟩:=hb;obtain ⟨y,hy,hK⟩:=zb9 hr;obtain ⟨new,g1,g2,g3⟩:=zd8 sp.ps aS [] l x hx;have hl:l=new.map some:=by rw [g1.eq];rfl
   have hids:zg4 l=new:=by rw [hl,yv8]
   rw [hids] at hn hro hK;have hno:zm3 l=true:=by
    rw [hl];clear hK hro hids hx g1 g2 g3 hl;induction new with
    |nil=>rfl
    |cons i r ih=>
     rw [zd5,X3,V4] at hn;rw [U2,zm3,ih hn.2,Bool.and_true,V4];cases hm:ql7 i (r.map some) with
     |false=>rfl
     |true=>
      have:=yd8.1 hm;obtain ⟨j,hj,e⟩:=U0.1 this;simp only [X0] at e;subst e;rw [zb7.2 hj] at hn;exact absurd hn.1 (by simp)
   obtain ⟨q1,q2⟩:=g3 _ (yg1 hno);obtain ⟨hlen,hrow⟩:=zt2 hro;have hnewlen:new.length=zb1 sp.ps:=g2;obtain ⟨c0,x0,p0⟩:=S0;have hs:=(h.unpin.src (l:=l) hno (fun k hk=>by simp at hk) (fun i e hi he j hj=>by
    rw [hl] at hi;obtain ⟨i',hi',e'⟩:=U0.1 hi;simp only [X0] at e';subst e';obtain ⟨e0,h1,_,h3⟩:=g1.ents i' hi';rw [he] at h1;simp only [X0] at h1;subst h1;exact h3 j hj))
   rw [show zh6 T H (fun i=>yq7 i l) l=ze3 T H (fun i=>yq7 i l) new by rw [hl,zw4]] at hs;have hs:=(hs.imp q2).start;rw [zc3,<-hnewlen] at hs;have hφc: ∀k i,new[k]?=some i->φO l φ k=φ i:=fun k i hk=>φO_at (by rw [hl,W2,hk];rfl);have hvs':VRL T w S (φO l φ) (zc6 T id sp.ps x 0) vs:=q1.vrl (VRL.ren T (fun i hi=>φO_idx (g1.ids i hi)) hvs);have hoks: ∀a∈zc6 T id sp.ps x 0,okA (zg9 T id sp.ps x 0) a:=fun a ha=>zd4 (zs7 id _ _ _ a ha) fun i hi=>by
    have hi:=zd7 ha i hi;rw [show u0 (zc6 T id sp.ps x 0)=_ from q1.ids] at hi;rw [zc3,<-hnewlen];refine zk7 (fun j hj=>?_) i hi;have:=(X2.1 (zl6 (g1.ids j hj))).1;rw [hl,W9] at this;rw [hl];exact this
   refine (hok x y hy w S (φO l φ) (by rw [<-hnewlen];exact hs) vs hvs' hoks).mono fun e w' hR=>?_;cases e with
   |returned v=>
    obtain ⟨F1,S1,φ1,us,k1,k2,rfl,k3⟩:=hR;rw [<-hnewlen] at k1;obtain ⟨φ2,m1,m2⟩:=h.join hn (fun i hi=>by obtain ⟨e,a,b,_⟩:=g1.ents i hi;exact ⟨e,a,b⟩) hφc k1 (by rw [zy2,hlen]) (fun k i e t ys hk hp=>hrow k i e t hk (yo6 hp));rw [jg6,J3,yw1,zh8] at m1;have hv2:VRL T w' S1 φ2 (zc6 T (σJ new H.length) sp.rs y.2 (sp.post.length+ze0 sp.post)) us:=by
     rw [<-ze7];rw [zy2,X9,zz1,zc3] at m2;generalize zc6 T id sp.rs y.2 (sp.post.length+ze0 sp.post)=rs at k2 k3;clear hK m1 k1;induction rs generalizing us with
     |nil=>cases us<;>exact k2
     |cons a r ih=>
      match us,k2 with
      |u::us,k2=>
       rw [zi6];exact ⟨m2 a u k2.1 fun i hi=>k3 i (by rw [u0];exact X4.2 (.inl hi)),ih _ k2.2 fun i hi=>k3 i (by rw [u0];exact X4.2 (.inr hi))⟩
    refine ⟨_,_,hK,S1,φ2,m1,ye4 hv2,?_⟩;have hlt: ∀i∈u0 (zc6 T (σJ new H.length) sp.rs y.2 (sp.post.length+ze0 sp.post)),i<(zh2 T H new (mkP T (σJ new H.length) sp.post y.1 sp.post.length)++(yh5 T (σJ new H.length) sp.post y.1 sp.post.length++zg9 T (σJ new H.length) sp.rs y.2 (sp.post.length+ze0 sp.post))).length:=by
     rw [<-ze7];refine zk7 fun j hj=>?_;have hj:=k3 j hj;rw [X9,X9,za5,zz1,zc3];by_cases hlt:j<new.length
     ·have hs:=σJ_lo (n:=H.length) hlt;obtain ⟨e,h1,_,_⟩:=g1.ents _ (X6 hs);have:=(X2.1 h1).1;omega
     ·rw [σJ_hi (by omega)];omega
    have hne:zh9 (zm5 T (zc6 T (σJ new H.length) sp.rs y.2 (sp.post.length+ze0 sp.post)))=true:=by
     unfold zm5;split
     ·rename_i a hl;exact zs7 (σJ new H.length) sp.rs y.2 _ a (by rw [hl];simp)
     ·rfl
    refine zd4 hne fun i hi=>hlt i ?_;unfold zm5 at hi;split at hi
    ·rename_i a hl;rw [hl,u0];exact X4.2 (.inl hi)
    ·rw [AV.ids] at hi;exact hi
   |panicked ch=>exact hR.elim
   |outgrown=>exact hR.elim
  ·cases hr
 ·exact ha aS H K Kp r hr w0 S0 F F' w S φ h vs hvs has
def wb3 {sp:GSpec T} {alt:CallSpec T} (ha:yp6 alt):yp6 (sp.toCall alt):=by
 intro R aS H K Kp r hr;simp only [GSpec.toCall] at hr;split at hr
 ·rename_i x l hx;split at hr
  ·rename_i hb;obtain ⟨y,hy,hK⟩:=zb9 hr;simp only [X3] at hb;obtain ⟨hlen,hrow⟩:=zt2 hb.2;refine .inl ⟨_,_,hK,?_,fun K' Kp'=>by simp only [GSpec.toCall,hx,hb.1,hb.2,N3,hy,q9]⟩;have hw:(GSpec.toCall sp alt).wr aS H=zg4 l:=by simp only [GSpec.toCall,hx]
   rw [hw];have hl:(mkP T (σJ (zg4 l) H.length) sp.post y.1 sp.post.length).length=(zg4 l).length:=by rw [zy2,hlen]
   refine ⟨by rw [X9,za5];omega,fun e he hn=>?_,fun e ty t ys he h=>?_⟩
   ·rw [X8 (by rw [za5];exact he)];obtain ⟨f,hf⟩: ∃f,(zh2 T H (zg4 l) (mkP T (σJ (zg4 l) H.length) sp.post y.1 sp.post.length))[e]?=some f:=⟨_,Y0 (by rw [za5];exact he)⟩;rcases zg2 _ _ H hl hf with ⟨k,g1,_⟩|⟨_,g2⟩
    ·exact absurd (X6 g1) hn
    ·rw [hf,g2]
   ·rw [X8 (by rw [za5];exact he)] at h;rcases zg2 _ _ H hl h with ⟨k,g1,g2⟩|⟨_,g2⟩
    ·exact hrow k e ty t g1 (yo6 g2)
    ·exact ⟨ys,g2⟩
  ·cases hr
 ·rename_i hx;have hw:(GSpec.toCall sp alt).wr aS H=alt.wr aS H:=by simp only [GSpec.toCall,hx]
  rcases ha aS H K Kp r hr with ⟨a,H1,h1,h2,h3⟩|⟨a,H1,h1,h2,h3⟩
  ·exact .inl ⟨a,H1,h1,by rw [hw];exact h2,fun K' Kp'=>by simp only [GSpec.toCall,hx,h3]⟩
  ·exact .inr ⟨a,H1,h1,by rw [hw];exact h2,fun K' Kp'=>by simp only [GSpec.toCall,hx,h3]⟩
def yq3 {w0:World} {S0:Ow} {F:AF T} {F':PF} {w:World} {S:List Nat}: ∀(l:List (Nat×TypeId×Ty×Bool)) {aS:List (AV T.U)} {us:List Value} {H:List (Ent T.U)} {φ:Nat->RA},Sim T w0 S0 ⟨F,H⟩ F' w S φ->(∀i∈u0 aS,i<H.length)->VRL T w S φ aS us->
  ∃φ',Sim T w0 S0 ⟨F,(kc0 T l aS H).2⟩ F' w S φ'/\VRL T w S φ' (kc0 T l aS H).1 us
 | [],aS,us,H,φ,h,hi,hv=>⟨φ,h,hv⟩
 |(j,e,t,b)::r,aS,us,H,φ,h,hi,hv=>by
  unfold kc0;split
  ·rename_i ha;obtain ⟨v,hu,hvr⟩:=hv.get T ha;rw [VR] at hvr;subst hvr;have h1:=h.addNil e t;have hv1:VRL T w S (zw1 φ H.length ⟨none,0,0,[]⟩) aS us:=hv.phi fun i hm=>zc9 (by have:=hi i hm;omega);have hnew:VR T w S (zw1 φ H.length ⟨none,0,0,[]⟩) (match b with|true=>AV.own H.length|false=>.sl H.length (szT T t) 0 0) (.slice none 0 0):=by
    cases b with
    |true=>rw [VR,k7]
    |false=>rw [VR,k7];exact ⟨none,rfl,W6 _,.inl rfl,fun _=>⟨rfl,rfl⟩,fun _=>rfl⟩
   have hs:=hv1.set T j hnew;rw [show us.set j (.slice none 0 0)=us by
    obtain ⟨hlt,hg⟩:=X2.1 hu;rw [<-hg,T6]] at hs
   refine yq3 r h1 (fun i hm=>?_) hs;obtain ⟨a,ha',hia⟩:=zm0 hm;rcases N2 ha' with ha'|ha'
   ·have:=hi i (zd7 ha' i hia);simp;omega
   ·subst ha';cases b<;>simp [AV.ids] at hia<;>subst hia<;>simp
  ·exact yq3 r h hi hv
def yf4 {w0:World} {S0:Ow} {F:AF T} {F':PF} {w:World} {S:List Nat} {H:List (Ent T.U)} {φ:Nat->RA} (h:Sim T w0 S0 ⟨F,H⟩ F' w S φ): ∀(l:List Nat) {aS:List (AV T.U)} {us:List Value},VRL T w S φ aS us->VRL T w S φ (kb9 T l aS H) us
 | [],aS,us,hv=>hv
 |j::r,aS,us,hv=>by
  unfold kb9;split
  ·rename_i i ha;split
   ·rename_i e t xs hi;refine yf4 h r ?_;obtain ⟨v,hu,hvr⟩:=hv.get T ha;obtain ⟨B,vals,o1,o2,o3,o4,o5⟩:=h.ents i _ hi;rw [VR] at hvr;subst hvr;rw [o2] at o1;have hnew:VR T w S φ (.sl i (szT T t) 0 xs.length) (.slice (φ i).ad (φ i).n (φ i).cap):=by
     refine ⟨(φ i).ad,?_,?_,?_,fun hn=>o1.nil0 hn,fun _=>rfl⟩
     ·show Value.slice (φ i).ad (φ i).n (φ i).cap=Value.slice (φ i).ad xs.length ((φ i).cap-0);rw [o2];rfl
     ·show 0+xs.length<=(φ i).cap;rw [W8];exact o1.le.1
     rcases o1.cases with ⟨_,hn,_⟩|⟨c,had,_⟩
     ·exact .inl hn
     ·refine .inr ⟨_,had,had.trans ?_⟩;show some (⟨_,0,none⟩:Addr)=some ⟨_,0+0*_,none⟩;rw [M0]
    have hs:=hv.set T j hnew;rwa [show us.set j (.slice (φ i).ad (φ i).n (φ i).cap)=us by
     obtain ⟨hlt,hg⟩:=X2.1 hu;rw [<-hg,T6]] at hs
   ·exact yf4 h r hv
  ·exact yf4 h r hv
end
end Go.X
namespace Go.X
open Go.RowKit Go.V
section
variable {T:Tab} {P:Program} {w w':World} {S S':List Nat} {φ φ':Nat->RA} {w0:World} {S0:Ow} {F:AF T} {H:List (Ent T.U)} {F':PF}
def qr8 {H:List (Ent T.U)}: ∀(ps:List PE) (j:Nat) (l l':Src) (x:zq1 T ps),rdP T H ps j l=some (x,l')->
  ∃new,l'=l++new.map some/\new.length=ze0 ps/\(∀i∈new,∃e,H[i]?=some e/\e.live=true/\ ∀j∈e.cellIds,some j∈l')/\(∀i,some i∈zp3 ps j-> ∃e,H[i]?=some e/\ ∀j∈e.cellIds,some j∈l')/\
   ∀ρ,Places ρ l'->ImpH T (zh6 T H ρ (zp3 ps j)) (mkP T id ps x l.length)/\ImpH T (ze3 T H ρ new) (yh5 T id ps x l.length)
 | [],j,l,l',x,h=>by
  simp only [rdP,X0,X7] at h;obtain ⟨_,rfl⟩:=h;exact ⟨[],by simp,rfl,(by intro i hi;cases hi),(by intro i hi;cases hi),fun ρ hρ=>⟨.nil,.nil⟩⟩
 |p::r,j,l,l',x,h=>by
  unfold rdP at h;split at h<;>try (cases h;done)
  rename_i y l1 hy;obtain ⟨z,hz,rfl⟩:=yg0 h;obtain ⟨n2,k1,k2,k3,k4,k5⟩:=qr8 r (j+1) l1 l' z hz;have hsub: ∀i,some i∈l1->some i∈l':=fun i hi=>by rw [k1];exact X4.2 (.inl hi)
  cases p with
  |gone=>
   simp only [qy4,X0,X7] at hy;obtain ⟨_,rfl⟩:=hy;refine ⟨n2,k1,by rw [k2];show _=0+ze0 r;omega,k3,fun i hi=>?_,fun ρ hρ=>?_⟩
   ·have hi:some i∈none::zp3 r (j+1):=hi;exact k4 i (by simpa using hi)
   ·obtain ⟨q1,q2⟩:=k5 ρ hρ;exact ⟨.cons (.same _) q1,q2⟩
  |row e t=>
   simp only [qy4] at hy;split at hy<;>try (cases hy;done)
   rename_i xs hx;simp only [X0,X7] at hy;obtain ⟨rfl,rfl⟩:=hy;have hx:=yg3 hx;refine ⟨n2,k1,by rw [k2];show _=0+ze0 r;omega,k3,fun i hi=>?_,fun ρ hρ=>?_⟩
   ·have hi:some i∈some j::zp3 r (j+1):=hi;rcases Z0.1 hi with hi|hi
    ·simp only [X0] at hi;subst hi;exact ⟨_,hx,by intro j hj;cases hj⟩
    ·exact k4 i hi
   ·obtain ⟨q1,q2⟩:=k5 ρ hρ;refine ⟨?_,q2⟩;show ImpH T ((match H[j]? with|some e=>e.ren ρ|none=>.gone)::zh6 T H ρ (zp3 r (j+1))) _;rw [hx];exact .cons (.same _) q1
  |tmap kd t=>
   simp only [qy4] at hy;split at hy<;>try (cases hy;done)
   rename_i xs hx;simp only [X0,X7] at hy;obtain ⟨rfl,rfl⟩:=hy;have hx:=jx3 hx;refine ⟨n2,k1,by rw [k2];show _=0+ze0 r;omega,k3,fun i hi=>?_,fun ρ hρ=>?_⟩
   ·have hi:some i∈some j::zp3 r (j+1):=hi;rcases Z0.1 hi with hi|hi
    ·simp only [X0] at hi;subst hi;exact ⟨_,hx,by intro j hj;cases hj⟩
    ·exact k4 i hi
   ·obtain ⟨q1,q2⟩:=k5 ρ hρ;refine ⟨?_,q2⟩;show ImpH T ((match H[j]? with|some e=>e.ren ρ|none=>.gone)::zh6 T H ρ (zp3 r (j+1))) _;rw [hx];exact .cons (.same _) q1
  |gm=>
   simp only [qy4] at hy;split at hy<;>try (cases hy;done)
   rename_i hx;simp only [X0,X7] at hy;obtain ⟨rfl,rfl⟩:=hy;have hx:=jf6 hx;refine ⟨n2,k1,by rw [k2];show _=0+ze0 r;omega,k3,fun i hi=>?_,fun ρ hρ=>?_⟩
   ·have hi:some i∈some j::zp3 r (j+1):=hi;rcases Z0.1 hi with hi|hi
    ·simp only [X0] at hi;subst hi;exact ⟨_,hx,by intro j hj;cases hj⟩
    ·exact k4 i hi
   ·obtain ⟨q1,q2⟩:=k5 ρ hρ;refine ⟨?_,q2⟩;show ImpH T ((match H[j]? with|some e=>e.ren ρ|none=>.gone)::zh6 T H ρ (zp3 r (j+1))) _;rw [hx];exact .cons (.same _) q1
  |dr e d fe=>
   simp only [qy4] at hy;split at hy<;>try (cases hy;done)
   rename_i xs hx;simp only [X0,X7] at hy;obtain ⟨rfl,rfl⟩:=hy;have hx:=js6 hx;refine ⟨n2,k1,by rw [k2];show _=0+ze0 r;omega,k3,fun i hi=>?_,fun ρ hρ=>?_⟩
   ·have hi:some i∈some j::zp3 r (j+1):=hi;rcases Z0.1 hi with hi|hi
    ·simp only [X0] at hi;subst hi;exact ⟨_,hx,by intro j hj;cases hj⟩
    ·exact k4 i hi
   ·obtain ⟨q1,q2⟩:=k5 ρ hρ;refine ⟨?_,q2⟩;show ImpH T ((match H[j]? with|some e=>e.ren ρ|none=>.gone)::zh6 T H ρ (zp3 r (j+1))) _;rw [hx];exact .cons (.same _) q1
  |pm k be d=>
   simp only [qy4] at hy;split at hy<;>try (cases hy;done)
   rename_i xs hx;simp only [X0,X7] at hy;obtain ⟨rfl,rfl⟩:=hy;have hx:=ju8 hx;refine ⟨n2,k1,by rw [k2];show _=0+ze0 r;omega,k3,fun i hi=>?_,fun ρ hρ=>?_⟩
   ·have hi:some i∈some j::zp3 r (j+1):=hi;rcases Z0.1 hi with hi|hi
    ·simp only [X0] at hi;subst hi;exact ⟨_,hx,by intro j hj;cases hj⟩
    ·exact k4 i hi
   ·obtain ⟨q1,q2⟩:=k5 ρ hρ;refine ⟨?_,q2⟩;show ImpH T ((match H[j]? with|some e=>e.ren ρ|none=>.gone)::zh6 T H ρ (zp3 r (j+1))) _;rw [hx];exact .cons (.same _) q1
  |blk e cs=>
   simp only [qy4] at hy;split at hy<;>try (cases hy;done)
   rename_i aS hb;have hb:=zx1 hb;obtain ⟨n1,g1,g2,g3⟩:=zd8 cs aS l l1 y hy;have hlen:l1.length=l.length+zb1 cs:=by rw [g1.eq,X9,W9,g2]
   refine ⟨n1++n2,by rw [k1,g1.eq,J3,Q2],by rw [X9,g2,k2];rfl,fun i hi=>?_,fun i hi=>?_,fun ρ hρ=>?_⟩
   ·rcases X4.1 hi with hi|hi
    ·obtain ⟨e,a,b,c⟩:=g1.ents i hi;exact ⟨e,a,b,fun j hj=>hsub j (c j hj)⟩
    ·exact k3 i hi
   ·have hi:some i∈some j::zp3 r (j+1):=hi;rcases Z0.1 hi with hi|hi
    ·simp only [X0] at hi;subst hi;exact ⟨_,hb,fun j hj=>hsub j (g1.ids j hj)⟩
    ·exact k4 i hi
   ·obtain ⟨q1,q2⟩:=k5 ρ hρ;obtain ⟨q3,q4⟩:=g3 ρ (by rw [k1] at hρ;exact hρ.pre);rw [hlen] at q1 q2;refine ⟨?_,by rw [zr7];exact q4.app q2⟩;show ImpH T ((match H[j]? with|some e=>e.ren ρ|none=>.gone)::zh6 T H ρ (zp3 r (j+1))) _;rw [hb];exact .cons (.blk q3) q1
  |map kd keys cs=>
   simp only [qy4] at hy;split at hy<;>try (cases hy;done)
   rename_i aS hb;have hb:=jg3 hb;obtain ⟨n1,g1,g2,g3⟩:=zd8 cs aS l l1 y hy;have hlen:l1.length=l.length+zb1 cs:=by rw [g1.eq,X9,W9,g2]
   refine ⟨n1++n2,by rw [k1,g1.eq,J3,Q2],by rw [X9,g2,k2];rfl,fun i hi=>?_,fun i hi=>?_,fun ρ hρ=>?_⟩
   ·rcases X4.1 hi with hi|hi
    ·obtain ⟨e,a,b,c⟩:=g1.ents i hi;exact ⟨e,a,b,fun j hj=>hsub j (c j hj)⟩
    ·exact k3 i hi
   ·have hi:some i∈some j::zp3 r (j+1):=hi;rcases Z0.1 hi with hi|hi
    ·simp only [X0] at hi;subst hi;exact ⟨_,hb,fun j hj=>hsub j (g1.ids j (jn1 keys aS j hj))⟩
    ·exact k4 i hi
   ·obtain ⟨q1,q2⟩:=k5 ρ hρ;obtain ⟨q3,q4⟩:=g3 ρ (by rw [k1] at hρ;exact hρ.pre);rw [hlen] at q1 q2;refine ⟨?_,by rw [zr7];exact q4.app q2⟩;show ImpH T ((match H[j]? with|some e=>e.ren ρ|none=>.gone)::zh6 T H ρ (zp3 r (j+1))) _;rw [hb];refine .cons ?_ q1;show ImpE T (.map kd (qa9 ρ (yg8 keys aS))) _;rw [yl1];exact .map q3
def zl2: ∀(ps j),(zp3 ps j).length=ps.length
 | [],j=>rfl
 | .gone::r,j=>by simp [zp3,zl2 r]
 | .row _ _::r,j=>by simp [zp3,zl2 r]
 | .tmap _ _::r,j=>by simp [zp3,zl2 r]
 | .dr _ _ _::r,j=>by simp [zp3,zl2 r]
 | .pm _ _ _::r,j=>by simp [zp3,zl2 r]
 | .gm::r,j=>by simp [zp3,zl2 r]
 | .blk _ _::r,j=>by simp [zp3,zl2 r]
 | .map _ _ _::r,j=>by simp [zp3,zl2 r]
def vl9: ∀(ps j k),k<ps.length->(zp3 ps j)[k]?=some (some (j+k))\/(zp3 ps j)[k]?=some none
 | [],j,k,h=>by simp at h
 |p::r,j,0,h=>by cases p<;>simp [zp3]
 |p::r,j,k+1,h=>by
  have:=vl9 r (j+1) k (by simpa using h);rw [show j+1+k=j+(k+1) by omega] at this;cases p<;>simpa [zp3] using this
def zh1 {w0:World} {S0:Ow} {F:AF T} {F':PF} {w:World} {S:List Nat}: ∀(l:List (Nat×Nat×TypeId×Ty)) {aS:List (AV T.U)} {us:List Value} {H:List (Ent T.U)} {φ:Nat->RA},Sim T w0 S0 ⟨F,H⟩ F' w S φ->VRL T w S φ aS us->(∀i∈u0 aS,i<H.length)->
  ∃φ',Sim T w0 S0 ⟨F,ze8 T l H⟩ F' w S φ'/\VRL T w S φ' aS us/\ ∀i∈u0 aS,i<(ze8 T l H).length
 | [],aS,us,H,φ,h,hv,hi=>⟨φ,h,hv,hi⟩
 |(i,c,e,t)::r,aS,us,H,φ,h,hv,hids=>by
  unfold ze8;split
  ·obtain ⟨φ1,h1,h2,h3⟩:=h.closeL (List.range H.length);exact zh1 r h1 (hv.phiS fun i _=>h2 i) fun i hm=>by rw [h3];exact hids i hm
  split
  ·rename_i e0 cs hi;split
   ·rename_i hc;have h1:=h.addNilE e t;have hil:=(X2.1 hi).1;obtain ⟨g,cv,a1,a2,a3,a4⟩:=h1.ents i _ (by rw [X8 hil];exact hi);have h2:=h1.upd (i:=i) (e0:=.blk e0 cs) (e:=.blk e0 (cs.set c (.own H.length))) (Tc:= []) (w':=w) (by rw [X8 hil];exact hi) rfl (Chg.refl [] w) (by simp)
     ⟨g,cv,a1,a2,a3,BR.swap (b:=.own H.length) rfl rfl (fun v hv=>by rw [VR] at hv;subst hv;rw [VR,k7]) a4 hc⟩
     (by
      intro j hj;rw [Ent.cellIds] at hj;obtain ⟨b,hb,hjb⟩:=zm0 hj;rcases N2 hb with hb|hb
      ·have:=h.eids i _ hi j (by rw [Ent.cellIds];exact zd7 hb j hjb);simp at this⊢;omega
      ·subst hb;simp [AV.ids] at hjb;subst hjb;simp) (by intro _ _ _ h;cases h)
    have hset:(H++ [zw8 T e t]).set i (.blk e0 (cs.set c (.own H.length)))=H.set i (.blk e0 (cs.set c (.own H.length)))++ [zw8 T e t]:=by
     rw [List.set_append_left _ _ hil]
    rw [hset] at h2;exact zh1 r h2 (hv.phi fun i hm=>zc9 (by have:=hids i hm;omega)) fun i hm=>by have:=hids i hm;simp;omega
   ·rename_i k hc;split
    ·split
     ·rename_i e' t' xs hk;exact zh1 r (h.cellSl hi hc hk) hv fun i hm=>by have:=hids i hm;simpa using this
     ·exact zh1 r h hv hids
    ·exact zh1 r h hv hids
   ·exact zh1 r h hv hids
  ·exact zh1 r h hv hids
end
section
variable (T:Tab)
def je6 (a:List PE) (rs:List Sh) (y:zq1 T a) (z:zf1 T rs) (w:World) (S:List Nat) (φ:Nat->RA) (b:Nat) (w':World) (us:List Value):Prop:=
 ∃(F1:PF) (S1:List Nat) (c:Nat->RA),Sim T w ⟨zc4 φ b,S,(List.range b).map φ⟩ ⟨[],mkP T id a y a.length++(yh5 T id a y a.length++zg9 T id rs z (a.length+ze0 a))⟩ F1 w' S1 c/\
  VRL T w' S1 c (zc6 T id rs z (a.length+ze0 a)) us/\ ∀i∈u0 (zc6 T id rs z (a.length+ze0 a)),i<a.length+(ze0 a+zb1 rs)
end
section
variable {T:Tab} {P:Program} {w w':World} {S S':List Nat} {φ φ':Nat->RA} {w0:World} {S0:Ow} {F:AF T} {H:List (Ent T.U)} {F':PF}
def va7 {cnt:Nat} {post:List PE} (hpost:post.length=cnt) {rs:List Sh} {aS:List (AV T.U)} {st:St T} {y1:zq1 T post} {z:zf1 T rs} {l1 l2:Src} {F1:PF} {w1:World} {S1:List Nat} {φ1:Nat->RA} {us:List Value}
  (h1:rdP T st.H post 0 (zp3 post 0)=some (y1,l1)) (h2:yb4 T st.H rs aS l1=some (z,l2)) (hn:zm3 l2=true)
  (hsm:Sim T w ⟨zc4 φ cnt,S,(List.range cnt).map φ⟩ st F1 w1 S1 φ1) (hr2:VRL T w1 S1 φ1 aS us):je6 T post rs y1 z w S φ cnt w1 us:=by
 obtain ⟨n1,g1,g2,g3,g4,g5⟩:=qr8 post 0 _ _ y1 h1;obtain ⟨n2,k1,k2,k3⟩:=zd8 rs aS _ _ z h2;have hsub: ∀i,some i∈l1->some i∈l2:=fun i hi=>by rw [k1.eq];exact X4.2 (.inl hi)
 have hl2:l2=zp3 post 0++(n1.map some++n2.map some):=by rw [k1.eq,g1,Q2]
 have hl1:l1.length=post.length+ze0 post:=by rw [g1,X9,W9,g2,zl2]
 have hpl:=yg1 hn;obtain ⟨q1,q2⟩:=g5 (fun i=>yq7 i l2) (Places.pre (m:=n2.map some) (by rw [<-k1.eq];exact hpl));obtain ⟨q3,q4⟩:=k3 _ hpl;rw [zl2] at q1 q2;rw [hl1] at q3 q4;have hs:=hsm.src (l:=l2) hn (fun k hk=>by
  simp at hk;rw [hl2,X8 (by rw [zl2];omega)];have:=vl9 post 0 k (by omega);rwa [W8] at this) (fun i e hi he j hj=>by
  rw [hl2] at hi;rcases X4.1 hi with hi|hi
  ·obtain ⟨e',p1,p2⟩:=g4 i hi;rw [he] at p1;simp only [X0] at p1;subst p1;exact hsub j (p2 j hj)
  ·rcases X4.1 hi with hi|hi
   ·obtain ⟨i',hi',e'⟩:=U0.1 hi;simp only [X0] at e';subst e';obtain ⟨e',p1,_,p2⟩:=g3 i' hi';rw [he] at p1;simp only [X0] at p1;subst p1;exact hsub j (p2 j hj)
   ·obtain ⟨i',hi',e'⟩:=U0.1 hi;simp only [X0] at e';subst e';obtain ⟨e',p1,_,p2⟩:=k1.ents i' hi';rw [he] at p1;simp only [X0] at p1;subst p1;exact p2 j hj)
 have hents:zh6 T st.H (fun i=>yq7 i l2) l2=zh6 T st.H (fun i=>yq7 i l2) (zp3 post 0)++(ze3 T st.H (fun i=>yq7 i l2) n1++ze3 T st.H (fun i=>yq7 i l2) n2):=by
  conv=>lhs;arg 4;rw [hl2]
  rw [yl7,yl7,zw4,zw4]
 rw [hents] at hs;refine ⟨[],S1,_,hs.imp (q1.app (q2.app q4)),q3.vrl (VRL.ren T (fun i hi=>φO_idx (k1.ids i hi)) hr2),?_⟩;intro i hi;rw [q3.ids] at hi;refine zk7 (fun j hj=>?_) i hi;have:=(X2.1 (zl6 (k1.ids j hj))).1;rw [k1.eq,X9,W9,k2,hl1] at this;rw [k1.eq];omega
def yw0 {cnt n:Nat} {ds:List Deferred} {fn:Func} {nl:Nl} {post:List PE} {rs:List Sh} (hpost:post.length=cnt) {st0:St T} {y':zq1 T post×zf1 T rs} (hst:yf7 T P fn nl post rs st0=some y') {F1:PF} {w1:World}
  (hsm0:zc1 T w ⟨zc4 φ cnt,S,(List.range cnt).map φ⟩ st0 F1 w1) {a:Act} (ha:Fr n ds F1 a): ∃v,(results fn a.tmps).run P w1=.ok v w1/\ ∃us,je6 T post rs y'.1 y'.2 w S φ cnt w1 us/\v=zz7 us:=by
 unfold yf7 at hst;split at hst<;>try (cases hst;done)
 rename_i as0 has;obtain ⟨S1,φ0,hsm0'⟩:=hsm0;obtain ⟨us,hr1,hr0⟩:=jb3 hsm0' ha has;split at hst<;>try (cases hst;done)
 rename_i asw Hw hw;obtain ⟨φw,hsmw,hrw,hres⟩:=yf5 (by simp [hpost]) nl.w hw hsm0'.noF hr0 (yv4 (P:=P) hsm0' has);obtain ⟨φb,hsmb,hrb,hib⟩:=zh1 nl.bn hsmw hrw hres;obtain ⟨φ1,hsm,hr20⟩:=yq3 nl.rs hsmb hib hrb;have hr2:=yf4 hsm nl.ow hr20;simp only at hst;generalize hgp:kc0 T nl.rs asw (ze8 T nl.bn Hw)=pr at hst hsm hr2;obtain ⟨as1,Hf⟩:=pr;simp only at hr2 hst;generalize kb9 T nl.ow as1 Hf=aS at hst hr2;obtain ⟨as2,H2,S2,hK,hsm2,hv2⟩:=yq4 nl.z hst hsm hr2;unfold gn2 at hK;split at hK<;>try (cases hK;done)
 rename_i y1 l1 h1;split at hK<;>try (cases hK;done)
 rename_i z l2 h2;split at hK<;>try (cases hK;done)
 rename_i hn;simp only [X0] at hK;subst hK;exact ⟨_,hr1,us,va7 (st:=⟨[],H2⟩) hpost h1 h2 hn hsm2 hv2,rfl⟩
def qc4 {C:Ctx T} {f:FuncId} {fn:Func} {c:Code} {cuts:List (Pos×Cut)} {ps rs:List Sh} {nl:Nl} {post:List PE} {g:zf1 T ps->Option (zq1 T post×zf1 T rs)} (hm:P.follows .mixedOrders=true) (hE:zb2 T P C.E)
  (hf:P.funcs[f]?=some fn) (hb:fn.body=some c) (hs:Nat.ble ps.length fn.ntmps=true) (hpin:Nat.ble (zb1 ps) C.pin=true) (hpost:Nat.beq post.length (zb1 ps)=true)
  (hg: ∀x y,g x=some y-> ∃m,gk5 T P C cuts fn c nl ps post rs m x=some y):GOk T P f ⟨ps,post,rs,g⟩:=by
 intro x y hy w S φ hsim vs hvs hoks;obtain ⟨N,hN⟩:=hg x y hy;have hpost:=X1 hpost;have hall:(zc6 T id ps x 0).length=ps.length:=by
  have: ∀(l:List Sh) (x:zf1 T l) (k:Nat),(zc6 T id l x k).length=l.length:=by
   intro l;induction l with
   |nil=>intro x k;rfl
   |cons s r ih=>intro x k;exact congrArg (· +1) (ih x.2 _)
  exact this ps x 0
 have hlen:vs.length=ps.length:=by rw [<-hvs.len T];exact hall
 have hsz:vs.length<=fn.ntmps:=by rw [hlen];exact Y1 hs
 have hfr:Fr fn.ntmps [] (je2 vs 0) {tmps:=vs.toArray++Array.replicate (fn.ntmps-vs.toArray.size) undef,defers:= []}:=by
  refine ⟨by simp;omega,rfl,fun i v hv=>?_⟩;obtain ⟨_,h2⟩:=yc9 vs 0 i v hv;simp only [J5] at h2;have hi:=(X2.1 h2).1;refine ⟨?_,by omega⟩;rw [Y7,Array.getElem?_append_left (by simpa using hi)];simp [h2]
 have hstart:=hsim.slots hvs hoks;have hpin':((List.range (zb1 ps)).map φ).length<=C.pin:=by simpa using Y1 hpin
 have key: ∀st,yf7 T P fn nl post rs st=some y-> ∀F1 w1,zc1 T w ⟨zc4 φ (zb1 ps),S,(List.range (zb1 ps)).map φ⟩ st F1 w1-> ∀a,Fr fn.ntmps [] F1 a-> ∃v,(results fn a.tmps).run P w1=.ok v w1/\
   ∃(F1:PF) (S1:List Nat) (φ1:Nat->RA) (us:List Value),Sim T w ⟨zc4 φ (zb1 ps),S,(List.range (zb1 ps)).map φ⟩ ⟨[],mkP T id post y.1 post.length++(yh5 T id post y.1 post.length++zg9 T id rs y.2 (post.length+ze0 post))⟩ F1 w1 S1 φ1/\
    VRL T w1 S1 φ1 (zc6 T id rs y.2 (post.length+ze0 post)) us/\v=zz7 us/\ ∀i∈u0 (zc6 T id rs y.2 (post.length+ze0 post)),i<post.length+(ze0 post+zb1 rs):=by
  intro st0 hst F1 w1 hsm0 a ha;obtain ⟨v,h1,us,⟨F2,S2,φ2,k1,k2,k3⟩,h3⟩:=yw0 hpost hst hsm0 ha;exact ⟨v,h1,F2,S2,φ2,us,k1,k2,h3,k3⟩
 have hKs:KsOk (bodyPost P fn fun e w'=>match e with
   | .returned v=> ∃(F1:PF) (S1:List Nat) (φ1:Nat->RA) (us:List Value),Sim T w ⟨zc4 φ (zb1 ps),S,(List.range (zb1 ps)).map φ⟩ ⟨[],mkP T id post y.1 post.length++(yh5 T id post y.1 post.length++zg9 T id rs y.2 (post.length+ze0 post))⟩ F1 w' S1 φ1/\
    VRL T w' S1 φ1 (zc6 T id rs y.2 (post.length+ze0 post)) us/\v=zz7 us/\ ∀i∈u0 (zc6 T id rs y.2 (post.length+ze0 post)),i<post.length+(ze0 post+zb1 rs)
   |_=>False) fn.ntmps [] w ⟨zc4 φ (zb1 ps),S,(List.range (zb1 ps)).map φ⟩ y (jd4 T P fn nl post rs):=by
  refine ⟨?_,fun i st h=>(by cases h),?_,fun a st h=>(by cases h)⟩
  ·intro st hst F1 w1 hs1 a ha;obtain ⟨v,h1,h2⟩:=key st hst F1 w1 hs1 a ha;exact ⟨ha.defers,v,h1,h2⟩
  ·intro st hst F1 w1 hs1 a ha;obtain ⟨v,h1,h2⟩:=key st hst F1 w1 hs1 a ha;exact ⟨ha.defers,v,h1,h2⟩
 exact calls_of_wp hf hb (zf2 hm hpin' hE c [] _ _ _ _ w hN hKs (JOk.run hm hpin' hE hKs N) ⟨S,φ,hstart⟩ _ hfr)
def j8 (f):zb8 T P f (k9 T)/\zq0 T P f (k9 T)/\yp6 (k9 T):=
 ⟨fun _ _ _ _ _ h=>(by cases h),fun _ _ _ _ h=>(by cases h),fun _ _ _ _ _ h=>(by cases h)⟩
def q8 {f a} (h:jy2 T P f a):zb8 T P f a.toCall/\zq0 T P f a.toCall/\yp6 a.toCall:=⟨jx9 h,vu8 h,gb4 a⟩
def q7 {f b a} (h:GOk T P f b) (c:zb8 T P f a/\zq0 T P f a/\yp6 a):zb8 T P f (b.toCall a)/\zq0 T P f (b.toCall a)/\yp6 (b.toCall a):=⟨qi9 h c.1,c.2.1,wb3 c.2.2⟩
def za0 {f cs E} (h:zb8 T P f cs/\zq0 T P f cs/\yp6 cs) (c:zb2 T P E):zb2 T P ((f,cs)::E):=by
 intro g b a;unfold qc3 at a;split at a
 ·rename_i d;have:=X1 d;subst this;simp only [X0] at a;subst a;exact h
 ·exact c g b a
end
end Go.X
