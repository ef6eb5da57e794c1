import Derived.Test.YtbanjakljpjknaaGreatA8
set_option linter.defProp false
namespace Go.X
open Go.RowKit Go.V
inductive Sh where
 |val (t:Ty)
 |row (e:TypeId) (t:Ty)
 |slr (e:TypeId) (t:Ty)
 |ptr (o:Nat) (e:TypeId) (cs:List Sh)
 |slb (sz n:Nat) (e:TypeId) (cs:List Sh)
 |at_ (i o:Nat)
 |own (i:Nat)
 |part (i sz:Nat)
 |fn (f:FuncId) (a b:List Sh)
 |agg (cs:List Sh)
 |ifc (t:TypeId) (s:Sh)
 |nils
 |nilp
 |arr (t:Ty) (n:Nat)
 |lp (e:Ty) (o:Nat)
 |asp (i o sz n:Nat)
 |asn (e:TypeId) (cs:List Sh) (o sz n:Nat)
 |asq (e:TypeId) (cs:List Sh) (o sz n lo m:Nat)
 |ap (i o sz n c:Nat)
 |mp (k:IntKind) (keys:List Int) (cs:List Sh)
 |mpo (i:Nat)
 |rw (n:Nat)
 |lpk (e:Ty) (k o:Nat)
 |tm (k:IntKind) (t:Ty)
 |dr (e:TypeId) (d:Nat) (fe:List TypeId)
 |pm (k:IntKind) (be:TypeId) (d:Nat)
 |lit (k:IntKind) (x:Int)
 |gm
 |gmo (i:Nat)
section
variable (T:Tab)
mutual
def Sh.den:Sh->Type
 | .val t=>den T.U t
 | .row _ t=>List (den T.U t)
 | .slr _ t=>List (den T.U t)×Nat×Nat
 | .ptr _ _ cs=>ze8 cs
 | .slb _ _ _ cs=>ze8 cs
 | .at_ _ _=>Unit
 | .own _=>Unit
 | .part _ _=>Nat×Nat
 | .fn _ a b=>ze8 a×ze8 b
 | .agg cs=>ze8 cs
 | .ifc _ s=>s.den
 | .nils=>Unit
 | .nilp=>Unit
 | .lit _ _=>Unit
 | .arr t _=>List (den T.U t)
 | .lp e _=>List (den T.U e)×Nat
 | .asp _ _ _ _=>Nat×Nat
 | .asn _ cs _ _ _=>ze8 cs×Nat×Nat
 | .asq _ cs _ _ _ _ _=>ze8 cs
 | .ap _ _ _ _ _=>Nat
 | .mp _ _ cs=>ze8 cs
 | .mpo _=>Unit
 | .rw _=>Unit
 | .lpk e _ _=>List (den T.U e)
 | .tm _ t=>List (Int×den T.U t)
 | .dr _ d _=>List (T.U d)
 | .pm _ _ d=>List (Int×T.U d)
 | .gm=>Unit
 | .gmo _=>Unit
def ze8:List Sh->Type
 | []=>Unit
 |s::r=>s.den×ze8 r
end
mutual
def Sh.cnt:Sh->Nat
 | .row _ _=>1
 | .slr _ _=>1
 | .ptr _ _ cs=>1+zb9 cs
 | .slb _ _ _ cs=>1+zb9 cs
 | .fn _ a b=>zb9 a+zb9 b
 | .agg cs=>zb9 cs
 | .ifc _ s=>s.cnt
 | .asn _ cs _ _ _=>1+zb9 cs
 | .asq _ cs _ _ _ _ _=>1+zb9 cs
 | .mp _ _ cs=>1+zb9 cs
 | .tm _ _=>1
 | .dr _ _ _=>1
 | .pm _ _ _=>1
 | .gm=>1
 |_=>0
def zb9:List Sh->Nat
 | []=>0
 |s::r=>s.cnt+zb9 r
end
def rawV:Nat->Value
 |0=>.nilFunc
 |1=>.nilIface
 |2=>.map none
 |_=>.pointer none
def yj8 {U:Nat->Type}:List Int->List (AV U)->List (Int×AV U)
 |x::r,a::s=>(x,a)::yj8 r s
 |_,_=> []
mutual
def mkA (σ:Nat->Nat):(s:Sh)->s.den T->Nat->AV T.U
 | .val t,x,_=>zp6 T t x
 | .row _ _,_,k=>.own (σ k)
 | .slr _ t,x,k=>.sl (σ k) (szT T t) x.2.1 x.2.2
 | .ptr o _ _,_,k=>.ptr (σ k) o
 | .slb sz n _ _,_,k=>.sl (σ k) sz 0 n
 | .at_ i o,_,_=>.ptr (σ i) o
 | .own i,_,_=>.own (σ i)
 | .part i sz,x,_=>.sl (σ i) sz x.1 x.2
 | .fn f a b,x,k=>.fn (.func f) (zd0 σ a x.1 k) (zd0 σ b x.2 (k+zb9 a))
 | .agg cs,x,k=>.agg (zd0 σ cs x k)
 | .ifc t s,x,k=>.ifc t (mkA σ s x k)
 | .nils,_,_=>.raw (.slice none 0 0)
 | .nilp,_,_=>.raw (.pointer none)
 | .lit k x,_,_=>.cell ⟨.int k,x⟩
 | .arr t n,x,_=>.arr t n x
 | .lp e o,x,_=>.lptr e x.1 x.2 o
 | .asp i o sz n,x,_=>.asl (σ i) o sz n x.1 x.2
 | .asn _ _ o sz n,x,k=>.asl (σ k) o sz n x.2.1 x.2.2
 | .asq _ _ o sz n lo m,_,k=>.asl (σ k) o sz n lo m
 | .ap i o sz n c,x,_=>.aptr (σ i) o sz n x c
 | .mp _ _ _,_,k=>.mp (σ k)
 | .mpo i,_,_=>.mp (σ i)
 | .rw n,_,_=>.raw (rawV n)
 | .lpk e k o,x,_=>.lptr e x k o
 | .tm _ _,_,k=>.mp (σ k)
 | .dr _ _ _,_,k=>.own (σ k)
 | .pm _ _ _,_,k=>.mp (σ k)
 | .gm,_,k=>.hmp (σ k)
 | .gmo i,_,_=>.hmp (σ i)
def zd0 (a:Nat->Nat):(l:List Sh)->ze8 T l->Nat->List (AV T.U)
 | [],_,_=> []
 |s::r,x,k=>mkA a s x.1 k::zd0 a r x.2 (k+s.cnt)
end
mutual
def mkE (σ:Nat->Nat):(s:Sh)->s.den T->Nat->List (Ent T.U)
 | .row e t,x,_=> [.row e t x]
 | .slr e t,x,_=> [.row e t x.1]
 | .ptr _ e cs,x,k=>.blk e (zd0 T σ cs x (k+1))::zh8 σ cs x (k+1)
 | .slb _ _ e cs,x,k=>.blk e (zd0 T σ cs x (k+1))::zh8 σ cs x (k+1)
 | .fn _ a b,x,k=>zh8 σ a x.1 k++zh8 σ b x.2 (k+zb9 a)
 | .agg cs,x,k=>zh8 σ cs x k
 | .ifc _ s,x,k=>mkE σ s x k
 | .val _,_,_=> []
 | .at_ _ _,_,_=> []
 | .own _,_,_=> []
 | .part _ _,_,_=> []
 | .nils,_,_=> []
 | .nilp,_,_=> []
 | .lit _ _,_,_=> []
 | .arr _ _,_,_=> []
 | .lp _ _,_,_=> []
 | .asp _ _ _ _,_,_=> []
 | .asn e cs _ _ _,x,k=>.blk e (zd0 T σ cs x.1 (k+1))::zh8 σ cs x.1 (k+1)
 | .asq e cs _ _ _ _ _,x,k=>.blk e (zd0 T σ cs x (k+1))::zh8 σ cs x (k+1)
 | .ap _ _ _ _ _,_,_=> []
 | .mp kd keys cs,x,k=>.map kd (yj8 keys (zd0 T σ cs x (k+1)))::zh8 σ cs x (k+1)
 | .mpo _,_,_=> []
 | .rw _,_,_=> []
 | .lpk _ _ _,_,_=> []
 | .tm kd t,x,_=> [.tmap kd t x]
 | .dr e d fe,x,_=> [.drow e d fe x none]
 | .pm k be d,x,_=> [.pmap k be d x none]
 | .gm,_,_=> [.hid]
 | .gmo _,_,_=> []
def zh8 (a:Nat->Nat):(l:List Sh)->ze8 T l->Nat->List (Ent T.U)
 | [],_,_=> []
 |s::r,x,k=>mkE a s x.1 k++zh8 a r x.2 (k+s.cnt)
end
abbrev Src:=List (Option Nat)
def qs8 (H:List (Ent T.U)) (e:TypeId) (t:Ty) (i:Nat):Option (List (den T.U t)):=
 match H[i]? with
 |some (.row a b xs)=>match Nat.beq a e with|true=>(if h:b=t then some (h▸xs) else none)|false=>none
 |_=>none
def qc1 (H:List (Ent T.U)) (e:TypeId) (i:Nat):Option (List (AV T.U)):=
 match H[i]? with
 |some (.blk a cs)=>match Nat.beq a e with|true=>some cs|false=>none
 |_=>none
def ym1 (l:Src) (p i:Nat):Bool:=match l[p]? with|some (some j)=>Nat.beq j i|_=>false
def qq7 {α a b:Type} (f:α->a):Option (α×b)->Option (a×b)
 |some (x,l)=>some (f x,l)
 |none=>none
def wb2 {U:Nat->Type}:AV U->Option Nat| .own i=>some i|_=>none
def slI {U:Nat->Type}:AV U->Option (Nat×Nat×Nat×Nat)| .sl i sz o n=>some (i,sz,o,n)|_=>none
def wm6 {U:Nat->Type}:AV U->Option (Nat×Nat)| .ptr i o=>some (i,o)|_=>none
def fnI {U:Nat->Type}:AV U->Option (FuncId×List (AV U)×List (AV U))| .fn (.func f) a b=>some (f,a,b)|_=>none
def aggI {U:Nat->Type}:AV U->Option (List (AV U))| .agg cs=>some cs|_=>none
def ifcI {U:Nat->Type}:AV U->Option (TypeId×AV U)| .ifc t a=>some (t,a)|_=>none
def gr3 {U:Nat->Type}:AV U->Bool| .raw (.slice none 0 0)=>true|_=>false
def gq3 {U:Nat->Type} (t:Ty) (n:Nat):AV U->Option (List (den U t))
 | .arr a b xs=>match Nat.beq b n with|true=>(if h:a=t then some (h▸xs) else none)|false=>none
 |_=>none
def lpI {U:Nat->Type} (e:Ty) (o:Nat):AV U->Option (List (den U e)×Nat)
 | .lptr a xs k o'=>match Nat.beq o' o with|true=>(if h:a=e then some (h▸xs,k) else none)|false=>none
 |_=>none
def gv4 {U:Nat->Type}:AV U->Option (Nat×Nat×Nat×Nat×Nat×Nat)| .asl i o sz n a m=>some (i,o,sz,n,a,m)|_=>none
def gq0 {U:Nat->Type}:AV U->Option (Nat×Nat×Nat×Nat×Nat×Nat)| .aptr i o sz n k c=>some (i,o,sz,n,k,c)|_=>none
def mpI {U:Nat->Type}:AV U->Option Nat| .mp i=>some i|_=>none
def rawI {U:Nat->Type} (n:Nat):AV U->Bool
 | .raw .nilFunc=>Nat.beq n 0
 | .raw .nilIface=>Nat.beq n 1
 | .raw (.map none)=>Nat.beq n 2
 |_=>false
def qp4 {U:Nat->Type}:List Int->List (Int×AV U)->Bool
 | [],[]=>true
 |x::r,(y,_)::s=>match wj8 x y with|true=>qp4 r s|false=>false
 |_,_=>false
def km0 (H:List (Ent T.U)) (k:IntKind) (a:List Int) (i:Nat):Option (List (AV T.U)):=
 match H[i]? with
 |some (.map b es)=>match zf9 b k&&qp4 a es with|true=>some (es.map Prod.snd)|false=>none
 |_=>none
def uf3 (H:List (Ent T.U)) (k:IntKind) (t:Ty) (i:Nat):Option (List (Int×den T.U t)):=
 match H[i]? with
 |some (.tmap a b xs)=>match zf9 a k with|true=>(if h:b=t then some (h▸xs) else none)|false=>none
 |_=>none
def wj6 (H:List (Ent T.U)) (e:TypeId) (d:Nat) (fe:List TypeId) (i:Nat):Option (List (T.U d)):=
 match H[i]? with
 |some (.drow b c a xs none)=>match Nat.beq b e with|true=>(if h:c=d then (if a=fe then some (h▸xs) else none) else none)|false=>none
 |_=>none
def wm4 (H:List (Ent T.U)) (k:IntKind) (b:TypeId) (d:Nat) (i:Nat):Option (List (Int×T.U d)):=
 match H[i]? with
 |some (.pmap c a e xs none)=>match zf9 c k&&Nat.beq a b with|true=>(if h:e=d then some (h▸xs) else none)|false=>none
 |_=>none
def kl4 (H:List (Ent T.U)) (i:Nat):Bool:=match H[i]? with|some .hid=>true|_=>false
def wk2 {U:Nat->Type}:AV U->Option Nat| .hmp i=>some i|_=>none
def litI {U:Nat->Type} (k:IntKind) (x:Int):AV U->Bool| .cell ⟨.int a,y⟩=>zf9 a k&&wj8 y x|_=>false
def gr2 {U:Nat->Type}:AV U->Bool| .raw (.pointer none)=>true|_=>false
mutual
def rdS (H:List (Ent T.U)):(s:Sh)->AV T.U->Src->Option (s.den T×Src)
 | .val t,a,l=>match qa5 T t a with|some x=>some (x,l)|none=>none
 | .row e t,a,l=>match wb2 a with
  |some i=>(match qs8 T H e t i with|some xs=>some (xs,l++ [some i])|none=>none)
  |none=>none
 | .slr e t,a,l=>match slI a with
  |some (i,sz,o,n)=>(match qs8 T H e t i with|some xs=>(match Nat.beq sz (szT T t) with|true=>some ((xs,o,n),l++ [some i])|false=>none)|none=>none)
  |none=>none
 | .ptr o e cs,a,l=>match wm6 a with
  |some (i,o')=>(match qc1 T H e i with|some aS=>(match Nat.beq o' o with|true=>zq2 H cs aS (l++ [some i])|false=>none)|none=>none)
  |none=>none
 | .slb sz n e cs,a,l=>match slI a with
  |some (i,sz',o,n')=>(match qc1 T H e i with|some aS=>(match Nat.beq sz' sz&&(Nat.beq n' n&&Nat.beq o 0) with|true=>zq2 H cs aS (l++ [some i])|false=>none)|none=>none)
  |none=>none
 | .at_ p o,a,l=>match wm6 a with
  |some (i,o')=>(match Nat.beq o' o&&ym1 l p i with|true=>some ((),l)|false=>none)
  |none=>none
 | .own p,a,l=>match wb2 a with
  |some i=>(match ym1 l p i with|true=>some ((),l)|false=>none)
  |none=>none
 | .part p sz,a,l=>match slI a with
  |some (i,sz',o,n)=>(match Nat.beq sz' sz&&ym1 l p i with|true=>some ((o,n),l)|false=>none)
  |none=>none
 | .fn f a b,c,l=>match fnI c with
  |some (f',aS,bs)=>(match zq2 H a aS l with
   |some (x,l1)=>(match Nat.beq f' f with|true=>qq7 (fun y=>(x,y)) (zq2 H b bs l1)|false=>none)
   |none=>none)
  |none=>none
 | .agg cs,a,l=>match aggI a with|some aS=>zq2 H cs aS l|none=>none
 | .ifc t s,a,l=>match ifcI a with
  |some (t',b)=>(match Nat.beq t' t with|true=>rdS H s b l|false=>none)
  |none=>none
 | .nils,a,l=>match gr3 a with|true=>some ((),l)|false=>none
 | .nilp,a,l=>match gr2 a with|true=>some ((),l)|false=>none
 | .lit k x,a,l=>match litI k x a with|true=>some ((),l)|false=>none
 | .arr t n,a,l=>match gq3 t n a with|some xs=>some (xs,l)|none=>none
 | .lp e o,a,l=>match lpI e o a with|some x=>some (x,l)|none=>none
 | .asp p o sz n,a,l=>match gv4 a with
  |some (i,o',sz',n',lo,m)=>(match ym1 l p i&&(Nat.beq o' o&&(Nat.beq sz' sz&&Nat.beq n' n)) with|true=>some ((lo,m),l)|false=>none)
  |none=>none
 | .asn e cs o sz n,a,l=>match gv4 a with
  |some (i,o',sz',n',lo,m)=>(match qc1 T H e i with|some aS=>(match Nat.beq o' o&&(Nat.beq sz' sz&&Nat.beq n' n) with|true=>qq7 (fun x=>(x,lo,m)) (zq2 H cs aS (l++ [some i]))|false=>none)|none=>none)
  |none=>none
 | .asq e cs o sz n lo m,a,l=>match gv4 a with
  |some (i,o',sz',n',lo',m')=>(match qc1 T H e i with|some aS=>(match Nat.beq o' o&&(Nat.beq sz' sz&&(Nat.beq n' n&&(Nat.beq lo' lo&&Nat.beq m' m))) with|true=>zq2 H cs aS (l++ [some i])|false=>none)|none=>none)
  |none=>none
 | .ap p o sz n c,a,l=>match gq0 a with
  |some (i,o',sz',n',k,c')=>(match ym1 l p i&&(Nat.beq o' o&&(Nat.beq sz' sz&&(Nat.beq n' n&&Nat.beq c' c))) with|true=>some (k,l)|false=>none)
  |none=>none
 | .mp kd keys cs,a,l=>match mpI a with
  |some i=>(match km0 T H kd keys i with|some aS=>zq2 H cs aS (l++ [some i])|none=>none)
  |none=>none
 | .mpo p,a,l=>match mpI a with
  |some i=>(match ym1 l p i with|true=>some ((),l)|false=>none)
  |none=>none
 | .rw n,a,l=>match rawI n a with|true=>some ((),l)|false=>none
 | .lpk e k o,a,l=>match lpI e o a with|some x=>(match Nat.beq x.2 k with|true=>some (x.1,l)|false=>none)|none=>none
 | .tm kd t,a,l=>match mpI a with
  |some i=>(match uf3 T H kd t i with|some xs=>some (xs,l++ [some i])|none=>none)
  |none=>none
 | .dr e d fe,a,l=>match wb2 a with
  |some i=>(match wj6 T H e d fe i with|some xs=>some (xs,l++ [some i])|none=>none)
  |none=>none
 | .pm k be d,a,l=>match mpI a with
  |some i=>(match wm4 T H k be d i with|some xs=>some (xs,l++ [some i])|none=>none)
  |none=>none
 | .gm,a,l=>match wk2 a with
  |some i=>(match kl4 T H i with|true=>some ((),l++ [some i])|false=>none)
  |none=>none
 | .gmo p,a,l=>match wk2 a with
  |some i=>(match ym1 l p i with|true=>some ((),l)|false=>none)
  |none=>none
def zq2 (H:List (Ent T.U)):(ss:List Sh)->List (AV T.U)->Src->Option (ze8 T ss×Src)
 | [],aS,l=>match aS with| []=>some ((),l)|_::_=>none
 |s::r,aS,l=>match aS with
  |a::aS=>(match rdS H s a l with|some (x,l1)=>qq7 (fun y=>(x,y)) (zq2 H r aS l1)|none=>none)
  | []=>none
end
inductive PE where
 |gone
 |row (e:TypeId) (t:Ty)
 |blk (e:TypeId) (cs:List Sh)
 |map (k:IntKind) (keys:List Int) (cs:List Sh)
 |tmap (k:IntKind) (t:Ty)
 |dr (e:TypeId) (d:Nat) (fe:List TypeId)
 |pm (k:IntKind) (be:TypeId) (d:Nat)
 |gm
def PE.den:PE->Type
 | .gone=>Unit
 | .row _ t=>List (Go.X.den T.U t)
 | .blk _ cs=>ze8 T cs
 | .map _ _ cs=>ze8 T cs
 | .tmap _ t=>List (Int×Go.X.den T.U t)
 | .dr _ d _=>List (T.U d)
 | .pm _ _ d=>List (Int×T.U d)
 | .gm=>Unit
def zn9:List PE->Type
 | []=>Unit
 |p::r=>p.den T×zn9 r
def PE.cnt:PE->Nat| .blk _ cs=>zb9 cs| .map _ _ cs=>zb9 cs|_=>0
def zf5:List PE->Nat
 | []=>0
 |p::r=>p.cnt+zf5 r
def zp5:List PE->Nat->Src
 | [],_=> []
 | .gone::r,j=>none::zp5 r (j+1)
 |_::r,j=>some j::zp5 r (j+1)
def wa6 (c:Nat->Nat):(p:PE)->p.den T->Nat->Ent T.U
 | .gone,_,_=>.gone
 | .row e t,x,_=>.row e t x
 | .blk e cs,x,k=>.blk e (zd0 T c cs x k)
 | .map b a cs,x,k=>.map b (yj8 a (zd0 T c cs x k))
 | .tmap b t,x,_=>.tmap b t x
 | .dr e d fe,x,_=>.drow e d fe x none
 | .pm k f d,x,_=>.pmap k f d x none
 | .gm,_,_=>.hid
def km1 (a:Nat->Nat):(p:PE)->p.den T->Nat->List (Ent T.U)
 | .blk _ cs,x,k=>zh8 T a cs x k
 | .map _ _ cs,x,k=>zh8 T a cs x k
 | .gone,_,_=> []
 | .row _ _,_,_=> []
 | .tmap _ _,_,_=> []
 | .dr _ _ _,_,_=> []
 | .pm _ _ _,_,_=> []
 | .gm,_,_=> []
def mkP (a:Nat->Nat):(ps:List PE)->zn9 T ps->Nat->List (Ent T.U)
 | [],_,_=> []
 |p::r,x,k=>wa6 T a p x.1 k::mkP a r x.2 (k+p.cnt)
def yc8 (a:Nat->Nat):(ps:List PE)->zn9 T ps->Nat->List (Ent T.U)
 | [],_,_=> []
 |p::r,x,k=>km1 T a p x.1 k++yc8 a r x.2 (k+p.cnt)
def vk0 (H:List (Ent T.U)) (j:Nat):(p:PE)->Src->Option (p.den T×Src)
 | .gone,l=>some ((),l)
 | .row e t,l=>match qs8 T H e t j with|some xs=>some (xs,l)|none=>none
 | .blk e cs,l=>match qc1 T H e j with|some aS=>zq2 T H cs aS l|none=>none
 | .map kd keys cs,l=>match km0 T H kd keys j with|some aS=>zq2 T H cs aS l|none=>none
 | .tmap kd t,l=>match uf3 T H kd t j with|some xs=>some (xs,l)|none=>none
 | .dr e d fe,l=>match wj6 T H e d fe j with|some xs=>some (xs,l)|none=>none
 | .pm k be d,l=>match wm4 T H k be d j with|some xs=>some (xs,l)|none=>none
 | .gm,l=>match kl4 T H j with|true=>some ((),l)|false=>none
def rdP (H:List (Ent T.U)):(ps:List PE)->Nat->Src->Option (zn9 T ps×Src)
 | [],_,l=>some ((),l)
 |p::r,j,l=>match vk0 T H j p l with|some (x,a)=>qq7 (fun y=>(x,y)) (rdP H r (j+1) a)|none=>none
def zj3 (H:List (Ent T.U)) (ρ:Nat->Nat):Src->List (Ent T.U)
 | []=> []
 |some i::r=>(match H[i]? with|some e=>e.ren ρ|none=>.gone)::zj3 H ρ r
 |none::r=>.gone::zj3 H ρ r
def yv3 (i:Nat):Src->Nat
 | []=>0
 |some j::r=>match Nat.beq j i with|true=>0|false=>yv3 i r+1
 |none::r=>yv3 i r+1
def qx8 (i:Nat):Src->Bool| []=>false|some j::r=>(match Nat.beq j i with|true=>true|false=>qx8 i r)|none::r=>qx8 i r
def zn2:Src->Bool| []=>true|some i::r=> !qx8 i r&&zn2 r|none::r=>zn2 r
end
section
variable {T:Tab}
def yg6 {i}: ∀ {l},qx8 i l=true↔some i∈l
 | []=>by simp [qx8]
 |none::r=>by simp [qx8,yg6 (l:=r)]
 |some j::r=>by
  unfold qx8;split
  ·rename_i h;have:=X1 h;subst this;simp
  ·rename_i h;rw [yg6 (l:=r)];have:j≠i:=fun e=>by subst e;simp at h
   simp [Ne.symm this]
def yi9: ∀ {l},zn2 l=true-> ∀ {a b x:Nat},l[a]?=some (some x)->l[b]?=some (some x)->a=b
 | [],_,_,_,_,h,_=>by simp at h
 |none::r,d,a,b,x,e,f=>by
  unfold zn2 at d;cases a with
  |zero=>simp at e
  |succ a=>
   cases b with
   |zero=>simp at f
   |succ b=>have:=yi9 d (a:=a) (b:=b) (by simpa using e) (by simpa using f);omega
 |some j::r,d,a,b,x,e,f=>by
  unfold zn2 at d;simp only [X3,V7] at d;have g: ∀ {c:Nat},r[c]?=some (some j)->False:=fun i=>by
   have:=yg6.2 (X6 i);rw [d.1] at this;cases this
  cases a with
  |zero=>
   simp at e;subst e;cases b with
   |zero=>rfl
   |succ b=>exact (g (by simpa using f)).elim
  |succ a=>
   cases b with
   |zero=>simp at f;subst f;exact (g (by simpa using e)).elim
   |succ b=>have:=yi9 d.2 (a:=a) (b:=b) (by simpa using e) (by simpa using f);omega
def zm7 {i}: ∀ {l},some i∈l->l[yv3 i l]?=some (some i)
 | [],h=>by cases h
 |none::r,h=>by
  have h:some i∈r:=by simpa using h
  show (none::r)[yv3 i r+1]?=_;simpa using zm7 h
 |some j::r,h=>by
  unfold yv3;split
  ·rename_i a;have:=X1 a;subst this;rfl
  ·rename_i a;rcases Z0.1 h with h|h
   ·cases h;simp at a
   ·simpa using zm7 h
def Places (ρ:Nat->Nat) (l:Src):Prop:= ∀(p i:Nat),l[p]?=some (some i)->ρ i=p
def Places.pre {ρ l m} (h:Places ρ (l++m)):Places ρ l:=fun p i a=>h p i (by
 rw [X8 (X2.1 a).1];exact a)
def yj1 {l} (h:zn2 l=true):Places (fun i=>yv3 i l) l:=fun p i a=>yi9 h (zm7 (X6 a)) a
def zz8 {H:List (Ent T.U)} {e:TypeId} {t:Ty} {i:Nat} {xs:List (den T.U t)} (h:qs8 T H e t i=some xs):H[i]?=some (.row e t xs):=by
 unfold qs8 at h;split at h
 ·rename_i e' t' ys hi;split at h
  ·rename_i hb;have:=X1 hb;subst this
   grind
  ·cases h
 ·cases h
def qj5 {H:List (Ent T.U)} {k:IntKind} {t:Ty} {i:Nat} {xs:List (Int×den T.U t)} (h:uf3 T H k t i=some xs):H[i]?=some (.tmap k t xs):=by
 unfold uf3 at h;split at h
 ·rename_i k' t' ys hi;split at h
  ·rename_i hb;have:=zb6 hb;subst this
   grind
  ·cases h
 ·cases h
def qg8 {H:List (Ent T.U)} {k:IntKind} {be:TypeId} {d:Nat} {i:Nat} {xs:List (Int×T.U d)} (h:wm4 T H k be d i=some xs):H[i]?=some (.pmap k be d xs none):=by
 unfold wm4 at h;split at h
 ·rename_i k' be' d' ys hi;split at h
  ·rename_i hb;rw [X3] at hb;have:=zb6 hb.1;subst this;have:=X1 hb.2;subst this
   grind
  ·cases h
 ·cases h
def je6 {H:List (Ent T.U)} {e:TypeId} {d:Nat} {fe:List TypeId} {i:Nat} {xs:List (T.U d)} (h:wj6 T H e d fe i=some xs):H[i]?=some (.drow e d fe xs none):=by
 unfold wj6 at h;split at h
 ·rename_i e' d' fe' ys hi;split at h
  ·rename_i hb;have:=X1 hb;subst this
   grind
  ·cases h
 ·cases h
def zr2 {H:List (Ent T.U)} {e:TypeId} {i:Nat} {cs:List (AV T.U)} (h:qc1 T H e i=some cs):H[i]?=some (.blk e cs):=by
 unfold qc1 at h;split at h
 ·rename_i e' cs' hi;split at h
  ·rename_i hb;have:=X1 hb;subst this
   grind
  ·cases h
 ·cases h
def jp4 {H:List (Ent T.U)} {k:IntKind} {keys:List Int} {i:Nat} {aS:List (AV T.U)} (h:km0 T H k keys i=some aS):H[i]?=some (.map k (yj8 keys aS)):=by
 unfold km0 at h;split at h
 ·rename_i k' es hi;split at h
  ·rename_i hb;rw [X3] at hb;have:=zb6 hb.1;subst this;simp only [X0] at h;subst h;rw [hi];have key: ∀(keys:List Int) (es:List (Int×AV T.U)),qp4 keys es=true->es=yj8 keys (es.map Prod.snd):=by
    intro keys;induction keys with
    |nil=>intro es h;cases es with|nil=>rfl|cons _ _=>cases h
    |cons x r ih=>
     intro es h
     match es,h with
     |(y,a)::s,h=>
      unfold qp4 at h;split at h
      ·rename_i he;have:x=y:=by simpa [wj8] using he
       subst this;rw [U0,yj8,<-ih s h]
      ·cases h
   rw [<-key keys es hb.2]
  ·cases h
 ·cases h
def zg8 {l p i} (h:ym1 l p i=true):l[p]?=some (some i):=by
 unfold ym1 at h;split at h
 ·rename_i j a;rw [X1 h] at a;exact a
 ·cases h
def zr5 (H ρ): ∀(l m),zf4 T H ρ (l++m)=zf4 T H ρ l++zf4 T H ρ m
 | [],_=>rfl
 |i::r,m=>by
  rw [M6,zf4,zf4];split
  ·rw [zr5 H ρ r m];rfl
  ·rw [zr5 H ρ r m];rfl
def zr7 {α β γ:Type} {f:α->β} {o:Option (α×γ)} {y:β} {l:γ} (h:qq7 f o=some (y,l)): ∃x,o=some (x,l)/\f x=y:=by
 unfold qq7 at h
 grind
structure RdOk (T:Tab) (H:List (Ent T.U)) (ids:List Nat) (l l':Src) (new:List Nat):Prop where
 eq:l'=l++new.map some
 ids: ∀j∈ids,some j∈l'
 ents: ∀i∈new,∃e,H[i]?=some e/\e.live=true/\ ∀j∈e.cellIds,some j∈l'
end
end Go.X
namespace Go.X
open Go.RowKit Go.V
section
variable {T:Tab}
def RdOk.nil {H ids l} (h: ∀j∈ids,some j∈l):RdOk T H ids l l []:=⟨by simp,h,by intro i a;cases a⟩
def RdOk.one {H l i e} (b:H[i]?=some e) (c:e.live=true) (d:e.cellIds= []):RdOk T H [i] l (l++ [some i]) [i]:=
 ⟨rfl,by intro j a;simp at a;subst a;simp,by intro j a;simp at a;subst a;exact ⟨e,b,c,by rw [d];intro j a;cases a⟩⟩
def RdOk.app {H:List (Ent T.U)} {i1 i2:List Nat} {l l1 l2:Src} {n1 n2:List Nat} (h1:RdOk T H i1 l l1 n1) (h2:RdOk T H i2 l1 l2 n2):RdOk T H (i1++i2) l l2 (n1++n2):=by
 have hsub: ∀j,some j∈l1->some j∈l2:=fun j hj=>by rw [h2.eq];exact X4.2 (.inl hj)
 refine ⟨by rw [h2.eq,h1.eq,V8,Q2],?_,?_⟩
 ·intro j hj;rcases X4.1 hj with hj|hj
  ·exact hsub j (h1.ids j hj)
  ·exact h2.ids j hj
 ·intro i hi;rcases X4.1 hi with hi|hi
  ·obtain ⟨e,a,b,c⟩:=h1.ents i hi
   grind
  ·exact h2.ents i hi
def RdOk.blk {H l l' i e cs b} (c:H[i]?=some (.blk e cs)) (h:RdOk T H (za1 cs) (l++ [some i]) l' b):RdOk T H [i] l l' (i::b):=by
 refine ⟨by rw [h.eq];simp,?_,?_⟩
 ·intro j a;simp at a;subst a;rw [h.eq];simp
 ·intro j a;rcases Z0.1 a with rfl|a
  ·exact ⟨_,c,rfl,h.ids⟩
  ·exact h.ents j a
def RdOk.map {H l l' i k a cs c} (d:H[i]?=some (.map k (yj8 a cs))) (e: ∀j∈idsM (yj8 a cs),j∈za1 cs) (h:RdOk T H (za1 cs) (l++ [some i]) l' c):RdOk T H [i] l l' (i::c):=by
 refine ⟨by rw [h.eq];simp,?_,?_⟩
 ·intro j b;simp at b;subst b;rw [h.eq];simp
 ·intro j b;rcases Z0.1 b with rfl|b
  ·exact ⟨_,d,rfl,fun j b=>h.ids j (e j b)⟩
  ·exact h.ents j b
def Places.last {ρ l m i} (h:Places ρ (l++ [some i]++m)):ρ i=l.length:=h l.length i (by simp)
def zf2 {H:List (Ent T.U)} {ρ:Nat->Nat} {i:Nat} {e:Ent T.U} (hi:H[i]?=some e) (r:List Nat):zf4 T H ρ (i::r)=e.ren ρ::zf4 T H ρ r:=by
 rw [zf4];split
 ·grind
 ·rename_i hn;rw [hi] at hn;cases hn
def vd7 (t x ρ):(zp6 T t x).ren ρ=zp6 T t x:=by
 cases t with
 |user i=>
  show (AV.agg _).ren ρ=_;rw [AV.ren];show AV.agg (zk5 ρ ((T.cells i x).map .cell))=AV.agg ((T.cells i x).map .cell);congr 1;induction T.cells i x with
  |nil=>rfl
  |cons c r a=>rw [U0,zk5,a,AV.ren]
 |int k=>exact AV.ren.eq_1 ..
 |bool=>exact AV.ren.eq_1 ..
 |str=>exact AV.ren.eq_1 ..
 |list e=>exact AV.ren.eq_1 ..
 |nl e=>exact AV.ren.eq_1 ..
def vu4 {t:Ty} {a:AV T.U} {x:den T.U t} (h:qa5 T t a=some x) (hn:a≠.raw (.slice none 0 0)):a=zp6 T t x:=by
 have one: ∀ {t:Ty} {c:Cell T.U} {x:den T.U t},(∀i,t≠.user i)->c.aS t=some x->AV.cell c=zp6 T t x:=by
  intro t c x hn h;have:=Cell.as_eq h;subst this;cases t<;>first|rfl|exact absurd rfl (hn _)
 cases t with
 |user i=>
  cases a<;>simp only [qa5,reduceCtorEq] at h;rename_i cs;split at h
  ·rename_i l hl;have:=T.packed _ _ _ h;rw [zt4 hl,<-this];rfl
  ·cases h
 |list e=>
  cases a with
  |cell c=>exact one (by intro i hi;cases hi) h
  |raw u=>
   cases u with
   |slice ad n c=>
    cases ad with
    |some _=>cases h
    |none=>
     cases n with
     |succ _=>cases h
     |zero=>
      cases c with
      |succ _=>cases h
      |zero=>exact absurd rfl hn
   |_=>cases h
  |_=>cases h
 |nl e=>
  cases a with
  |cell c=>exact one (by intro i hi;cases hi) h
  |raw u=>
   cases u with
   |slice ad n c=>
    cases ad with
    |some _=>cases h
    |none=>
     cases n with
     |succ _=>cases h
     |zero=>
      cases c with
      |succ _=>cases h
      |zero=>exact absurd rfl hn
   |_=>cases h
  |_=>cases h
 |int k=>cases a<;>first|(cases h;done)|exact one (by intro i hi;cases hi) h
 |bool=>cases a<;>first|(cases h;done)|exact one (by intro i hi;cases hi) h
 |str=>cases a<;>first|(cases h;done)|exact one (by intro i hi;cases hi) h
def Imp (T:Tab) (a b:AV T.U):Prop:=b.ids=a.ids/\(b=a\/(zb7 T a=true/\zb7 T b=true))/\ ∀(w:World) (S:List Nat) (φ:Nat->RA) (v:Value),VR T w S φ a v->VR T w S φ b v
inductive ImpL (T:Tab):List (AV T.U)->List (AV T.U)->Prop
 |nil:ImpL T [] []
 |cons {a b:AV T.U} {aS bs:List (AV T.U)}:Imp T a b->ImpL T aS bs->ImpL T (a::aS) (b::bs)
inductive ImpE (T:Tab):Ent T.U->Ent T.U->Prop
 |same (e:Ent T.U):ImpE T e e
 |blk {e:TypeId} {aS bs:List (AV T.U)}:ImpL T aS bs->ImpE T (.blk e aS) (.blk e bs)
 |map {k:IntKind} {keys:List Int} {aS bs:List (AV T.U)}:ImpL T aS bs->ImpE T (.map k (yj8 keys aS)) (.map k (yj8 keys bs))
inductive ImpH (T:Tab):List (Ent T.U)->List (Ent T.U)->Prop
 |nil:ImpH T [] []
 |cons {e f:Ent T.U} {es fs:List (Ent T.U)}:ImpE T e f->ImpH T es fs->ImpH T (e::es) (f::fs)
def Imp.refl (a):Imp T a a:=⟨rfl,.inl rfl,fun _ _ _ _ h=>h⟩
def Imp.of_eq {a b} (h:a=b):Imp T a b:=h▸.refl a
def ImpL.vrl {aS bs:List (AV T.U)} (h:ImpL T aS bs): ∀ {w:World} {S:List Nat} {φ:Nat->RA} {vs:List Value},VRL T w S φ aS vs->VRL T w S φ bs vs:=by
 induction h with
 |nil=>exact fun h=>h
 |cons h1 _ ih=>
  intro w S φ vs hv
  match vs,hv with
  |v::vs,hv=>exact ⟨h1.2.2 _ _ _ _ hv.1,ih hv.2⟩
def ImpL.ids {aS bs:List (AV T.U)} (h:ImpL T aS bs):za1 bs=za1 aS:=by
 induction h with
 |nil=>rfl
 |cons h1 _ ih=>rw [za1,za1,ih,h1.1]
def ImpL.agg {aS bs:List (AV T.U)} (h:ImpL T aS bs):Imp T (.agg aS) (.agg bs):=⟨by rw [AV.ids,AV.ids,h.ids],.inr ⟨rfl,rfl⟩,fun w S φ v hv=>by obtain ⟨vs,h1,h2⟩:=hv;exact ⟨vs,h1,h.vrl h2⟩⟩
def ImpL.fn {f:Fn} {aS bs aS' bs':List (AV T.U)} (h:ImpL T aS bs) (h':ImpL T aS' bs'):Imp T (.fn f aS aS') (.fn f bs bs'):=⟨by rw [AV.ids,AV.ids,h.ids,h'.ids],.inr ⟨rfl,rfl⟩,fun w S φ v hv=>by obtain ⟨va,vb,h1,h2,h3⟩:=hv;exact ⟨va,vb,h1,h.vrl h2,h'.vrl h3⟩⟩
def Imp.ifc {t a b} (h:Imp T a b):Imp T (.ifc t a) (.ifc t b):=⟨by rw [AV.ids,AV.ids,h.1],.inr ⟨rfl,rfl⟩,fun w S φ v c=>by obtain ⟨u,d,e⟩:=c;exact ⟨u,d,h.2.2 _ _ _ _ e⟩⟩
def ImpL.app {aS bs aS' bs':List (AV T.U)} (h:ImpL T aS bs) (h':ImpL T aS' bs'):ImpL T (aS++aS') (bs++bs'):=by
 induction h with
 |nil=>exact h'
 |cons h1 _ ih=>exact .cons h1 ih
def Imp.exp {a b} (h:Imp T a b):ImpL T (jo0 T a) (jo0 T b)/\(qc7 T a->qc7 T b):=by
 rcases h.2.1 with rfl|⟨d,c⟩
 ·refine ⟨?_,id⟩;generalize jo0 T b=l;induction l with
  |nil=>exact .nil
  |cons a r e=>exact .cons (.refl a) e
 ·rw [zq6 T d,zq6 T c];exact ⟨.cons h .nil,fun _=>ye6 T c⟩
def ImpL.exp {aS bs:List (AV T.U)} (h:ImpL T aS bs):ImpL T (zj2 T aS) (zj2 T bs)/\(yb1 T aS->yb1 T bs):=by
 induction h with
 |nil=>exact ⟨.nil,id⟩
 |cons h1 _ ih=>exact ⟨h1.exp.1.app ih.1,fun hl=>⟨h1.exp.2 hl.1,ih.2 hl.2⟩⟩
def ImpL.br {aS bs:List (AV T.U)} (h:ImpL T aS bs) {w:World} {S:List Nat} {φ:Nat->RA} {vs:List Value} (hb:BR T w S φ aS vs):BR T w S φ bs vs:=⟨h.exp.1.vrl hb.1,h.exp.2 hb.2⟩
def ImpL.mr {k:IntKind} {aS bs:List (AV T.U)} (h:ImpL T aS bs): ∀ {keys:List Int} {w:World} {S:List Nat} {φ:Nat->RA} {l:List MapEntry},MR T w S φ k (yj8 keys aS) l->MR T w S φ k (yj8 keys bs) l:=by
 induction h with
 |nil=>exact fun h=>h
 |cons h1 _ ih=>
  intro keys w S φ l hm
  match keys,l,hm with
  | [],_,hm=>exact hm
  |_::_,[],hm=>exact hm
  |x::r,e::l,hm=>exact ⟨hm.1,h1.2.2 _ _ _ _ hm.2.1,ih hm.2.2⟩
def ImpL.idsM {aS bs:List (AV T.U)} (h:ImpL T aS bs): ∀(keys:List Int),idsM (yj8 keys bs)=idsM (yj8 keys aS):=by
 induction h with
 |nil=>exact fun _=>rfl
 |cons h1 _ ih=>
  intro keys;cases keys with
  |nil=>rfl
  |cons x r=>rw [yj8,yj8,Go.X.idsM,Go.X.idsM,h1.1,ih r]
def jy2 {U:Nat->Type}: ∀(keys:List Int) (aS:List (AV U)),∀i∈idsM (yj8 keys aS),i∈za1 aS
 | [],_,i,hi=>by cases hi
 |_::_,[],i,hi=>by cases hi
 |x::r,a::s,i,hi=>by
  rcases X4.1 (show i∈a.ids++idsM (yj8 r s) from hi) with hi|hi
  ·exact X4.2 (.inl hi)
  ·exact X4.2 (.inr (jy2 r s i hi))
def yn9 {U:Nat->Type} (ρ:Nat->Nat): ∀(keys:List Int) (aS:List (AV U)),qn0 ρ (yj8 keys aS)=yj8 keys (zk5 ρ aS)
 | [],_=>rfl
 |_::_,[]=>rfl
 |x::r,a::s=>congrArg ((x,a.ren ρ):: ·) (yn9 ρ r s)
def ImpH.app {aS bs aS' bs':List (Ent T.U)} (h:ImpH T aS bs) (h':ImpH T aS' bs'):ImpH T (aS++aS') (bs++bs'):=by
 induction h with
 |nil=>exact h'
 |cons h1 _ ih=>exact .cons h1 ih
def ImpH.get {es b:List (Ent T.U)} (h:ImpH T es b): ∀ {i:Nat} {f:Ent T.U},b[i]?=some f-> ∃e,es[i]?=some e/\ImpE T e f:=by
 induction h with
 |nil=>intro i f h;simp at h
 |cons c _ d=>
  intro i f a;cases i with
  |zero=>simp at a;subst a;exact ⟨_,rfl,c⟩
  |succ i=>exact d (by simpa using a)
def ImpH.len {es a} (h:ImpH T es a):a.length=es.length:=by
 induction h with
 |nil=>rfl
 |cons _ _ b=>simp [b]
def ImpE.live {e f} (h:ImpE T e f):f.live=e.live:=by cases h<;>rfl
def ImpE.cellIds {e f} (h:ImpE T e f):f.cellIds=e.cellIds:=by
 cases h with
 |same e=>rfl
 |blk h=>exact h.ids
 |map h=>exact h.idsM _
def ImpE.entR {e f} (h:ImpE T e f) {w S φ i} (a:EntR T w S φ i e):EntR T w S φ i f:=by
 cases h with
 |same e=>exact a
 |blk h=>obtain ⟨g,c,b,d,j,k⟩:=a;exact ⟨g,c,b,d,j,h.br k⟩
 |map h=>obtain ⟨g,l,c,b,d,j,k,m⟩:=a;exact ⟨g,l,c,b,d,j,h.mr k,m⟩
def Sim.imp {w0:World} {S0:Ow} {F:AF T} {H H1:List (Ent T.U)} {z:PF} {w:World} {S:List Nat} {φ:Nat->RA} (h:Sim T w0 S0 ⟨F,H⟩ z w S φ) (d:ImpH T H H1):Sim T w0 S0 ⟨F,H1⟩ z w S φ:=by
 refine ⟨h.fr,?_,h.chg,h.own,h.ex,?_,fun k r A=>⟨(h.pins k r A).1,by have:=(h.pins k r A).2;simp only [d.len] at this⊢;exact this⟩,?_,?_,?_⟩
 ·intro i a n;obtain ⟨B,C⟩:=h.ids i a n;refine ⟨fun j o=>by have:=B j o;simp only [d.len] at this⊢;exact this,?_⟩;cases a with
  |eptr j sz k c=>
   intro e t xs D;obtain ⟨e0,g,l⟩:=d.get D;cases l with
   |same=>exact C e t xs g
  |_=>trivial
 ·intro i f m p a n;obtain ⟨e0,g,l⟩:=d.get m;exact h.lives i e0 g (by rw [<-l.live];exact p) a n
 ·intro i f m;obtain ⟨e0,g,l⟩:=d.get m;exact l.entR (h.ents i e0 g)
 ·intro i f m j o;obtain ⟨e0,g,l⟩:=d.get m;rw [l.cellIds] at o;have:=h.eids i e0 g j o;simp only [d.len] at this⊢;exact this
 ·intro i j f G m q p s u a b n E;obtain ⟨e0,g,l⟩:=d.get m;obtain ⟨v,x,y⟩:=d.get q;exact h.apart i j e0 v g x (by rw [<-l.live];exact p) (by rw [<-y.live];exact s) u a b n E
def qy4 {t a x} (h:qa5 T t a=some x) (ρ):Imp T (a.ren ρ) (zp6 T t x)/\a.ids= []:=by
 by_cases c:a=.raw (.slice none 0 0)
 ·subst c;cases t<;>try (cases h;done)
  ·rename_i e;have h:([]:List (den T.U e))=x:=X5 h;subst h;refine ⟨⟨rfl,.inr ⟨rfl,rfl⟩,fun w S φ v b=>?_⟩,rfl⟩;rw [AV.ren,VR] at b;subst b;exact CR.nilS
  ·rename_i e;have h:([]:List (den T.U e))=x:=X5 h;subst h;refine ⟨⟨rfl,.inr ⟨rfl,rfl⟩,fun w S φ v b=>?_⟩,rfl⟩;rw [AV.ren,VR] at b;subst b;exact .nl e [] none 0 CR.nilS fun _=>⟨rfl,rfl⟩
 ·have:=vu4 h c;subst this;rw [vd7];exact ⟨.refl _,yn8 t x⟩
def yt2 {U:Nat->Type} {a:AV U} {i:Nat} (h:wb2 a=some i):a=.own i:=by cases a<;>simp_all [wb2]
def vq9 {U:Nat->Type} {a:AV U} {i sz o n:Nat} (h:slI a=some (i,sz,o,n)):a=.sl i sz o n:=by cases a<;>simp_all [slI]
def jq8 {U:Nat->Type} {a:AV U} {i o:Nat} (h:wm6 a=some (i,o)):a=.ptr i o:=by cases a<;>simp_all [wm6]
def uh4 {U:Nat->Type} {a:AV U} {f:FuncId} {aS bs:List (AV U)} (h:fnI a=some (f,aS,bs)):a=.fn (.func f) aS bs:=by
 cases a<;>try (cases h;done)
 rename_i f' _ _;cases f'<;>try (cases h;done)
 simp only [fnI,X0,X7] at h;obtain ⟨rfl,rfl,rfl⟩:=h;rfl
def gu9 {U:Nat->Type} {a:AV U} {aS:List (AV U)} (h:aggI a=some aS):a=.agg aS:=by cases a<;>simp_all [aggI]
def gy8 {U:Nat->Type} {a b:AV U} {t:TypeId} (h:ifcI a=some (t,b)):a=.ifc t b:=by cases a<;>simp_all [ifcI]
def kv2 {U:Nat->Type} {a:AV U} (h:gr3 a=true):a=.raw (.slice none 0 0):=by
 unfold gr3 at h;split at h
 ·rfl
 ·cases h
def gz5 {U:Nat->Type} {k:IntKind} {x:Int} {a:AV U} (h:litI k x a=true):a=.cell ⟨.int k,x⟩:=by
 unfold litI at h;split at h
 ·rename_i c y;rw [X3] at h;have:=zb6 h.1;subst this;have b:(show Int from y)=x:=eq_of_beq h.2;subst b;rfl
 ·cases h
def qy2 {U:Nat->Type} {a:AV U} (h:gr2 a=true):a=.raw (.pointer none):=by
 unfold gr2 at h;split at h
 ·rfl
 ·cases h
def qv8 {U:Nat->Type} {t:Ty} {n:Nat} {a:AV U} {xs:List (den U t)} (h:gq3 t n a=some xs):a=.arr t n xs:=by
 unfold gq3 at h;split at h
 ·split at h
  ·rename_i hb;have:=X1 hb;subst this
   grind
  ·cases h
 ·cases h
def gj9 {U:Nat->Type} {e:Ty} {o k:Nat} {a:AV U} {xs:List (den U e)} (h:lpI e o a=some (xs,k)):a=.lptr e xs k o:=by
 unfold lpI at h;split at h
 ·split at h
  ·rename_i hb;have:=X1 hb;subst this
   grind
  ·cases h
 ·cases h
def qk5 {U:Nat->Type} {a:AV U} {i o sz n b m:Nat} (h:gv4 a=some (i,o,sz,n,b,m)):a=.asl i o sz n b m:=by cases a<;>simp_all [gv4]
def qv6 {U:Nat->Type} {a:AV U} {i o sz n k c:Nat} (h:gq0 a=some (i,o,sz,n,k,c)):a=.aptr i o sz n k c:=by cases a<;>simp_all [gq0]
def vt2 {U:Nat->Type} {a:AV U} {i:Nat} (h:wk2 a=some i):a=.hmp i:=by cases a<;>simp_all [wk2]
def jo4 {H i} (h:kl4 T H i=true):H[i]?=some .hid:=by
 unfold kl4 at h;split at h
 ·assumption
 ·cases h
def qq3 {U:Nat->Type} {a:AV U} {i:Nat} (h:mpI a=some i):a=.mp i:=by cases a<;>simp_all [mpI]
def vx2 {U:Nat->Type} {a:AV U} {n:Nat} (h:rawI n a=true):a=.raw (rawV n):=by
 unfold rawI at h;split at h<;>first|(have:=X1 h;subst this;rfl)|cases h
mutual
def vc2 {H:List (Ent T.U)}: ∀(s:Sh) (a:AV T.U) (l l':Src) (x:s.den T),rdS T H s a l=some (x,l')->
  ∃new,RdOk T H a.ids l l' new/\new.length=s.cnt/\ ∀ρ,Places ρ l'->Imp T (a.ren ρ) (mkA T id s x l.length)/\ImpH T (zf4 T H ρ new) (mkE T id s x l.length)
 | .val t,a,l,l',x,h=>by
  unfold rdS at h;split at h
  ·rename_i y hy;simp only [X0,X7] at h;obtain ⟨rfl,rfl⟩:=h;refine ⟨[],.nil (by rw [(qy4 hy id).2];intro j hj;cases hj),rfl,fun ρ hρ=>⟨?_,.nil⟩⟩;exact (qy4 hy ρ).1
  ·cases h
 | .row e t,a,l,l',x,h=>by
  unfold rdS at h;split at h<;>try (cases h;done)
  rename_i i ha;have:=yt2 ha;subst this;split at h
  ·rename_i xs hx;simp only [X0,X7] at h;obtain ⟨rfl,rfl⟩:=h;have hx:=zz8 hx;refine ⟨[i],.one hx rfl rfl,rfl,fun ρ hρ=>⟨.of_eq ?_,?_⟩⟩
   ·show AV.own (ρ i)=AV.own l.length;rw [show ρ i=l.length from hρ l.length i (by simp)]
   ·rw [zf2 hx];exact .cons (.same _) .nil
  ·cases h
 | .slr e t,a,l,l',x,h=>by
  unfold rdS at h;split at h<;>try (cases h;done)
  rename_i i sz o n ha;have:=vq9 ha;subst this;split at h<;>try (cases h;done)
  rename_i xs hx;split at h<;>try (cases h;done)
  rename_i hsz;simp only [X0,X7] at h;obtain ⟨rfl,rfl⟩:=h;have:=X1 hsz;subst this;have hx:=zz8 hx;refine ⟨[i],.one hx rfl rfl,rfl,fun ρ hρ=>⟨.of_eq ?_,?_⟩⟩
  ·show AV.sl (ρ i) _ o n=AV.sl l.length _ o n;rw [show ρ i=l.length from hρ l.length i (by simp)]
  ·rw [zf2 hx];exact .cons (.same _) .nil
 | .ptr o e cs,a,l,l',x,h=>by
  unfold rdS at h;split at h<;>try (cases h;done)
  rename_i i o' ha;have:=jq8 ha;subst this;split at h<;>try (cases h;done)
  rename_i aS hb;split at h<;>try (cases h;done)
  rename_i ho;have:=X1 ho;subst this;have hb:=zr2 hb;obtain ⟨new,g1,g2,g3⟩:=ze7 cs aS _ _ x h;refine ⟨i::new,.blk hb g1,by rw [U3,g2,Sh.cnt];omega,fun ρ hρ=>?_⟩;obtain ⟨q1,q2⟩:=g3 ρ hρ;rw [show (l++ [some i]).length=l.length+1 by simp] at q1 q2;refine ⟨.of_eq ?_,?_⟩
  ·rw [g1.eq] at hρ;show AV.ptr (ρ i) o'=AV.ptr l.length o';rw [hρ.last]
  ·rw [zf2 hb];exact .cons (.blk q1) q2
 | .slb sz n e cs,a,l,l',x,h=>by
  unfold rdS at h;split at h<;>try (cases h;done)
  rename_i i sz' o n' ha;have:=vq9 ha;subst this;split at h<;>try (cases h;done)
  rename_i aS hb;split at h<;>try (cases h;done)
  rename_i ho;simp only [X3] at ho;have:=X1 ho.1;subst this;have:=X1 ho.2.1;subst this;have:=X1 ho.2.2;subst this;have hb:=zr2 hb;obtain ⟨new,g1,g2,g3⟩:=ze7 cs aS _ _ x h;refine ⟨i::new,.blk hb g1,by rw [U3,g2,Sh.cnt];omega,fun ρ hρ=>?_⟩;obtain ⟨q1,q2⟩:=g3 ρ hρ;rw [show (l++ [some i]).length=l.length+1 by simp] at q1 q2;refine ⟨.of_eq ?_,?_⟩
  ·rw [g1.eq] at hρ;show AV.sl (ρ i) sz' 0 n'=AV.sl l.length sz' 0 n';rw [hρ.last]
  ·rw [zf2 hb];exact .cons (.blk q1) q2
 | .at_ p o,a,l,l',x,h=>by
  unfold rdS at h;split at h<;>try (cases h;done)
  rename_i i o' ha;have:=jq8 ha;subst this;split at h
  ·rename_i hb;simp only [X0,X7] at h;obtain ⟨_,rfl⟩:=h;simp only [X3] at hb;have:=X1 hb.1;subst this;have hs:=zg8 hb.2;refine ⟨[],.nil (by intro j hj;simp [AV.ids] at hj;subst hj;exact X6 hs),rfl,fun ρ hρ=>⟨.of_eq ?_,.nil⟩⟩;show AV.ptr (ρ i) o'=AV.ptr p o';rw [hρ p i hs]
  ·cases h
 | .own p,a,l,l',x,h=>by
  unfold rdS at h;split at h<;>try (cases h;done)
  rename_i i ha;have:=yt2 ha;subst this;split at h
  ·rename_i hb;simp only [X0,X7] at h;obtain ⟨_,rfl⟩:=h;have hs:=zg8 hb;refine ⟨[],.nil (by intro j hj;simp [AV.ids] at hj;subst hj;exact X6 hs),rfl,fun ρ hρ=>⟨.of_eq ?_,.nil⟩⟩;show AV.own (ρ i)=AV.own p;rw [hρ p i hs]
  ·cases h
 | .part p sz,a,l,l',x,h=>by
  unfold rdS at h;split at h<;>try (cases h;done)
  rename_i i sz' o n ha;have:=vq9 ha;subst this;split at h
  ·rename_i hb;simp only [X0,X7] at h;obtain ⟨rfl,rfl⟩:=h;simp only [X3] at hb;have:=X1 hb.1;subst this;have hs:=zg8 hb.2;refine ⟨[],.nil (by intro j hj;simp [AV.ids] at hj;subst hj;exact X6 hs),rfl,fun ρ hρ=>⟨.of_eq ?_,.nil⟩⟩;show AV.sl (ρ i) sz' o n=AV.sl p sz' o n;rw [hρ p i hs]
  ·cases h
 | .fn f a b,c,l,l',x,h=>by
  unfold rdS at h;split at h<;>try (cases h;done)
  rename_i f' aS bs ha;have:=uh4 ha;subst this;split at h<;>try (cases h;done)
  rename_i y l1 hy;split at h<;>try (cases h;done)
  rename_i hf;have:=X1 hf;subst this;obtain ⟨z,hz,rfl⟩:=zr7 h;obtain ⟨n1,g1,g2,g3⟩:=ze7 a aS _ _ y hy;obtain ⟨n2,k1,k2,k3⟩:=ze7 b bs _ _ z hz;refine ⟨n1++n2,by rw [AV.ids];exact g1.app k1,by rw [X9,g2,k2,Sh.cnt],fun ρ hρ=>?_⟩;obtain ⟨q1,q2⟩:=g3 ρ (by rw [k1.eq] at hρ;exact hρ.pre);obtain ⟨q3,q4⟩:=k3 ρ hρ;have hlen:l1.length=l.length+zb9 a:=by rw [g1.eq,X9,V1,g2]
  rw [hlen] at q3 q4;refine ⟨?_,?_⟩
  ·show Imp T (.fn (.func f') (zk5 ρ aS) (zk5 ρ bs)) (.fn (.func f') (zd0 T id a y l.length) (zd0 T id b z (l.length+zb9 a)));exact q1.fn q3
  ·rw [zr5];exact q2.app q4
 | .agg cs,a,l,l',x,h=>by
  unfold rdS at h;split at h<;>try (cases h;done)
  rename_i aS ha;have:=gu9 ha;subst this;obtain ⟨new,g1,g2,g3⟩:=ze7 cs aS _ _ x h;refine ⟨new,by rw [AV.ids];exact g1,by rw [g2,Sh.cnt],fun ρ hρ=>?_⟩;obtain ⟨q1,q2⟩:=g3 ρ hρ;exact ⟨(show Imp T (.agg (zk5 ρ aS)) (.agg (zd0 T id cs x l.length)) from q1.agg),q2⟩
 | .ifc t s,a,l,l',x,h=>by
  unfold rdS at h;split at h<;>try (cases h;done)
  rename_i t' a ha;have:=gy8 ha;subst this;split at h
  ·rename_i ht;have:=X1 ht;subst this;obtain ⟨new,g1,g2,g3⟩:=vc2 s a _ _ x h;refine ⟨new,by rw [AV.ids];exact g1,by rw [g2,Sh.cnt],fun ρ hρ=>?_⟩;obtain ⟨q1,q2⟩:=g3 ρ hρ;exact ⟨(show Imp T (.ifc t' (a.ren ρ)) (.ifc t' (mkA T id s x l.length)) from q1.ifc),q2⟩
  ·cases h
 | .nils,a,l,l',x,h=>by
  unfold rdS at h;split at h<;>try (cases h;done)
  rename_i ha;have:=kv2 ha;subst this;simp only [X0,X7] at h;obtain ⟨_,rfl⟩:=h;exact ⟨[],.nil (by intro j hj;cases hj),rfl,fun ρ hρ=>⟨.of_eq rfl,.nil⟩⟩
 | .nilp,a,l,l',x,h=>by
  unfold rdS at h;split at h<;>try (cases h;done)
  rename_i ha;have:=qy2 ha;subst this;simp only [X0,X7] at h;obtain ⟨_,rfl⟩:=h;exact ⟨[],.nil (by intro j hj;cases hj),rfl,fun ρ hρ=>⟨.of_eq rfl,.nil⟩⟩
 | .lit k y,a,l,l',x,h=>by
  unfold rdS at h;split at h<;>try (cases h;done)
  rename_i ha;have:=gz5 ha;subst this;simp only [X0,X7] at h;obtain ⟨_,rfl⟩:=h;exact ⟨[],.nil (by intro j hj;cases hj),rfl,fun ρ hρ=>⟨.of_eq (by rw [AV.ren];rfl),.nil⟩⟩
 | .arr t n,a,l,l',x,h=>by
  unfold rdS at h;split at h
  ·rename_i xs hx;simp only [X0,X7] at h;obtain ⟨rfl,rfl⟩:=h;have:=qv8 hx;subst this;exact ⟨[],.nil (by intro j hj;cases hj),rfl,fun ρ hρ=>⟨.of_eq rfl,.nil⟩⟩
  ·cases h
 | .lp e o,a,l,l',x,h=>by
  unfold rdS at h;split at h
  ·rename_i y hx;obtain ⟨xs,k⟩:=y;simp only [X0,X7] at h;obtain ⟨rfl,rfl⟩:=h;have:=gj9 hx;subst this;exact ⟨[],.nil (by intro j hj;cases hj),rfl,fun ρ hρ=>⟨.of_eq rfl,.nil⟩⟩
  ·cases h
 | .lpk e k o,a,l,l',x,h=>by
  unfold rdS at h;split at h<;>try (cases h;done)
  rename_i y hx;split at h<;>try (cases h;done)
  rename_i hk;obtain ⟨xs,k'⟩:=y;have:=X1 hk;subst this;simp only [X0,X7] at h;obtain ⟨rfl,rfl⟩:=h;have:=gj9 hx;subst this;exact ⟨[],.nil (by intro j hj;cases hj),rfl,fun ρ hρ=>⟨.of_eq rfl,.nil⟩⟩
 | .asp p o sz n,a,l,l',x,h=>by
  unfold rdS at h;split at h<;>try (cases h;done)
  rename_i i o' sz' n' lo m ha;have:=qk5 ha;subst this;split at h
  ·rename_i hb;simp only [X0,X7] at h;obtain ⟨rfl,rfl⟩:=h;simp only [X3] at hb;have hs:=zg8 hb.1;have:=X1 hb.2.1;subst this;have:=X1 hb.2.2.1;subst this;have:=X1 hb.2.2.2;subst this;refine ⟨[],.nil (by intro j hj;simp [AV.ids] at hj;subst hj;exact X6 hs),rfl,fun ρ hρ=>⟨.of_eq ?_,.nil⟩⟩;show AV.asl (ρ i) _ _ _ _ _=AV.asl p _ _ _ _ _;rw [hρ p i hs]
  ·cases h
 | .asn e cs o sz n,a,l,l',x,h=>by
  unfold rdS at h;split at h<;>try (cases h;done)
  rename_i i o' sz' n' lo m ha;have:=qk5 ha;subst this;split at h<;>try (cases h;done)
  rename_i aS hb;split at h<;>try (cases h;done)
  rename_i ho;simp only [X3] at ho;have:=X1 ho.1;subst this;have:=X1 ho.2.1;subst this;have:=X1 ho.2.2;subst this;have hb:=zr2 hb;obtain ⟨y,hy,rfl⟩:=zr7 h;obtain ⟨new,g1,g2,g3⟩:=ze7 cs aS _ _ y hy;refine ⟨i::new,.blk hb g1,by rw [U3,g2,Sh.cnt];omega,fun ρ hρ=>?_⟩;obtain ⟨q1,q2⟩:=g3 ρ hρ;rw [show (l++ [some i]).length=l.length+1 by simp] at q1 q2;refine ⟨.of_eq ?_,?_⟩
  ·rw [g1.eq] at hρ;show AV.asl (ρ i) _ _ _ lo m=AV.asl l.length _ _ _ lo m;rw [hρ.last]
  ·rw [zf2 hb];exact .cons (.blk q1) q2
 | .asq e cs o sz n lo m,a,l,l',x,h=>by
  unfold rdS at h;split at h<;>try (cases h;done)
  rename_i i o' sz' n' lo' m' ha;have:=qk5 ha;subst this;split at h<;>try (cases h;done)
  rename_i aS hb;split at h<;>try (cases h;done)
  rename_i ho;simp only [X3] at ho;have:=X1 ho.1;subst this;have:=X1 ho.2.1;subst this;have:=X1 ho.2.2.1;subst this;have:=X1 ho.2.2.2.1;subst this;have:=X1 ho.2.2.2.2;subst this;have hb:=zr2 hb;obtain ⟨new,g1,g2,g3⟩:=ze7 cs aS _ _ x h;refine ⟨i::new,.blk hb g1,by rw [U3,g2,Sh.cnt];omega,fun ρ hρ=>?_⟩;obtain ⟨q1,q2⟩:=g3 ρ hρ;rw [show (l++ [some i]).length=l.length+1 by simp] at q1 q2;refine ⟨.of_eq ?_,?_⟩
  ·rw [g1.eq] at hρ;show AV.asl (ρ i) _ _ _ _ _=AV.asl l.length _ _ _ _ _;rw [hρ.last]
  ·rw [zf2 hb];exact .cons (.blk q1) q2
 | .ap p o sz n c,a,l,l',x,h=>by
  unfold rdS at h;split at h<;>try (cases h;done)
  rename_i i o' sz' n' k c' ha;have:=qv6 ha;subst this;split at h
  ·rename_i hb;simp only [X0,X7] at h;obtain ⟨rfl,rfl⟩:=h;simp only [X3] at hb;have hs:=zg8 hb.1;have:=X1 hb.2.1;subst this;have:=X1 hb.2.2.1;subst this;have:=X1 hb.2.2.2.1;subst this;have:=X1 hb.2.2.2.2;subst this;refine ⟨[],.nil (by intro j hj;simp [AV.ids] at hj;subst hj;exact X6 hs),rfl,fun ρ hρ=>⟨.of_eq ?_,.nil⟩⟩;show AV.aptr (ρ i) _ _ _ _ _=AV.aptr p _ _ _ _ _;rw [hρ p i hs]
  ·cases h
 | .mp kd keys cs,a,l,l',x,h=>by
  unfold rdS at h;split at h<;>try (cases h;done)
  rename_i i ha;have:=qq3 ha;subst this;split at h<;>try (cases h;done)
  rename_i aS hb;have hb:=jp4 hb;obtain ⟨new,g1,g2,g3⟩:=ze7 cs aS _ _ x h;refine ⟨i::new,.map hb (jy2 keys aS) g1,by rw [U3,g2,Sh.cnt];omega,fun ρ hρ=>?_⟩;obtain ⟨q1,q2⟩:=g3 ρ hρ;rw [show (l++ [some i]).length=l.length+1 by simp] at q1 q2;refine ⟨.of_eq ?_,?_⟩
  ·rw [g1.eq] at hρ;show AV.mp (ρ i)=AV.mp l.length;rw [hρ.last]
  ·rw [zf2 hb];refine .cons ?_ q2;show ImpE T (.map kd (qn0 ρ (yj8 keys aS))) _;rw [yn9];exact .map q1
 | .mpo p,a,l,l',x,h=>by
  unfold rdS at h;split at h<;>try (cases h;done)
  rename_i i ha;have:=qq3 ha;subst this;split at h
  ·rename_i hb;simp only [X0,X7] at h;obtain ⟨_,rfl⟩:=h;have hs:=zg8 hb;refine ⟨[],.nil (by intro j hj;simp [AV.ids] at hj;subst hj;exact X6 hs),rfl,fun ρ hρ=>⟨.of_eq ?_,.nil⟩⟩;show AV.mp (ρ i)=AV.mp p;rw [hρ p i hs]
  ·cases h
 | .rw n,a,l,l',x,h=>by
  unfold rdS at h;split at h<;>try (cases h;done)
  rename_i ha;have:=vx2 ha;subst this;simp only [X0,X7] at h;obtain ⟨_,rfl⟩:=h;exact ⟨[],.nil (by intro j hj;cases hj),rfl,fun ρ hρ=>⟨.of_eq (by rw [AV.ren];rfl),.nil⟩⟩
 | .tm kd t,a,l,l',x,h=>by
  unfold rdS at h;split at h<;>try (cases h;done)
  rename_i i ha;have:=qq3 ha;subst this;split at h
  ·rename_i xs hx;simp only [X0,X7] at h;obtain ⟨rfl,rfl⟩:=h;have hx:=qj5 hx;refine ⟨[i],.one hx rfl rfl,rfl,fun ρ hρ=>⟨.of_eq ?_,?_⟩⟩
   ·show AV.mp (ρ i)=AV.mp l.length;rw [show ρ i=l.length from hρ l.length i (by simp)]
   ·rw [zf2 hx];exact .cons (.same _) .nil
  ·cases h
 | .dr e d fe,a,l,l',x,h=>by
  unfold rdS at h;split at h<;>try (cases h;done)
  rename_i i ha;have:=yt2 ha;subst this;split at h
  ·rename_i xs hx;simp only [X0,X7] at h;obtain ⟨rfl,rfl⟩:=h;have hx:=je6 hx;refine ⟨[i],.one hx rfl rfl,rfl,fun ρ hρ=>⟨.of_eq ?_,?_⟩⟩
   ·show AV.own (ρ i)=AV.own l.length;rw [show ρ i=l.length from hρ l.length i (by simp)]
   ·rw [zf2 hx];exact .cons (.same _) .nil
  ·cases h
 | .pm k be d,a,l,l',x,h=>by
  unfold rdS at h;split at h<;>try (cases h;done)
  rename_i i ha;have:=qq3 ha;subst this;split at h
  ·rename_i xs hx;simp only [X0,X7] at h;obtain ⟨rfl,rfl⟩:=h;have hx:=qg8 hx;refine ⟨[i],.one hx rfl rfl,rfl,fun ρ hρ=>⟨.of_eq ?_,?_⟩⟩
   ·show AV.mp (ρ i)=AV.mp l.length;rw [show ρ i=l.length from hρ l.length i (by simp)]
   ·rw [zf2 hx];exact .cons (.same _) .nil
  ·cases h
 | .gm,a,l,l',x,h=>by
  unfold rdS at h;split at h<;>try (cases h;done)
  rename_i i ha;have:=vt2 ha;subst this;split at h
  ·rename_i hx;simp only [X0,X7] at h;obtain ⟨rfl,rfl⟩:=h;have hx:=jo4 hx;refine ⟨[i],.one hx rfl rfl,rfl,fun ρ hρ=>⟨.of_eq ?_,?_⟩⟩
   ·show AV.hmp (ρ i)=AV.hmp l.length;rw [show ρ i=l.length from hρ l.length i (by simp)]
   ·rw [zf2 hx];exact .cons (.same _) .nil
  ·cases h
 | .gmo p,a,l,l',x,h=>by
  unfold rdS at h;split at h<;>try (cases h;done)
  rename_i i ha;have:=vt2 ha;subst this;split at h
  ·rename_i hb;simp only [X0,X7] at h;obtain ⟨_,rfl⟩:=h;have hs:=zg8 hb;refine ⟨[],.nil (by intro j hj;simp [AV.ids] at hj;subst hj;exact X6 hs),rfl,fun ρ hρ=>⟨.of_eq ?_,.nil⟩⟩;show AV.hmp (ρ i)=AV.hmp p;rw [hρ p i hs]
  ·cases h
def ze7 {H:List (Ent T.U)}: ∀(ss:List Sh) (aS:List (AV T.U)) (l l':Src) (x:ze8 T ss),zq2 T H ss aS l=some (x,l')->
  ∃new,RdOk T H (za1 aS) l l' new/\new.length=zb9 ss/\ ∀ρ,Places ρ l'->ImpL T (zk5 ρ aS) (zd0 T id ss x l.length)/\ImpH T (zf4 T H ρ new) (zh8 T id ss x l.length)
 | [],aS,l,l',x,h=>by
  cases aS with
  |cons _ _=>unfold zq2 at h;cases h
  |nil=>
   unfold zq2 at h;simp only [X0,X7] at h;obtain ⟨_,rfl⟩:=h;exact ⟨[],.nil (by intro j hj;cases hj),rfl,fun ρ hρ=>⟨.nil,.nil⟩⟩
 |s::r,aS,l,l',x,h=>by
  cases aS with
  |nil=>unfold zq2 at h;cases h
  |cons a aS=>
   unfold zq2 at h;simp only at h;split at h<;>try (cases h;done)
   rename_i y l1 hy;obtain ⟨z,hz,rfl⟩:=zr7 h;obtain ⟨n1,g1,g2,g3⟩:=vc2 s a _ _ y hy;obtain ⟨n2,k1,k2,k3⟩:=ze7 r aS _ _ z hz;refine ⟨n1++n2,by rw [za1];exact g1.app k1,by rw [X9,g2,k2,zb9],fun ρ hρ=>?_⟩;obtain ⟨q1,q2⟩:=g3 ρ (by rw [k1.eq] at hρ;exact hρ.pre);obtain ⟨q3,q4⟩:=k3 ρ hρ;have hlen:l1.length=l.length+s.cnt:=by rw [g1.eq,X9,V1,g2]
   rw [hlen] at q3 q4;exact ⟨(.cons q1 q3),by rw [zr5];exact q2.app q4⟩
end
end
end Go.X
namespace Go.X
open Go.RowKit Go.V
section
variable {T:Tab} {P:Program} {w w':World} {S S':List Nat} {φ φ':Nat->RA} {w0:World} {S0:Ow} {F:AF T} {H:List (Ent T.U)} {F' F'':PF}
def yp0 (H ρ): ∀l:Src,(zj3 T H ρ l).length=l.length
 | []=>rfl
 |some i::r=>by simp [zj3,yp0 H ρ r]
 |none::r=>by simp [zj3,yp0 H ρ r]
def yo9 (H ρ): ∀l m:Src,zj3 T H ρ (l++m)=zj3 T H ρ l++zj3 T H ρ m
 | [],_=>rfl
 |some i::r,m=>by simp [zj3,yo9 H ρ r m]
 |none::r,m=>by simp [zj3,yo9 H ρ r m]
def zx7 (H ρ): ∀l:List Nat,zj3 T H ρ (l.map some)=zf4 T H ρ l
 | []=>rfl
 |i::r=>by
  rw [U0,zj3,zx7 H ρ r];cases hi:H[i]? with
  |none=>simp only [zf4,hi]
  |some e=>simp only [zf4,hi]
def zs7 {H:List (Ent T.U)} {ρ:Nat->Nat} {f:Ent T.U}: ∀ {l:Src} {j:Nat},(zj3 T H ρ l)[j]?=some f->f=.gone\/ ∃i e,l[j]?=some (some i)/\H[i]?=some e/\f=e.ren ρ
 | [],j,h=>by simp [zj3] at h
 |some i::r,0,h=>by
  simp only [zj3,Y4,X0] at h
  grind
 |none::r,0,h=>by simp only [zj3,Y4,X0] at h;exact .inl h.symm
 |some i::r,j+1,h=>by
  rcases zs7 (l:=r) (j:=j) (by simpa [zj3] using h) with h|⟨i,e,a,b,c⟩
  ·exact .inl h
  ·exact .inr ⟨i,e,by simpa using a,b,c⟩
 |none::r,j+1,h=>by
  rcases zs7 (l:=r) (j:=j) (by simpa [zj3] using h) with h|⟨i,e,a,b,c⟩
  ·exact .inl h
  ·exact .inr ⟨i,e,by simpa using a,b,c⟩
def φO (l:Src) (φ:Nat->RA) (j:Nat):RA:=match l[j]? with|some (some i)=>φ i|_=>φ j
def φO_at {l j i} (h:l[j]?=some (some i)):φO l φ j=φ i:=by unfold φO;rw [h]
def φO_idx {l i} (h:some i∈l):φO l φ (yv3 i l)=φ i:=φO_at (zm7 h)
def Sim.src (h:Sim T w0 S0 ⟨F,H⟩ F' w S φ) {l:Src} (hn:zn2 l=true) (hp: ∀k,k<S0.pin.length->l[k]?=some (some k)\/l[k]?=some none)
  (h2: ∀i e,some i∈l->H[i]?=some e-> ∀j∈e.cellIds,some j∈l):Sim T w0 S0 ⟨[],zj3 T H (fun i=>yv3 i l) l⟩ [] w S (φO l φ):=by
 refine ⟨fun i a ha=>by simp [AF.get] at ha,fun i a ha=>by simp [AF.get] at ha,h.chg,h.own,h.ex,?_,fun k r hk=>?_,?_,?_,?_⟩
 ·intro j f hf hl a ha;rcases zs7 hf with rfl|⟨i,e,h5,h6,rfl⟩
  ·cases hl
  ·rw [φO_at h5] at ha;exact h.lives i e h6 (by rw [Ent.ren_live] at hl;exact hl) a ha
 ·have hk':=hp k (X2.1 hk).1;have hφ:φO l φ k=φ k:=by
   rcases hk' with h|h
   ·exact φO_at h
   ·unfold φO;rw [h]
  refine ⟨by rw [hφ];exact (h.pins k r hk).1,?_⟩;simp only [yp0]
  grind
 ·intro j f hf;rcases zs7 hf with rfl|⟨i,e,h5,h6,rfl⟩
  ·trivial
  ·exact (h.ents i e h6).ren (φO_at h5) fun k hk=>φO_idx (h2 i e (X6 h5) h6 k hk)
 ·intro j f hf k hk;rcases zs7 hf with rfl|⟨i,e,h5,h6,rfl⟩
  ·cases hk
  ·rw [Ent.ren_cellIds] at hk;obtain ⟨m,hm,rfl⟩:=U5.1 hk;simp only [yp0];exact (X2.1 (zm7 (h2 i e (X6 h5) h6 m hm))).1
 ·intro j k f f' hf hf' hl hl' hjk a b ha hb;rcases zs7 hf with rfl|⟨i,e,h5,h6,rfl⟩
  ·cases hl
  ·rcases zs7 hf' with rfl|⟨i',e',h5',h6',rfl⟩
   ·cases hl'
   ·rw [φO_at h5] at ha;rw [φO_at h5'] at hb;rw [Ent.ren_live] at hl hl';exact h.apart i i' e e' h6 h6' hl hl' (fun e=>hjk (by subst e;exact yi9 hn h5 h5')) a b ha hb
def Sim.unpin {c x p} (h:Sim T w0 ⟨c,x,p⟩ ⟨F,H⟩ F' w S φ):Sim T w0 ⟨c,x,[]⟩ ⟨F,H⟩ F' w S φ:=
 ⟨h.fr,h.ids,h.chg,h.own,h.ex,h.lives,fun k r a=>by simp at a,h.ents,h.eids,h.apart⟩
def Sim.start (h:Sim T w0 S0 ⟨F,H⟩ F' w S φ):Sim T w ⟨zd8 φ H.length,S,(List.range H.length).map φ⟩ ⟨[],H⟩ [] w S φ:=by
 refine ⟨fun i a d=>by simp [AF.get] at d,fun i a d=>by simp [AF.get] at d,Chg.refl _ _,fun b f=>⟨.inl f,(h.own b f).2⟩,fun b f _ _=>f,fun i e j l a d=>⟨(h.lives i e j l a d).1,.inl ?_⟩,fun k r g=>?_,h.ents,h.eids,h.apart⟩
 ·unfold zd8;exact V4.2 ⟨i,J3.2 (X2.1 j).1,zu8.2 ⟨a,d,rfl⟩⟩
 ·have c:=(X2.1 g).1;simp at c;simp [c] at g;exact ⟨.of g,c⟩
def Sim.slots (h:Sim T w0 S0 ⟨[],H⟩ F'' w S φ) {aS:List (AV T.U)} {vs:List Value} (hv:VRL T w S φ aS vs) (ho: ∀a∈aS,okA H a):Sim T w0 S0 ⟨yd6 T aS 0,H⟩ (jm8 vs 0) w S φ:=
 ⟨fun i a ha=>je0 hv ha,fun i a ha=>ho a (je1 ha),h.chg,h.own,h.ex,h.lives,h.pins,h.ents,h.eids,h.apart⟩
def σJ (ids:List Nat) (n:Nat) (j:Nat):Nat:=match Nat.blt j ids.length with|true=>ids.getD j 0|false=>n+(j-ids.length)
def σJ_lo {ids n j} (h:j<ids.length):ids[j]?=some (σJ ids n j):=by
 unfold σJ;rw [show Nat.blt j ids.length=true by rw [U7];exact h];simp [Y0 h]
def σJ_hi {ids n j} (h:ids.length<=j):σJ ids n j=n+(j-ids.length):=by
 unfold σJ;rw [show Nat.blt j ids.length=false by cases hb:Nat.blt j ids.length;rfl;rw [U7] at hb;omega]
def Sim.join (h:Sim T w0 S0 ⟨F,H⟩ F' w S φ) {ids} (hn:ze4 ids=true) (X: ∀i∈ids,∃e,H[i]?=some e/\e.live=true) {K u} (hφc: ∀k i,ids[k]?=some i->K k=φ i) {F1 S1 L Nw}
  (D:Sim T w ⟨zd8 K ids.length,S,(List.range ids.length).map K⟩ ⟨[],L++Nw⟩ F1 w' S1 u) (hP:L.length=ids.length)
  (hty: ∀(k i:Nat) (e:TypeId) (t:Ty) (ys:List (den T.U t)),ids[k]?=some i->L[k]?=some (.row e t ys)-> ∃xs,H[i]?=some (.row e t xs)):
  ∃B,Sim T w0 S0 ⟨F,zh0 T H ids (L.map (Ent.ren (σJ ids H.length)))++Nw.map (Ent.ren (σJ ids H.length))⟩ F' w' S1 B/\
   ∀a v,VR T w' S1 u a v->(∀i∈a.ids,i<L.length+Nw.length)->VR T w' S1 B (a.ren (σJ ids H.length)) v:=by
 generalize Y:σJ ids H.length=σ
 let B:Nat->RA:=fun i=>if i<H.length then (if i∈ids then u (ids.idxOf i) else φ i) else u (ids.length+(i-H.length))
 have hidl: ∀k i,ids[k]?=some i->i<H.length:=fun k i p=>by
  obtain ⟨e,he,_⟩:=X i (X6 p);exact (X2.1 he).1
 have z: ∀m,B (H.length+m)=u (ids.length+m):=fun m=>by
  show (if H.length+m<H.length then _ else _)=_;rw [if_neg (by omega),N5]
 have hpin: ∀k i,ids[k]?=some i->RSame (u k) (φ i):=by
  intro k i p;have Z:=(X2.1 p).1;rw [<-hφc k i p];exact (D.pins k (K k) (by simp [Z])).1
 have M: ∀k i,ids[k]?=some i->B i=u k:=by
  intro k i p;have O:=X6 p;show (if i<H.length then (if i∈ids then u (ids.idxOf i) else φ i) else _)=_;rw [if_pos (hidl k i p),if_pos O];have h1:ids[ids.idxOf i]?=some i:=by
   have Z:=List.idxOf_lt_length_of_mem O;rw [Y0 Z,List.getElem_idxOf Z]
  rw [yi8 hn h1 p]
 have G: ∀i,i∉ids->i<H.length->B i=φ i:=fun i hi o=>by
  show (if i<H.length then (if i∈ids then u (ids.idxOf i) else φ i) else _)=_;rw [if_pos o,if_neg hi]
 have hold: ∀i,i<H.length->RSame (B i) (φ i):=fun i o=>by
  by_cases hi:i∈ids
  ·obtain ⟨k,p⟩:=Y9.1 hi;rw [M k i p];exact hpin k i p
  ·exact .of (G i hi o)
 have Q: ∀j,B (σ j)=u j:=by
  intro j;by_cases C:j<ids.length
  ·have hs:=σJ_lo (n:=H.length) C;rw [Y] at hs;exact M j _ hs
  ·rw [<-Y,σJ_hi (by omega),z];congr 1;omega
 have hσlt: ∀j,j<L.length+Nw.length->σ j<(zh0 T H ids (L.map (Ent.ren σ))++Nw.map (Ent.ren σ)).length:=by
  intro j C;rw [X9,zb2,V1];by_cases Z:j<ids.length
  ·have hs:=σJ_lo (n:=H.length) Z;rw [Y] at hs;have:=hidl j _ hs;omega
  ·rw [<-Y,σJ_hi (by omega)];omega
 have N: ∀b∈zd8 K ids.length,∃(k i:Nat) (a:Addr),ids[k]?=some i/\At (φ i) a/\a.block=b:=by
  intro b s;obtain ⟨k,p,a,l,rfl⟩:=je3 s;have hg:=Y0 p;exact ⟨k,_,a,hg,by rw [<-hφc k _ hg];exact l,rfl⟩
 have hTS: ∀b∈zd8 K ids.length,b∈S:=by
  intro b s;obtain ⟨k,i,a,p,l,rfl⟩:=N b s;obtain ⟨e,he,o⟩:=X i (X6 p);exact zi5 h he o l
 have hTc: ∀b∈zd8 K ids.length,b∈S0.chg\/w0.heap.size<=b:=by
  intro b s;obtain ⟨k,i,a,p,l,rfl⟩:=N b s;obtain ⟨e,he,o⟩:=X i (X6 p);exact (h.lives i e he o a l).2
 have hS1: ∀b∈S1,b∈S\/w.heap.size<=b:=fun b s=>(D.own b s).1;have hlen:(L.map (Ent.ren σ)).length=ids.length:=by rw [V1,hP]
 have get: ∀(j:Nat) (f:Ent T.U),(zh0 T H ids (L.map (Ent.ren σ))++Nw.map (Ent.ren σ))[j]?=some f->
   (∃(k:Nat) (g:Ent T.U),ids[k]?=some j/\L[k]?=some g/\f=g.ren σ/\j<H.length)\/(j∉ids/\H[j]?=some f/\j<H.length)\/(∃(m:Nat) (g:Ent T.U),j=H.length+m/\(L++Nw)[ids.length+m]?=some g/\f=g.ren σ):=by
  intro j f J;by_cases C:j<H.length
  ·rw [X8 (by rw [zb2];exact C)] at J;rcases zh3 ids _ H hlen J with ⟨k,A,d⟩|⟨A,d⟩
   ·rw [W2] at d;cases hp:L[k]? with
    |none=>rw [hp] at d;cases d
    |some g=>rw [hp] at d;simp only [Z8,X0] at d;exact .inl ⟨k,g,A,hp,d.symm,C⟩
   ·exact .inr (.inl ⟨A,d,C⟩)
  ·rw [Z2 (by rw [zb2];omega),zb2,W2] at J;cases hp:Nw[j-H.length]? with
   |none=>rw [hp] at J;cases J
   |some g=>
    rw [hp] at J;simp only [Z8,X0] at J;refine .inr (.inr ⟨j-H.length,g,by omega,?_,J.symm⟩);rw [Z2 (by omega),hP,N5];exact hp
 have E: ∀ {k:Nat} {g:Ent T.U},L[k]?=some g->(L++Nw)[k]?=some g:=fun p=>by
  rw [X8 (X2.1 p).1];exact p
 refine ⟨B,⟨?_,?_,h.chg.step D.chg hTc,fun b s=>⟨?_,(D.own b s).2⟩,fun b s q1 q2=>D.ex b (h.ex b s q1 q2) (fun O=>(hTc b O).elim q1 fun O=>by omega) (h.own b (h.ex b s q1 q2)).2,?_,fun k r p=>?_,?_,?_,?_⟩,fun a v hv hi=>hv.ren T fun i _=>Q i⟩
 ·intro i a l;obtain ⟨v,h1,h2⟩:=h.fr i a l;exact ⟨v,h1,(h2.chg T D.chg hTS hS1).phiS fun j C=>hold j ((h.ids i a l).1 j C)⟩
 ·intro i a l;obtain ⟨h1,h2⟩:=h.ids i a l;refine ⟨fun j C=>by have:=h1 j C;simp only [X9,zb2] at this⊢;omega,?_⟩;cases a with
  |eptr y sz k c=>
   have hy:=h1 y (by simp [AV.ids]);intro e t xs hx;rcases get y _ hx with ⟨k',g,A,d,W,_⟩|⟨_,d,_⟩|⟨m,_,A,_⟩
   ·cases g with
    |row e1 t1 ys=>
     simp only [Ent.ren,Ent.row.injEq] at W;obtain ⟨rfl,rfl,W⟩:=W;have:=eq_of_heq W;subst this;obtain ⟨zs,g4⟩:=hty k' y _ _ _ A d;obtain ⟨q4,q5⟩:=h2 _ _ _ g4;obtain ⟨_,_,_,n1,_⟩:=h.ents y _ g4;obtain ⟨_,_,_,n2,_⟩:=D.ents k' _ (E d);rw [(hpin k' y A).2.1] at n2;exact ⟨by omega,q5⟩
    |blk _ _=>cases W
    |drow _ _ _ _ _=>cases W
    |pmap _ _ _ _ _=>cases W
    |map _ _=>cases W
    |tmap _ _ _=>cases W
    |hid=>cases W
    |gone=>cases W
   ·exact h2 e t xs d
   ·simp only at hy;omega
  |_=>trivial
 ·rcases (D.own b s).1 with s|s
  ·exact (h.own b s).1
  ·exact .inr (W8 h.chg.size s)
 ·intro j f J o a l;rcases get j f J with ⟨k,g,A,d,rfl,C⟩|⟨R,d,C⟩|⟨m,g,rfl,d,rfl⟩
  ·rw [M k j A] at l;have V:g.live=true:=by rw [Ent.ren_live] at o;exact o
   refine ⟨(D.lives _ g (E d) V a l).1,?_⟩;rcases (D.lives _ g (E d) V a l).2 with O|O
   ·exact hTc _ O
   ·exact .inr (W8 h.chg.size O)
  ·rw [G j R C] at l;have q:=h.lives j f d o a l;refine ⟨D.ex _ q.1 (fun s=>?_) (h.own _ q.1).2,q.2⟩;obtain ⟨k,i,a',p,ha',hbe⟩:=N _ s;obtain ⟨e,he,I⟩:=X i (X6 p);exact h.apart j i f e d he o I (fun e=>R (e▸X6 p)) a a' l ha' hbe.symm
  ·rw [z] at l;have V:g.live=true:=by rw [Ent.ren_live] at o;exact o
   refine ⟨(D.lives _ g d V a l).1,?_⟩;rcases (D.lives _ g d V a l).2 with O|O
   ·exact hTc _ O
   ·exact .inr (W8 h.chg.size O)
 ·obtain ⟨A,d⟩:=h.pins k r p;simp only at d;exact ⟨(hold k d).trans A,by simp only [X9,zb2];omega⟩
 ·intro j f J;rcases get j f J with ⟨k,g,A,d,rfl,C⟩|⟨C,d,hjl⟩|⟨m,g,rfl,d,rfl⟩
  ·exact (D.ents k g (E d)).ren (M k j A) fun x _=>Q x
  ·have hnot:f.live=true-> ∀a,At (φ j) a->a.block∉zd8 K ids.length:=fun o a l s=>by
    obtain ⟨k,i,a',p,ha',hbe⟩:=N _ s;obtain ⟨e,he,I⟩:=X i (X6 p);exact h.apart j i f e d he o I (fun e=>C (e▸X6 p)) a a' l ha' hbe.symm
   have h1:=(h.ents j f d).chg T D.chg hTS hS1 fun o a l=>⟨hnot o a l,D.ex _ (zi5 h d o l) (hnot o a l) (h.own _ (zi5 h d o l)).2⟩;exact h1.phiE (G j C hjl) fun x hx=>hold x (h.eids j f d x hx)
  ·exact (D.ents _ g d).ren (z m) fun x _=>Q x
 ·intro j f J x hx;rcases get j f J with ⟨k,g,A,d,rfl,C⟩|⟨C,d,hjl⟩|⟨m,g,rfl,d,rfl⟩
  ·rw [Ent.ren_cellIds] at hx;obtain ⟨y,hy,rfl⟩:=U5.1 hx;exact hσlt y (by have:=D.eids k g (E d) y hy;simp only [X9] at this;exact this)
  ·have:=h.eids j f d x hx;simp only [X9,zb2] at this⊢;omega
  ·rw [Ent.ren_cellIds] at hx;obtain ⟨y,hy,rfl⟩:=U5.1 hx;exact hσlt y (by have:=D.eids _ g d y hy;simp only [X9] at this;exact this)
 ·
  have cross: ∀(j:Nat) (f:Ent T.U),j∉ids->H[j]?=some f->f.live=true-> ∀(m:Nat) (g:Ent T.U),(L++Nw)[m]?=some g->g.live=true-> ∀a b,At (φ j) a->At (u m) b->a.block≠b.block:=by
   intro j f R d o m g O V a b l s;rcases (D.lives _ g O V b s).2 with hb'|hb'
   ·obtain ⟨k,i,a',p,ha',hbe⟩:=N _ hb';obtain ⟨e,he,I⟩:=X i (X6 p);rw [<-hbe];exact h.apart j i f e d he o I (fun e=>R (e▸X6 p)) a a' l ha'
   ·have:=(h.own _ (zi5 h d o l)).2;omega
  have side: ∀(j:Nat) (f:Ent T.U),(zh0 T H ids (L.map (Ent.ren σ))++Nw.map (Ent.ren σ))[j]?=some f->f.live=true->
    (∃(k:Nat) (g:Ent T.U),(L++Nw)[k]?=some g/\g.live=true/\B j=u k/\j=σ k)\/(j∉ids/\H[j]?=some f/\B j=φ j):=by
   intro j f J o;rcases get j f J with ⟨k,g,A,d,rfl,C⟩|⟨R,d,C⟩|⟨m,g,rfl,d,rfl⟩
   ·refine .inl ⟨k,g,E d,by rw [Ent.ren_live] at o;exact o,M k j A,?_⟩;have hs:=σJ_lo (n:=H.length) (X2.1 A).1;rw [Y,A] at hs;exact X5 hs
   ·exact .inr ⟨R,d,G j R C⟩
   ·refine .inl ⟨ids.length+m,g,d,by rw [Ent.ren_live] at o;exact o,z m,?_⟩;rw [<-Y,σJ_hi (by omega)];omega
  intro i j f f' J hf' o I hij a b l s;rcases side i f J o with ⟨k,g,A,d,W,g4⟩|⟨g0,A,W⟩<;>rcases side j f' hf' I with ⟨k',f0',k1,k2,k3,k4⟩|⟨k0,k1,k3⟩<;>rw [W] at l<;>rw [k3] at s
  ·exact D.apart k k' g f0' A k1 d k2 (fun e=>hij (by rw [g4,k4,e])) a b l s
  ·exact (cross j f' k0 k1 I k g A d b a s l).symm
  ·exact cross i f g0 A o k' f0' k1 k2 a b l s
  ·exact h.apart i j f f' A k1 o I hij a b l s
end
end Go.X
namespace Go.X
open Go.RowKit Go.V
structure GSpec (T:Tab) where
 ps:List Sh
 post:List PE
 rs:List Sh
 g:ze8 T ps->Option (zn9 T post×ze8 T rs)
section
variable (T:Tab) (P:Program)
def zd9:Src->List Nat
 | []=> []
 |some i::r=>i::zd9 r
 |none::r=>zd9 r
def ym0 (H:List (Ent T.U)):List Nat->List PE->Bool
 | [],ps=>match ps with| []=>true|_::_=>false
 |i::r,ps=>match ps with
  | []=>false
  |p::q=>(match p with| .row e t=>(qs8 T H e t i).isSome|_=>true)&&ym0 H r q
def GOk (f:FuncId) (b:GSpec T):Prop:= ∀x y,b.g x=some y-> ∀(w:World) (S:List Nat) (φ:Nat->RA),Sim T w ⟨zd8 φ (zb9 b.ps),S,(List.range (zb9 b.ps)).map φ⟩ ⟨[],zh8 T id b.ps x 0⟩ [] w S φ->
 ∀vs:List Value,VRL T w S φ (zd0 T id b.ps x 0) vs->(∀a∈zd0 T id b.ps x 0,okA (zh8 T id b.ps x 0) a)->
 Calls P f vs.toArray w fun e w'=>match e with
  | .returned v=> ∃(F1:PF) (S1:List Nat) (c:Nat->RA) (us:List Value),Sim T w ⟨zd8 φ (zb9 b.ps),S,(List.range (zb9 b.ps)).map φ⟩ ⟨[],mkP T id b.post y.1 b.post.length++(yc8 T id b.post y.1 b.post.length++zh8 T id b.rs y.2 (b.post.length+zf5 b.post))⟩ F1 w' S1 c/\
    VRL T w' S1 c (zd0 T id b.rs y.2 (b.post.length+zf5 b.post)) us/\v=ye2 us/\ ∀i∈za1 (zd0 T id b.rs y.2 (b.post.length+zf5 b.post)),i<b.post.length+(zf5 b.post+zb9 b.rs)
  |_=>False
def GSpec.toCall {T:Tab} (sp:GSpec T) (alt:CallSpec T):CallSpec T where
 call:=fun aS H K Kp=>match zq2 T H sp.ps aS [] with
  |some (x,l)=>match ze4 (zd9 l)&&ym0 T H (zd9 l) sp.post with
   |true=>j6 (sp.g x) fun y=>K (zl6 T (zd0 T (σJ (zd9 l) H.length) sp.rs y.2 (sp.post.length+zf5 sp.post))) (zh0 T H (zd9 l) (mkP T (σJ (zd9 l) H.length) sp.post y.1 sp.post.length)++(yc8 T (σJ (zd9 l) H.length) sp.post y.1 sp.post.length++zh8 T (σJ (zd9 l) H.length) sp.rs y.2 (sp.post.length+zf5 sp.post)))
   |false=>none
  |none=>alt.call aS H K Kp
 q:=alt.q
 isq:=alt.isq
 wr:=fun aS H=>match zq2 T H sp.ps aS [] with|some (_,l)=>zd9 l|none=>alt.wr aS H
def v4:CallSpec T where
 call:=fun _ _ _ _=>none
 q:=fun _ _ _=>none
 isq:=false
 wr:=fun _ _=> []
def kp2:List (Nat×TypeId×Ty×Bool)->List (AV T.U)->List (Ent T.U)->List (AV T.U)×List (Ent T.U)
 | [],aS,H=>(aS,H)
 |(j,e,t,b)::r,aS,H=>match aS[j]? with
  |some (.raw (.slice none 0 0))=>kp2 r (aS.set j (match b with|true=>.own H.length|false=>.sl H.length (szT T t) 0 0)) (H++ [.row e t []])
  |_=>kp2 r aS H
def kp1:List Nat->List (AV T.U)->List (Ent T.U)->List (AV T.U)
 | [],aS,_=>aS
 |j::r,aS,H=>match aS[j]? with
  |some (.own i)=>match H[i]? with
   |some (.row _ t xs)=>kp1 r (aS.set j (.sl i (szT T t) 0 xs.length)) H
   |_=>kp1 r aS H
  |_=>kp1 r aS H
structure Nl where
 rs:List (Nat×TypeId×Ty×Bool)
 ow:List Nat
 bn:List (Nat×Nat×TypeId×Ty)
 z:List (Nat×Ty)
 w:List Nat
def wl1 (post:List PE) (rs:List Sh) (aS:List (AV T.U)) (H:List (Ent T.U)):Option (zn9 T post×ze8 T rs):=
 match rdP T H post 0 (zp5 post 0) with
 |some (y,l)=>match zq2 T H rs aS l with
  |some (z,l')=>match zn2 l' with|true=>some (y,z)|false=>none
  |none=>none
 |none=>none
def yi7 (fn:Func) (nl:Nl) (a:List PE) (rs:List Sh) (b:St T):Option (zn9 T a×ze8 T rs):=
 match qb5 T P b fn.results.toList with
 |some c=>match kp3 T a.length nl.w c b.H with
  |some (d,H1)=>
   let p:=kp2 T nl.rs d (zf7 T nl.bn H1)
   gw6 T nl.z (kp1 T nl.ow p.1 p.2) p.2 (wl1 T a rs)
  |none=>none
 |none=>none
def jl2 (fn:Func) (nl:Nl) (a:List PE) (rs:List Sh):Ks T (zn9 T a×ze8 T rs):=⟨yi7 T P fn nl a rs,fun _ _=>none,yi7 T P fn nl a rs,fun _ _=>none⟩
noncomputable def topG (C:Ctx T) (b:List (Pos×Cut)) (fn:Func) (c:Code) (nl:Nl) (ps:List Sh) (a:List PE) (rs:List Sh) (m:Nat) (x:ze8 T ps):Option (zn9 T a×ze8 T rs):=
 evC P C fn.ntmps b (run P C fn.ntmps b c (jl2 T P fn nl a rs) m) c [] (jl2 T P fn nl a rs) ⟨yd6 T (zd0 T id ps x 0) 0,zh8 T id ps x 0⟩
noncomputable def cutG (C:Ctx T) (b:List (Pos×Cut)) (fn:Func) (c:Code) (nl:Nl) (a:List PE) (rs:List Sh) (m:Nat) (q:Pos) (st:St T):Option (zn9 T a×ze8 T rs):=
 run P C fn.ntmps b c (jl2 T P fn nl a rs) m q st
end
section
variable {T:Tab} {P:Program} {w w':World} {S S':List Nat} {φ φ':Nat->RA} {w0:World} {S0:Ow} {F:AF T} {H:List (Ent T.U)} {F':PF}
def yn2: ∀l:List Nat,zd9 (l.map some)=l
 | []=>rfl
 |i::r=>by rw [U0,zd9,yn2 r]
mutual
def vu1 (σ:Nat->Nat): ∀(s:Sh) (x:s.den T) (k:Nat),(mkE T σ s x k).length=s.cnt
 | .row e t,x,k=>rfl
 | .slr e t,x,k=>rfl
 | .ptr o e cs,x,k=>(congrArg (· +1) (zd2 σ cs x (k+1))).trans (J0 _ _)
 | .slb sz n e cs,x,k=>(congrArg (· +1) (zd2 σ cs x (k+1))).trans (J0 _ _)
 | .fn f a b,x,k=>by show (zh8 T σ a x.1 k++zh8 T σ b x.2 (k+zb9 a)).length=zb9 a+zb9 b;rw [X9,zd2 σ a,zd2 σ b]
 | .agg cs,x,k=>zd2 σ cs x k
 | .ifc t s,x,k=>vu1 σ s x k
 | .val _,x,k=>rfl
 | .at_ _ _,x,k=>rfl
 | .own _,x,k=>rfl
 | .part _ _,x,k=>rfl
 | .nils,x,k=>rfl
 | .nilp,x,k=>rfl
 | .lit _ _,x,k=>rfl
 | .arr _ _,x,k=>rfl
 | .lp _ _,x,k=>rfl
 | .asp _ _ _ _,x,k=>rfl
 | .asn e cs o sz n,x,k=>(congrArg (· +1) (zd2 σ cs x.1 (k+1))).trans (J0 _ _)
 | .asq e cs o sz n lo m,x,k=>(congrArg (· +1) (zd2 σ cs x (k+1))).trans (J0 _ _)
 | .ap _ _ _ _ _,x,k=>rfl
 | .mp kd keys cs,x,k=>(congrArg (· +1) (zd2 σ cs x (k+1))).trans (J0 _ _)
 | .mpo _,x,k=>rfl
 | .rw _,x,k=>rfl
 | .lpk _ _ _,x,k=>rfl
 | .tm _ _,x,k=>rfl
 | .dr _ _ _,x,k=>rfl
 | .pm _ _ _,x,k=>rfl
 | .gm,x,k=>rfl
 | .gmo _,x,k=>rfl
def zd2 (a): ∀(l x k),(zh8 T a l x k).length=zb9 l
 | [],x,k=>rfl
 |s::r,x,k=>by show (mkE T a s x.1 k++zh8 T a r x.2 (k+s.cnt)).length=s.cnt+zb9 r;rw [X9,vu1 a s,zd2 a r]
end
def zz4 (a): ∀(ps x k),(mkP T a ps x k).length=ps.length
 | [],x,k=>rfl
 |p::r,x,k=>by show (mkP T a r x.2 (k+p.cnt)).length+1=r.length+1;rw [zz4 a r]
def ya4 (a): ∀(ps x k),(yc8 T a ps x k).length=zf5 ps
 | [],x,k=>rfl
 |p::r,x,k=>by
  show (km1 T a p x.1 k++yc8 T a r x.2 (k+p.cnt)).length=p.cnt+zf5 r;rw [X9,ya4 a r];cases p with
  |gone=>rfl
  |gm=>rfl
  |row e t=>rfl
  |tmap k t=>rfl
  |dr e d fe=>rfl
  |pm k c d=>rfl
  |blk e cs=>exact congrArg (· +zf5 r) (zd2 a cs x.1 k)
  |map f b cs=>exact congrArg (· +zf5 r) (zd2 a cs x.1 k)
mutual
def vu0 (τ:Nat->Nat): ∀(s:Sh) (x:s.den T) (k:Nat),(mkA T id s x k).ren τ=mkA T τ s x k
 | .val t,x,k=>vd7 t x τ
 | .row e t,x,k=>rfl
 | .slr e t,x,k=>rfl
 | .ptr o e cs,x,k=>rfl
 | .slb sz n e cs,x,k=>rfl
 | .fn f a b,x,k=>by
  show AV.fn (.func f) (zk5 τ (zd0 T id a x.1 k)) (zk5 τ (zd0 T id b x.2 (k+zb9 a)))=.fn (.func f) (zd0 T τ a x.1 k) (zd0 T τ b x.2 (k+zb9 a));rw [zf6 τ a,zf6 τ b]
 | .agg cs,x,k=>congrArg AV.agg (zf6 τ cs x k)
 | .ifc t s,x,k=>congrArg (AV.ifc t) (vu0 τ s x k)
 | .at_ _ _,x,k=>rfl
 | .own _,x,k=>rfl
 | .part _ _,x,k=>rfl
 | .nils,x,k=>rfl
 | .nilp,x,k=>rfl
 | .lit _ _,x,k=>rfl
 | .arr _ _,x,k=>rfl
 | .lp _ _,x,k=>rfl
 | .asp _ _ _ _,x,k=>rfl
 | .asn _ _ _ _ _,x,k=>rfl
 | .asq _ _ _ _ _ _ _,x,k=>rfl
 | .ap _ _ _ _ _,x,k=>rfl
 | .mp _ _ _,x,k=>rfl
 | .mpo _,x,k=>rfl
 | .rw _,x,k=>rfl
 | .lpk _ _ _,x,k=>rfl
 | .tm _ _,x,k=>rfl
 | .dr _ _ _,x,k=>rfl
 | .pm _ _ _,x,k=>rfl
 | .gm,x,k=>rfl
 | .gmo _,x,k=>rfl
def zf6 (a): ∀(l x k),zk5 a (zd0 T id l x k)=zd0 T a l x k
 | [],x,k=>rfl
 |s::r,x,k=>by
  show (mkA T id s x.1 k).ren a::zk5 a (zd0 T id r x.2 (k+s.cnt))=mkA T a s x.1 k::zd0 T a r x.2 (k+s.cnt);rw [vu0 a s,zf6 a r]
end
def yk2 {α:Type} {a b:α} {l m:List α} (h:a=b) (c:l=m):a::l=b::m:=by rw [h,c]
def gg3 {α:Type} {a b l m:List α} (h:a=b) (c:l=m):a++l=b++m:=by rw [h,c]
mutual
def vu2 (τ:Nat->Nat): ∀(s:Sh) (x:s.den T) (k:Nat),(mkE T id s x k).map (Ent.ren τ)=mkE T τ s x k
 | .row e t,x,k=>rfl
 | .slr e t,x,k=>rfl
 | .ptr o e cs,x,k=>yk2 (congrArg (Ent.blk e) (zf6 τ cs x (k+1))) (zj4 τ cs x (k+1))
 | .slb sz n e cs,x,k=>yk2 (congrArg (Ent.blk e) (zf6 τ cs x (k+1))) (zj4 τ cs x (k+1))
 | .fn f a b,x,k=>by
  show (zh8 T id a x.1 k++zh8 T id b x.2 (k+zb9 a)).map (Ent.ren τ)=zh8 T τ a x.1 k++zh8 T τ b x.2 (k+zb9 a);rw [V8,zj4 τ a,zj4 τ b]
 | .agg cs,x,k=>zj4 τ cs x k
 | .ifc t s,x,k=>vu2 τ s x k
 | .val _,x,k=>rfl
 | .at_ _ _,x,k=>rfl
 | .own _,x,k=>rfl
 | .part _ _,x,k=>rfl
 | .nils,x,k=>rfl
 | .nilp,x,k=>rfl
 | .lit _ _,x,k=>rfl
 | .arr _ _,x,k=>rfl
 | .lp _ _,x,k=>rfl
 | .asp _ _ _ _,x,k=>rfl
 | .asn e cs _ _ _,x,k=>yk2 (congrArg (Ent.blk e) (zf6 τ cs x.1 (k+1))) (zj4 τ cs x.1 (k+1))
 | .asq e cs _ _ _ _ _,x,k=>yk2 (congrArg (Ent.blk e) (zf6 τ cs x (k+1))) (zj4 τ cs x (k+1))
 | .ap _ _ _ _ _,x,k=>rfl
 | .mp kd keys cs,x,k=>yk2 (congrArg (Ent.map kd) ((yn9 τ keys _).trans (congrArg (yj8 keys) (zf6 τ cs x (k+1))))) (zj4 τ cs x (k+1))
 | .mpo _,x,k=>rfl
 | .rw _,x,k=>rfl
 | .lpk _ _ _,x,k=>rfl
 | .tm _ _,x,k=>rfl
 | .dr _ _ _,x,k=>rfl
 | .pm _ _ _,x,k=>rfl
 | .gm,x,k=>rfl
 | .gmo _,x,k=>rfl
def zj4 (a): ∀(l x k),(zh8 T id l x k).map (Ent.ren a)=zh8 T a l x k
 | [],x,k=>rfl
 |s::r,x,k=>by
  show (mkE T id s x.1 k++zh8 T id r x.2 (k+s.cnt)).map (Ent.ren a)=mkE T a s x.1 k++zh8 T a r x.2 (k+s.cnt);rw [V8,vu2 a s,zj4 a r]
end
def jp6 (a): ∀(ps x k),(mkP T id ps x k).map (Ent.ren a)=mkP T a ps x k
 | [],x,k=>rfl
 |p::r,x,k=>by
  show (wa6 T id p x.1 k).ren a::(mkP T id r x.2 (k+p.cnt)).map (Ent.ren a)=wa6 T a p x.1 k::mkP T a r x.2 (k+p.cnt);rw [jp6 a r];cases p with
  |gone=>rfl
  |gm=>rfl
  |row e t=>rfl
  |tmap k t=>rfl
  |dr e d fe=>rfl
  |pm k f d=>rfl
  |blk e cs=>exact yk2 (congrArg (Ent.blk e) (zf6 a cs x.1 k)) rfl
  |map c b cs=>exact yk2 (congrArg (Ent.map c) ((yn9 a b _).trans (congrArg (yj8 b) (zf6 a cs x.1 k)))) rfl
def ja9 (a): ∀(ps x k),(yc8 T id ps x k).map (Ent.ren a)=yc8 T a ps x k
 | [],x,k=>rfl
 |p::r,x,k=>by
  show (km1 T id p x.1 k++yc8 T id r x.2 (k+p.cnt)).map (Ent.ren a)=km1 T a p x.1 k++yc8 T a r x.2 (k+p.cnt);rw [V8,ja9 a r];cases p with
  |gone=>rfl
  |gm=>rfl
  |row e t=>rfl
  |tmap k t=>rfl
  |dr e d fe=>rfl
  |pm k c d=>rfl
  |blk e cs=>exact gg3 (zj4 a cs x.1 k) rfl
  |map f b cs=>exact gg3 (zj4 a cs x.1 k) rfl
def kv0 (a:Nat->Nat) (s:Sh) (x:s.den T) (k:Nat):zj5 (mkA T a s x k)=true:=by
 cases s with
 |val t=>exact yw0 t x
 |_=>rfl
def zt1 (b): ∀(l x k),∀a∈zd0 T b l x k,zj5 a=true
 | [],x,k,a,h=>by cases h
 |s::r,x,k,a,h=>by
  have h:a∈mkA T b s x.1 k::zd0 T b r x.2 (k+s.cnt):=h;rcases Z0.1 h with rfl|h
  ·exact kv0 b s x.1 k
  ·exact zt1 b r x.2 _ a h
def zl7 {ρ:Nat->Nat} {n:Nat} {aS:List (AV T.U)} (h: ∀i∈za1 aS,ρ i<n): ∀i∈za1 (zk5 ρ aS),i<n:=by
 intro i hi;rw [zv9] at hi;obtain ⟨j,hj,rfl⟩:=U5.1 hi;exact h j hj
def zt7 {ids}: ∀ {a},ym0 T H ids a=true->ids.length=a.length/\ ∀(k i:Nat) (e:TypeId) (t:Ty),ids[k]?=some i->a[k]?=some (.row e t)-> ∃xs,H[i]?=some (.row e t xs):=by
 induction ids with
 |nil=>
  intro a h;cases a with
  |nil=>exact ⟨rfl,fun k i e t h=>by simp at h⟩
  |cons _ _=>cases h
 |cons j r d=>
  intro a h;cases a with
  |nil=>cases h
  |cons p q=>
   unfold ym0 at h;simp only [X3] at h;obtain ⟨f,g⟩:=d h.2;refine ⟨by simp [f],fun k i e t b c=>?_⟩;cases k with
   |zero=>
    simp at b c;subst b;subst c;obtain ⟨xs,l⟩:=N3.1 h.1;exact ⟨xs,zz8 l⟩
   |succ k=>exact g k i e t (by simpa using b) (by simpa using c)
def yt0 {a:Nat->Nat}: ∀ {ps:List PE} {x:zn9 T ps} {k j:Nat} {e:TypeId} {t:Ty} {ys:List (den T.U t)},(mkP T a ps x k)[j]?=some (.row e t ys)->ps[j]?=some (.row e t)
 | [],x,k,j,e,t,ys,h=>by simp [mkP] at h
 |p::r,x,k,j,e,t,ys,h=>by
  have h:(wa6 T a p x.1 k::mkP T a r x.2 (k+p.cnt))[j]?=some (.row e t ys):=h;cases j with
  |succ j=>simp only [List.getElem?_cons_succ] at h⊢;exact yt0 h
  |zero=>
   simp only [Y4,X0] at h⊢;cases p with
   |gone=>cases h
   |gm=>cases h
   |row b c=>
    simp only [wa6,Ent.row.injEq] at h;obtain ⟨rfl,rfl,_⟩:=h;rfl
   |blk _ _=>cases h
   |map _ _ _=>cases h
   |tmap _ _=>cases h
   |dr _ _ _=>cases h
   |pm _ _ _=>cases h
def ji2 {f:FuncId} {sp:GSpec T} {alt:CallSpec T} (hok:GOk T P f sp) (ha:zc0 T P f alt):zc0 T P f (sp.toCall alt):=by
 intro R aS H K Kp r hr w0 S0 F F' w S φ h vs hvs has;simp only [GSpec.toCall] at hr;split at hr
 ·rename_i x l hx;split at hr
  ·rename_i hb;simp only [X3] at hb;obtain ⟨hn,hro⟩:=hb;obtain ⟨y,hy,hK⟩:=zb8 hr;obtain ⟨new,g1,g2,g3⟩:=ze7 sp.ps aS [] l x hx;have hl:l=new.map some:=by rw [g1.eq];rfl
   have hids:zd9 l=new:=by rw [hl,yn2]
   rw [hids] at hn hro hK;have hno:zn2 l=true:=by
    rw [hl];clear hK hro hids hx g1 g2 g3 hl;induction new with
    |nil=>rfl
    |cons i r ih=>
     rw [ze4,X3,V7] at hn;rw [U0,zn2,ih hn.2,Bool.and_true,V7];cases hm:qx8 i (r.map some) with
     |false=>rfl
     |true=>
      have:=yg6.1 hm;obtain ⟨j,hj,e⟩:=U5.1 this;simp only [X0] at e;subst e;rw [zc9.2 hj] at hn;exact absurd hn.1 (by simp)
   obtain ⟨q1,q2⟩:=g3 _ (yj1 hno);obtain ⟨hlen,hrow⟩:=zt7 hro;have hnewlen:new.length=zb9 sp.ps:=g2;obtain ⟨c0,x0,p0⟩:=S0;have hs:=(h.unpin.src (l:=l) hno (fun k hk=>by simp at hk) (fun i e hi he j hj=>by
    rw [hl] at hi;obtain ⟨i',hi',e'⟩:=U5.1 hi;simp only [X0] at e';subst e';obtain ⟨e0,h1,_,h3⟩:=g1.ents i' hi';rw [he] at h1;simp only [X0] at h1;subst h1;exact h3 j hj))
   rw [show zj3 T H (fun i=>yv3 i l) l=zf4 T H (fun i=>yv3 i l) new by rw [hl,zx7]] at hs;have hs:=(hs.imp q2).start;rw [zd2,<-hnewlen] at hs;have hφc: ∀k i,new[k]?=some i->φO l φ k=φ i:=fun k i hk=>φO_at (by rw [hl,W2,hk];rfl);have hvs':VRL T w S (φO l φ) (zd0 T id sp.ps x 0) vs:=q1.vrl (VRL.ren T (fun i hi=>φO_idx (g1.ids i hi)) hvs);have hoks: ∀a∈zd0 T id sp.ps x 0,okA (zh8 T id sp.ps x 0) a:=fun a ha=>ze6 (zt1 id _ _ _ a ha) fun i hi=>by
    have hi:=zi2 ha i hi;rw [show za1 (zd0 T id sp.ps x 0)=_ from q1.ids] at hi;rw [zd2,<-hnewlen];refine zl7 (fun j hj=>?_) i hi;have:=(X2.1 (zm7 (g1.ids j hj))).1;rw [hl,V1] at this;rw [hl];exact this
   refine (hok x y hy w S (φO l φ) (by rw [<-hnewlen];exact hs) vs hvs' hoks).mono fun e w' hR=>?_;cases e with
   |returned v=>
    obtain ⟨F1,S1,φ1,us,k1,k2,rfl,k3⟩:=hR;rw [<-hnewlen] at k1;obtain ⟨φ2,m1,m2⟩:=h.join hn (fun i hi=>by obtain ⟨e,a,b,_⟩:=g1.ents i hi;exact ⟨e,a,b⟩) hφc k1 (by rw [zz4,hlen]) (fun k i e t ys hk hp=>hrow k i e t hk (yt0 hp));rw [jp6,V8,ja9,zj4] at m1;have hv2:VRL T w' S1 φ2 (zd0 T (σJ new H.length) sp.rs y.2 (sp.post.length+zf5 sp.post)) us:=by
     rw [<-zf6];rw [zz4,X9,ya4,zd2] at m2;generalize zd0 T id sp.rs y.2 (sp.post.length+zf5 sp.post)=rs at k2 k3;clear hK m1 k1;induction rs generalizing us with
     |nil=>cases us<;>exact k2
     |cons a r ih=>
      match us,k2 with
      |u::us,k2=>
       rw [zk5];exact ⟨m2 a u k2.1 fun i hi=>k3 i (by rw [za1];exact X4.2 (.inl hi)),ih _ k2.2 fun i hi=>k3 i (by rw [za1];exact X4.2 (.inr hi))⟩
    refine ⟨_,_,hK,S1,φ2,m1,yg9 hv2,?_⟩;have hlt: ∀i∈za1 (zd0 T (σJ new H.length) sp.rs y.2 (sp.post.length+zf5 sp.post)),i<(zh0 T H new (mkP T (σJ new H.length) sp.post y.1 sp.post.length)++(yc8 T (σJ new H.length) sp.post y.1 sp.post.length++zh8 T (σJ new H.length) sp.rs y.2 (sp.post.length+zf5 sp.post))).length:=by
     rw [<-zf6];refine zl7 fun j hj=>?_;have hj:=k3 j hj;rw [X9,X9,zb2,ya4,zd2];by_cases hlt:j<new.length
     ·have hs:=σJ_lo (n:=H.length) hlt;obtain ⟨e,h1,_,_⟩:=g1.ents _ (X6 hs);have:=(X2.1 h1).1;omega
     ·rw [σJ_hi (by omega)];omega
    have hne:zj5 (zl6 T (zd0 T (σJ new H.length) sp.rs y.2 (sp.post.length+zf5 sp.post)))=true:=by
     unfold zl6;split
     ·rename_i a hl;exact zt1 (σJ new H.length) sp.rs y.2 _ a (by rw [hl];simp)
     ·rfl
    refine ze6 hne fun i hi=>hlt i ?_;unfold zl6 at hi;split at hi
    ·rename_i a hl;rw [hl,za1];exact X4.2 (.inl hi)
    ·rw [AV.ids] at hi;exact hi
   |panicked ch=>exact hR.elim
   |outgrown=>exact hR.elim
  ·cases hr
 ·exact ha aS H K Kp r hr w0 S0 F F' w S φ h vs hvs has
def uh0 {sp:GSpec T} {alt:CallSpec T} (ha:yj9 alt):yj9 (sp.toCall alt):=by
 intro R aS H K Kp r hr;simp only [GSpec.toCall] at hr;split at hr
 ·rename_i x l hx;split at hr
  ·rename_i hb;obtain ⟨y,hy,hK⟩:=zb8 hr;simp only [X3] at hb;obtain ⟨hlen,hrow⟩:=zt7 hb.2;refine .inl ⟨_,_,hK,?_,fun K' Kp'=>by simp only [GSpec.toCall,hx,hb.1,hb.2,V2,hy,j6]⟩;have hw:(GSpec.toCall sp alt).wr aS H=zd9 l:=by simp only [GSpec.toCall,hx]
   rw [hw];have hl:(mkP T (σJ (zd9 l) H.length) sp.post y.1 sp.post.length).length=(zd9 l).length:=by rw [zz4,hlen]
   refine ⟨by rw [X9,zb2];omega,fun e he hn=>?_,fun e ty t ys he h=>?_⟩
   ·rw [X8 (by rw [zb2];exact he)];obtain ⟨f,hf⟩: ∃f,(zh0 T H (zd9 l) (mkP T (σJ (zd9 l) H.length) sp.post y.1 sp.post.length))[e]?=some f:=⟨_,Y0 (by rw [zb2];exact he)⟩;rcases zh3 _ _ H hl hf with ⟨k,g1,_⟩|⟨_,g2⟩
    ·exact absurd (X6 g1) hn
    ·rw [hf,g2]
   ·rw [X8 (by rw [zb2];exact he)] at h;rcases zh3 _ _ H hl h with ⟨k,g1,g2⟩|⟨_,g2⟩
    ·exact hrow k e ty t g1 (yt0 g2)
    ·exact ⟨ys,g2⟩
  ·cases hr
 ·rename_i hx;have hw:(GSpec.toCall sp alt).wr aS H=alt.wr aS H:=by simp only [GSpec.toCall,hx]
  rcases ha aS H K Kp r hr with ⟨a,H1,h1,h2,h3⟩|⟨a,H1,h1,h2,h3⟩
  ·exact .inl ⟨a,H1,h1,by rw [hw];exact h2,fun K' Kp'=>by simp only [GSpec.toCall,hx,h3]⟩
  ·exact .inr ⟨a,H1,h1,by rw [hw];exact h2,fun K' Kp'=>by simp only [GSpec.toCall,hx,h3]⟩
def yu8 {w0:World} {S0:Ow} {F:AF T} {F':PF} {w:World} {S:List Nat}: ∀(l:List (Nat×TypeId×Ty×Bool)) {aS:List (AV T.U)} {us:List Value} {H:List (Ent T.U)} {φ:Nat->RA},Sim T w0 S0 ⟨F,H⟩ F' w S φ->(∀i∈za1 aS,i<H.length)->VRL T w S φ aS us->
  ∃φ',Sim T w0 S0 ⟨F,(kp2 T l aS H).2⟩ F' w S φ'/\VRL T w S φ' (kp2 T l aS H).1 us
 | [],aS,us,H,φ,h,hi,hv=>⟨φ,h,hv⟩
 |(j,e,t,b)::r,aS,us,H,φ,h,hi,hv=>by
  unfold kp2;split
  ·rename_i ha;obtain ⟨v,hu,hvr⟩:=hv.get T ha;rw [VR] at hvr;subst hvr;have h1:=h.addNil e t;have hv1:VRL T w S (yd4 φ H.length ⟨none,0,0,[]⟩) aS us:=hv.phi fun i hm=>zj9 (by have:=hi i hm;omega);have hnew:VR T w S (yd4 φ H.length ⟨none,0,0,[]⟩) (match b with|true=>AV.own H.length|false=>.sl H.length (szT T t) 0 0) (.slice none 0 0):=by
    cases b with
    |true=>rw [VR,za8]
    |false=>rw [VR,za8];exact ⟨none,rfl,W6 _,.inl rfl,fun _=>⟨rfl,rfl⟩,fun _=>rfl⟩
   have hs:=hv1.set T j hnew;rw [show us.set j (.slice none 0 0)=us by
    obtain ⟨hlt,hg⟩:=X2.1 hu;rw [<-hg,N1]] at hs
   refine yu8 r h1 (fun i hm=>?_) hs;obtain ⟨a,ha',hia⟩:=zu6 hm;rcases N4 ha' with ha'|ha'
   ·have:=hi i (zi2 ha' i hia);simp;omega
   ·subst ha';cases b<;>simp [AV.ids] at hia<;>subst hia<;>simp
  ·exact yu8 r h hi hv
def yi1 {w0:World} {S0:Ow} {F:AF T} {F':PF} {w:World} {S:List Nat} {H:List (Ent T.U)} {φ:Nat->RA} (h:Sim T w0 S0 ⟨F,H⟩ F' w S φ): ∀(l:List Nat) {aS:List (AV T.U)} {us:List Value},VRL T w S φ aS us->VRL T w S φ (kp1 T l aS H) us
 | [],aS,us,hv=>hv
 |j::r,aS,us,hv=>by
  unfold kp1;split
  ·rename_i i ha;split
   ·rename_i e t xs hi;refine yi1 h r ?_;obtain ⟨v,hu,hvr⟩:=hv.get T ha;obtain ⟨B,vals,o1,o2,o3,o4,o5⟩:=h.ents i _ hi;rw [VR] at hvr;subst hvr;rw [o2] at o1;have hnew:VR T w S φ (.sl i (szT T t) 0 xs.length) (.slice (φ i).ad (φ i).n (φ i).cap):=by
     refine ⟨(φ i).ad,?_,?_,?_,fun hn=>o1.nil0 hn,fun _=>rfl⟩
     ·show Value.slice (φ i).ad (φ i).n (φ i).cap=Value.slice (φ i).ad xs.length ((φ i).cap-0);rw [o2];rfl
     ·show 0+xs.length<=(φ i).cap;rw [W9];exact o1.le.1
     rcases o1.cases with ⟨_,hn,_⟩|⟨c,had,_⟩
     ·exact .inl hn
     ·refine .inr ⟨_,had,had.trans ?_⟩;show some (⟨_,0,none⟩:Addr)=some ⟨_,0+0*_,none⟩;rw [M9]
    have hs:=hv.set T j hnew;rwa [show us.set j (.slice (φ i).ad (φ i).n (φ i).cap)=us by
     obtain ⟨hlt,hg⟩:=X2.1 hu;rw [<-hg,N1]] at hs
   ·exact yi1 h r hv
  ·exact yi1 h r hv
end
end Go.X
namespace Go.X
open Go.RowKit Go.V
section
variable {T:Tab} {P:Program} {w w':World} {S S':List Nat} {φ φ':Nat->RA} {w0:World} {S0:Ow} {F:AF T} {H:List (Ent T.U)} {F':PF}
def vc0 {H:List (Ent T.U)}: ∀(ps:List PE) (j:Nat) (l l':Src) (x:zn9 T ps),rdP T H ps j l=some (x,l')->
  ∃new,l'=l++new.map some/\new.length=zf5 ps/\(∀i∈new,∃e,H[i]?=some e/\e.live=true/\ ∀j∈e.cellIds,some j∈l')/\(∀i,some i∈zp5 ps j-> ∃e,H[i]?=some e/\ ∀j∈e.cellIds,some j∈l')/\
   ∀ρ,Places ρ l'->ImpH T (zj3 T H ρ (zp5 ps j)) (mkP T id ps x l.length)/\ImpH T (zf4 T H ρ new) (yc8 T id ps x l.length)
 | [],j,l,l',x,h=>by
  simp only [rdP,X0,X7] at h;obtain ⟨_,rfl⟩:=h;exact ⟨[],by simp,rfl,(by intro i hi;cases hi),(by intro i hi;cases hi),fun ρ hρ=>⟨.nil,.nil⟩⟩
 |p::r,j,l,l',x,h=>by
  unfold rdP at h;split at h<;>try (cases h;done)
  rename_i y l1 hy;obtain ⟨z,hz,rfl⟩:=zr7 h;obtain ⟨n2,k1,k2,k3,k4,k5⟩:=vc0 r (j+1) l1 l' z hz;have hsub: ∀i,some i∈l1->some i∈l':=fun i hi=>by rw [k1];exact X4.2 (.inl hi)
  cases p with
  |gone=>
   simp only [vk0,X0,X7] at hy;obtain ⟨_,rfl⟩:=hy;refine ⟨n2,k1,by rw [k2];show _=0+zf5 r;omega,k3,fun i hi=>?_,fun ρ hρ=>?_⟩
   ·have hi:some i∈none::zp5 r (j+1):=hi;exact k4 i (by simpa using hi)
   ·obtain ⟨q1,q2⟩:=k5 ρ hρ;exact ⟨.cons (.same _) q1,q2⟩
  |row e t=>
   simp only [vk0] at hy;split at hy<;>try (cases hy;done)
   rename_i xs hx;simp only [X0,X7] at hy;obtain ⟨rfl,rfl⟩:=hy;have hx:=zz8 hx;refine ⟨n2,k1,by rw [k2];show _=0+zf5 r;omega,k3,fun i hi=>?_,fun ρ hρ=>?_⟩
   ·have hi:some i∈some j::zp5 r (j+1):=hi;rcases Z0.1 hi with hi|hi
    ·simp only [X0] at hi;subst hi;exact ⟨_,hx,by intro j hj;cases hj⟩
    ·exact k4 i hi
   ·obtain ⟨q1,q2⟩:=k5 ρ hρ;refine ⟨?_,q2⟩;show ImpH T ((match H[j]? with|some e=>e.ren ρ|none=>.gone)::zj3 T H ρ (zp5 r (j+1))) _;rw [hx];exact .cons (.same _) q1
  |tmap kd t=>
   simp only [vk0] at hy;split at hy<;>try (cases hy;done)
   rename_i xs hx;simp only [X0,X7] at hy;obtain ⟨rfl,rfl⟩:=hy;have hx:=qj5 hx;refine ⟨n2,k1,by rw [k2];show _=0+zf5 r;omega,k3,fun i hi=>?_,fun ρ hρ=>?_⟩
   ·have hi:some i∈some j::zp5 r (j+1):=hi;rcases Z0.1 hi with hi|hi
    ·simp only [X0] at hi;subst hi;exact ⟨_,hx,by intro j hj;cases hj⟩
    ·exact k4 i hi
   ·obtain ⟨q1,q2⟩:=k5 ρ hρ;refine ⟨?_,q2⟩;show ImpH T ((match H[j]? with|some e=>e.ren ρ|none=>.gone)::zj3 T H ρ (zp5 r (j+1))) _;rw [hx];exact .cons (.same _) q1
  |gm=>
   simp only [vk0] at hy;split at hy<;>try (cases hy;done)
   rename_i hx;simp only [X0,X7] at hy;obtain ⟨rfl,rfl⟩:=hy;have hx:=jo4 hx;refine ⟨n2,k1,by rw [k2];show _=0+zf5 r;omega,k3,fun i hi=>?_,fun ρ hρ=>?_⟩
   ·have hi:some i∈some j::zp5 r (j+1):=hi;rcases Z0.1 hi with hi|hi
    ·simp only [X0] at hi;subst hi;exact ⟨_,hx,by intro j hj;cases hj⟩
    ·exact k4 i hi
   ·obtain ⟨q1,q2⟩:=k5 ρ hρ;refine ⟨?_,q2⟩;show ImpH T ((match H[j]? with|some e=>e.ren ρ|none=>.gone)::zj3 T H ρ (zp5 r (j+1))) _;rw [hx];exact .cons (.same _) q1
  |dr e d fe=>
   simp only [vk0] at hy;split at hy<;>try (cases hy;done)
   rename_i xs hx;simp only [X0,X7] at hy;obtain ⟨rfl,rfl⟩:=hy;have hx:=je6 hx;refine ⟨n2,k1,by rw [k2];show _=0+zf5 r;omega,k3,fun i hi=>?_,fun ρ hρ=>?_⟩
   ·have hi:some i∈some j::zp5 r (j+1):=hi;rcases Z0.1 hi with hi|hi
    ·simp only [X0] at hi;subst hi;exact ⟨_,hx,by intro j hj;cases hj⟩
    ·exact k4 i hi
   ·obtain ⟨q1,q2⟩:=k5 ρ hρ;refine ⟨?_,q2⟩;show ImpH T ((match H[j]? with|some e=>e.ren ρ|none=>.gone)::zj3 T H ρ (zp5 r (j+1))) _;rw [hx];exact .cons (.same _) q1
  |pm k be d=>
   simp only [vk0] at hy;split at hy<;>try (cases hy;done)
   rename_i xs hx;simp only [X0,X7] at hy;obtain ⟨rfl,rfl⟩:=hy;have hx:=qg8 hx;refine ⟨n2,k1,by rw [k2];show _=0+zf5 r;omega,k3,fun i hi=>?_,fun ρ hρ=>?_⟩
   ·have hi:some i∈some j::zp5 r (j+1):=hi;rcases Z0.1 hi with hi|hi
    ·simp only [X0] at hi;subst hi;exact ⟨_,hx,by intro j hj;cases hj⟩
    ·exact k4 i hi
   ·obtain ⟨q1,q2⟩:=k5 ρ hρ;refine ⟨?_,q2⟩;show ImpH T ((match H[j]? with|some e=>e.ren ρ|none=>.gone)::zj3 T H ρ (zp5 r (j+1))) _;rw [hx];exact .cons (.same _) q1
  |blk e cs=>
   simp only [vk0] at hy;split at hy<;>try (cases hy;done)
   rename_i aS hb;have hb:=zr2 hb;obtain ⟨n1,g1,g2,g3⟩:=ze7 cs aS l l1 y hy;have hlen:l1.length=l.length+zb9 cs:=by rw [g1.eq,X9,V1,g2]
   refine ⟨n1++n2,by rw [k1,g1.eq,V8,Q2],by rw [X9,g2,k2];rfl,fun i hi=>?_,fun i hi=>?_,fun ρ hρ=>?_⟩
   ·rcases X4.1 hi with hi|hi
    ·obtain ⟨e,a,b,c⟩:=g1.ents i hi;exact ⟨e,a,b,fun j hj=>hsub j (c j hj)⟩
    ·exact k3 i hi
   ·have hi:some i∈some j::zp5 r (j+1):=hi;rcases Z0.1 hi with hi|hi
    ·simp only [X0] at hi;subst hi;exact ⟨_,hb,fun j hj=>hsub j (g1.ids j hj)⟩
    ·exact k4 i hi
   ·obtain ⟨q1,q2⟩:=k5 ρ hρ;obtain ⟨q3,q4⟩:=g3 ρ (by rw [k1] at hρ;exact hρ.pre);rw [hlen] at q1 q2;refine ⟨?_,by rw [zr5];exact q4.app q2⟩;show ImpH T ((match H[j]? with|some e=>e.ren ρ|none=>.gone)::zj3 T H ρ (zp5 r (j+1))) _;rw [hb];exact .cons (.blk q3) q1
  |map kd keys cs=>
   simp only [vk0] at hy;split at hy<;>try (cases hy;done)
   rename_i aS hb;have hb:=jp4 hb;obtain ⟨n1,g1,g2,g3⟩:=ze7 cs aS l l1 y hy;have hlen:l1.length=l.length+zb9 cs:=by rw [g1.eq,X9,V1,g2]
   refine ⟨n1++n2,by rw [k1,g1.eq,V8,Q2],by rw [X9,g2,k2];rfl,fun i hi=>?_,fun i hi=>?_,fun ρ hρ=>?_⟩
   ·rcases X4.1 hi with hi|hi
    ·obtain ⟨e,a,b,c⟩:=g1.ents i hi;exact ⟨e,a,b,fun j hj=>hsub j (c j hj)⟩
    ·exact k3 i hi
   ·have hi:some i∈some j::zp5 r (j+1):=hi;rcases Z0.1 hi with hi|hi
    ·simp only [X0] at hi;subst hi;exact ⟨_,hb,fun j hj=>hsub j (g1.ids j (jy2 keys aS j hj))⟩
    ·exact k4 i hi
   ·obtain ⟨q1,q2⟩:=k5 ρ hρ;obtain ⟨q3,q4⟩:=g3 ρ (by rw [k1] at hρ;exact hρ.pre);rw [hlen] at q1 q2;refine ⟨?_,by rw [zr5];exact q4.app q2⟩;show ImpH T ((match H[j]? with|some e=>e.ren ρ|none=>.gone)::zj3 T H ρ (zp5 r (j+1))) _;rw [hb];refine .cons ?_ q1;show ImpE T (.map kd (qn0 ρ (yj8 keys aS))) _;rw [yn9];exact .map q3
def zm4: ∀(ps j),(zp5 ps j).length=ps.length
 | [],j=>rfl
 | .gone::r,j=>by simp [zp5,zm4 r]
 | .row _ _::r,j=>by simp [zp5,zm4 r]
 | .tmap _ _::r,j=>by simp [zp5,zm4 r]
 | .dr _ _ _::r,j=>by simp [zp5,zm4 r]
 | .pm _ _ _::r,j=>by simp [zp5,zm4 r]
 | .gm::r,j=>by simp [zp5,zm4 r]
 | .blk _ _::r,j=>by simp [zp5,zm4 r]
 | .map _ _ _::r,j=>by simp [zp5,zm4 r]
def vy7: ∀(ps j k),k<ps.length->(zp5 ps j)[k]?=some (some (j+k))\/(zp5 ps j)[k]?=some none
 | [],j,k,h=>by simp at h
 |p::r,j,0,h=>by cases p<;>simp [zp5]
 |p::r,j,k+1,h=>by
  have:=vy7 r (j+1) k (by simpa using h);rw [show j+1+k=j+(k+1) by omega] at this;cases p<;>simpa [zp5] using this
def zj1 {w0:World} {S0:Ow} {F:AF T} {F':PF} {w:World} {S:List Nat}: ∀(l:List (Nat×Nat×TypeId×Ty)) {aS:List (AV T.U)} {us:List Value} {H:List (Ent T.U)} {φ:Nat->RA},Sim T w0 S0 ⟨F,H⟩ F' w S φ->VRL T w S φ aS us->(∀i∈za1 aS,i<H.length)->
  ∃φ',Sim T w0 S0 ⟨F,zf7 T l H⟩ F' w S φ'/\VRL T w S φ' aS us/\ ∀i∈za1 aS,i<(zf7 T l H).length
 | [],aS,us,H,φ,h,hv,hi=>⟨φ,h,hv,hi⟩
 |(i,c,e,t)::r,aS,us,H,φ,h,hv,hids=>by
  unfold zf7;split
  ·obtain ⟨φ1,h1,h2,h3⟩:=h.closeL (List.range H.length);exact zj1 r h1 (hv.phiS fun i _=>h2 i) fun i hm=>by rw [h3];exact hids i hm
  split
  ·rename_i e0 cs hi;split
   ·rename_i hc;have h1:=h.addNilE e t;have hil:=(X2.1 hi).1;obtain ⟨g,cv,a1,a2,a3,a4⟩:=h1.ents i _ (by rw [X8 hil];exact hi);have h2:=h1.upd (i:=i) (e0:=.blk e0 cs) (e:=.blk e0 (cs.set c (.own H.length))) (Tc:= []) (w':=w) (by rw [X8 hil];exact hi) rfl (Chg.refl [] w) (by simp)
     ⟨g,cv,a1,a2,a3,BR.swap (b:=.own H.length) rfl rfl (fun v hv=>by rw [VR] at hv;subst hv;rw [VR,za8]) a4 hc⟩
     (by
      intro j hj;rw [Ent.cellIds] at hj;obtain ⟨b,hb,hjb⟩:=zu6 hj;rcases N4 hb with hb|hb
      ·have:=h.eids i _ hi j (by rw [Ent.cellIds];exact zi2 hb j hjb);simp at this⊢;omega
      ·subst hb;simp [AV.ids] at hjb;subst hjb;simp) (by intro _ _ _ h;cases h)
    have hset:(H++ [zy3 T e t]).set i (.blk e0 (cs.set c (.own H.length)))=H.set i (.blk e0 (cs.set c (.own H.length)))++ [zy3 T e t]:=by
     rw [List.set_append_left _ _ hil]
    rw [hset] at h2;exact zj1 r h2 (hv.phi fun i hm=>zj9 (by have:=hids i hm;omega)) fun i hm=>by have:=hids i hm;simp;omega
   ·rename_i k hc;split
    ·split
     ·rename_i e' t' xs hk;exact zj1 r (h.cellSl hi hc hk) hv fun i hm=>by have:=hids i hm;simpa using this
     ·exact zj1 r h hv hids
    ·exact zj1 r h hv hids
   ·exact zj1 r h hv hids
  ·exact zj1 r h hv hids
end
section
variable (T:Tab)
def jn1 (a:List PE) (rs:List Sh) (y:zn9 T a) (z:ze8 T rs) (w:World) (S:List Nat) (φ:Nat->RA) (b:Nat) (w':World) (us:List Value):Prop:=
 ∃(F1:PF) (S1:List Nat) (c:Nat->RA),Sim T w ⟨zd8 φ b,S,(List.range b).map φ⟩ ⟨[],mkP T id a y a.length++(yc8 T id a y a.length++zh8 T id rs z (a.length+zf5 a))⟩ F1 w' S1 c/\
  VRL T w' S1 c (zd0 T id rs z (a.length+zf5 a)) us/\ ∀i∈za1 (zd0 T id rs z (a.length+zf5 a)),i<a.length+(zf5 a+zb9 rs)
end
section
variable {T:Tab} {P:Program} {w w':World} {S S':List Nat} {φ φ':Nat->RA} {w0:World} {S0:Ow} {F:AF T} {H:List (Ent T.U)} {F':PF}
def vm1 {cnt:Nat} {post:List PE} (hpost:post.length=cnt) {rs:List Sh} {aS:List (AV T.U)} {st:St T} {y1:zn9 T post} {z:ze8 T rs} {l1 l2:Src} {F1:PF} {w1:World} {S1:List Nat} {φ1:Nat->RA} {us:List Value}
  (h1:rdP T st.H post 0 (zp5 post 0)=some (y1,l1)) (h2:zq2 T st.H rs aS l1=some (z,l2)) (hn:zn2 l2=true)
  (hsm:Sim T w ⟨zd8 φ cnt,S,(List.range cnt).map φ⟩ st F1 w1 S1 φ1) (hr2:VRL T w1 S1 φ1 aS us):jn1 T post rs y1 z w S φ cnt w1 us:=by
 obtain ⟨n1,g1,g2,g3,g4,g5⟩:=vc0 post 0 _ _ y1 h1;obtain ⟨n2,k1,k2,k3⟩:=ze7 rs aS _ _ z h2;have hsub: ∀i,some i∈l1->some i∈l2:=fun i hi=>by rw [k1.eq];exact X4.2 (.inl hi)
 have hl2:l2=zp5 post 0++(n1.map some++n2.map some):=by rw [k1.eq,g1,Q2]
 have hl1:l1.length=post.length+zf5 post:=by rw [g1,X9,V1,g2,zm4]
 have hpl:=yj1 hn;obtain ⟨q1,q2⟩:=g5 (fun i=>yv3 i l2) (Places.pre (m:=n2.map some) (by rw [<-k1.eq];exact hpl));obtain ⟨q3,q4⟩:=k3 _ hpl;rw [zm4] at q1 q2;rw [hl1] at q3 q4;have hs:=hsm.src (l:=l2) hn (fun k hk=>by
  simp at hk;rw [hl2,X8 (by rw [zm4];omega)];have:=vy7 post 0 k (by omega);rwa [W9] at this) (fun i e hi he j hj=>by
  rw [hl2] at hi;rcases X4.1 hi with hi|hi
  ·obtain ⟨e',p1,p2⟩:=g4 i hi;rw [he] at p1;simp only [X0] at p1;subst p1;exact hsub j (p2 j hj)
  ·rcases X4.1 hi with hi|hi
   ·obtain ⟨i',hi',e'⟩:=U5.1 hi;simp only [X0] at e';subst e';obtain ⟨e',p1,_,p2⟩:=g3 i' hi';rw [he] at p1;simp only [X0] at p1;subst p1;exact hsub j (p2 j hj)
   ·obtain ⟨i',hi',e'⟩:=U5.1 hi;simp only [X0] at e';subst e';obtain ⟨e',p1,_,p2⟩:=k1.ents i' hi';rw [he] at p1;simp only [X0] at p1;subst p1;exact p2 j hj)
 have hents:zj3 T st.H (fun i=>yv3 i l2) l2=zj3 T st.H (fun i=>yv3 i l2) (zp5 post 0)++(zf4 T st.H (fun i=>yv3 i l2) n1++zf4 T st.H (fun i=>yv3 i l2) n2):=by
  conv=>lhs;arg 4;rw [hl2]
  rw [yo9,yo9,zx7,zx7]
 rw [hents] at hs;refine ⟨[],S1,_,hs.imp (q1.app (q2.app q4)),q3.vrl (VRL.ren T (fun i hi=>φO_idx (k1.ids i hi)) hr2),?_⟩;intro i hi;rw [q3.ids] at hi;refine zl7 (fun j hj=>?_) i hi;have:=(X2.1 (zm7 (k1.ids j hj))).1;rw [k1.eq,X9,V1,k2,hl1] at this;rw [k1.eq];omega
def ja8 {cnt n:Nat} {ds:List Deferred} {fn:Func} {nl:Nl} {post:List PE} {rs:List Sh} (hpost:post.length=cnt) {st0:St T} {y':zn9 T post×ze8 T rs} (hst:yi7 T P fn nl post rs st0=some y') {F1:PF} {w1:World}
  (hsm0:zd1 T w ⟨zd8 φ cnt,S,(List.range cnt).map φ⟩ st0 F1 w1) {a:Act} (ha:Fr n ds F1 a): ∃v,(results fn a.tmps).run P w1=.ok v w1/\ ∃us,jn1 T post rs y'.1 y'.2 w S φ cnt w1 us/\v=ye2 us:=by
 unfold yi7 at hst;split at hst<;>try (cases hst;done)
 rename_i as0 has;obtain ⟨S1,φ0,hsm0'⟩:=hsm0;obtain ⟨us,hr1,hr0⟩:=jh8 hsm0' ha has;split at hst<;>try (cases hst;done)
 rename_i asw Hw hw;obtain ⟨φw,hsmw,hrw,hres⟩:=yi2 (by simp [hpost]) nl.w hw hsm0'.noF hr0 (ja1 (P:=P) hsm0' has);obtain ⟨φb,hsmb,hrb,hib⟩:=zj1 nl.bn hsmw hrw hres;obtain ⟨φ1,hsm,hr20⟩:=yu8 nl.rs hsmb hib hrb;have hr2:=yi1 hsm nl.ow hr20;simp only at hst;generalize hgp:kp2 T nl.rs asw (zf7 T nl.bn Hw)=pr at hst hsm hr2;obtain ⟨as1,Hf⟩:=pr;simp only at hr2 hst;generalize kp1 T nl.ow as1 Hf=aS at hst hr2;obtain ⟨as2,H2,S2,hK,hsm2,hv2⟩:=yu9 nl.z hst hsm hr2;unfold wl1 at hK;split at hK<;>try (cases hK;done)
 rename_i y1 l1 h1;split at hK<;>try (cases hK;done)
 rename_i z l2 h2;split at hK<;>try (cases hK;done)
 rename_i hn;simp only [X0] at hK;subst hK;exact ⟨_,hr1,us,vm1 (st:=⟨[],H2⟩) hpost h1 h2 hn hsm2 hv2,rfl⟩
def uh6 {C:Ctx T} {f:FuncId} {fn:Func} {c:Code} {cuts:List (Pos×Cut)} {ps rs:List Sh} {nl:Nl} {post:List PE} {g:ze8 T ps->Option (zn9 T post×ze8 T rs)} (hm:P.follows .mixedOrders=true) (hE:zb1 T P C.E)
  (hf:P.funcs[f]?=some fn) (hb:fn.body=some c) (hs:Nat.ble ps.length fn.ntmps=true) (hpin:Nat.ble (zb9 ps) C.pin=true) (hpost:Nat.beq post.length (zb9 ps)=true)
  (hg: ∀x y,g x=some y-> ∃m,topG T P C cuts fn c nl ps post rs m x=some y):GOk T P f ⟨ps,post,rs,g⟩:=by
 intro x y hy w S φ hsim vs hvs hoks;obtain ⟨N,hN⟩:=hg x y hy;have hpost:=X1 hpost;have hall:(zd0 T id ps x 0).length=ps.length:=by
  have: ∀(l:List Sh) (x:ze8 T l) (k:Nat),(zd0 T id l x k).length=l.length:=by
   intro l;induction l with
   |nil=>intro x k;rfl
   |cons s r ih=>intro x k;exact congrArg (· +1) (ih x.2 _)
  exact this ps x 0
 have hlen:vs.length=ps.length:=by rw [<-hvs.len T];exact hall
 have hsz:vs.length<=fn.ntmps:=by rw [hlen];exact Y1 hs
 have hfr:Fr fn.ntmps [] (jm8 vs 0) {tmps:=vs.toArray++Array.replicate (fn.ntmps-vs.toArray.size) undef,defers:= []}:=by
  refine ⟨by simp;omega,rfl,fun i v hv=>?_⟩;obtain ⟨_,h2⟩:=yf4 vs 0 i v hv;simp only [M4] at h2;have hi:=(X2.1 h2).1;refine ⟨?_,by omega⟩;rw [Y7,Array.getElem?_append_left (by simpa using hi)];simp [h2]
 have hstart:=hsim.slots hvs hoks;have hpin':((List.range (zb9 ps)).map φ).length<=C.pin:=by simpa using Y1 hpin
 have key: ∀st,yi7 T P fn nl post rs st=some y-> ∀F1 w1,zd1 T w ⟨zd8 φ (zb9 ps),S,(List.range (zb9 ps)).map φ⟩ st F1 w1-> ∀a,Fr fn.ntmps [] F1 a-> ∃v,(results fn a.tmps).run P w1=.ok v w1/\
   ∃(F1:PF) (S1:List Nat) (φ1:Nat->RA) (us:List Value),Sim T w ⟨zd8 φ (zb9 ps),S,(List.range (zb9 ps)).map φ⟩ ⟨[],mkP T id post y.1 post.length++(yc8 T id post y.1 post.length++zh8 T id rs y.2 (post.length+zf5 post))⟩ F1 w1 S1 φ1/\
    VRL T w1 S1 φ1 (zd0 T id rs y.2 (post.length+zf5 post)) us/\v=ye2 us/\ ∀i∈za1 (zd0 T id rs y.2 (post.length+zf5 post)),i<post.length+(zf5 post+zb9 rs):=by
  intro st0 hst F1 w1 hsm0 a ha;obtain ⟨v,h1,us,⟨F2,S2,φ2,k1,k2,k3⟩,h3⟩:=ja8 hpost hst hsm0 ha;exact ⟨v,h1,F2,S2,φ2,us,k1,k2,h3,k3⟩
 have hKs:KsOk (bodyPost P fn fun e w'=>match e with
   | .returned v=> ∃(F1:PF) (S1:List Nat) (φ1:Nat->RA) (us:List Value),Sim T w ⟨zd8 φ (zb9 ps),S,(List.range (zb9 ps)).map φ⟩ ⟨[],mkP T id post y.1 post.length++(yc8 T id post y.1 post.length++zh8 T id rs y.2 (post.length+zf5 post))⟩ F1 w' S1 φ1/\
    VRL T w' S1 φ1 (zd0 T id rs y.2 (post.length+zf5 post)) us/\v=ye2 us/\ ∀i∈za1 (zd0 T id rs y.2 (post.length+zf5 post)),i<post.length+(zf5 post+zb9 rs)
   |_=>False) fn.ntmps [] w ⟨zd8 φ (zb9 ps),S,(List.range (zb9 ps)).map φ⟩ y (jl2 T P fn nl post rs):=by
  refine ⟨?_,fun i st h=>(by cases h),?_,fun a st h=>(by cases h)⟩
  ·intro st hst F1 w1 hs1 a ha;obtain ⟨v,h1,h2⟩:=key st hst F1 w1 hs1 a ha;exact ⟨ha.defers,v,h1,h2⟩
  ·intro st hst F1 w1 hs1 a ha;obtain ⟨v,h1,h2⟩:=key st hst F1 w1 hs1 a ha;exact ⟨ha.defers,v,h1,h2⟩
 exact calls_of_wp hf hb (zg0 hm hpin' hE c [] _ _ _ _ w hN hKs (JOk.run hm hpin' hE hKs N) ⟨S,φ,hstart⟩ _ hfr)
def j8 (f):zc0 T P f (v4 T)/\zl5 T P f (v4 T)/\yj9 (v4 T):=
 ⟨fun _ _ _ _ _ h=>(by cases h),fun _ _ _ _ h=>(by cases h),fun _ _ _ _ _ h=>(by cases h)⟩
def q7 {f a} (h:vr3 T P f a):zc0 T P f a.toCall/\zl5 T P f a.toCall/\yj9 a.toCall:=⟨qk0 h,kj2 h,gw4 a⟩
def q9 {f b a} (h:GOk T P f b) (c:zc0 T P f a/\zl5 T P f a/\yj9 a):zc0 T P f (b.toCall a)/\zl5 T P f (b.toCall a)/\yj9 (b.toCall a):=⟨ji2 h c.1,c.2.1,uh0 c.2.2⟩
def v8 {f:FuncId} {cs:CallSpec T} {E:List (FuncId×CallSpec T)} (h:zc0 T P f cs/\zl5 T P f cs/\yj9 cs) (hE:zb1 T P E):zb1 T P ((f,cs)::E):=by
 intro g cs' hg;unfold qo9 at hg;split at hg
 ·rename_i hb;have:=X1 hb;subst this
  grind
 ·exact hE g cs' hg
end
end Go.X
