import Derived.Test.YtnhnejjdokeikaaGreatA8
set_option linter.defProp false
namespace Go.X
open Go.RowKit Go.V
inductive Sh where
 |val (t:Ty)
 |row (e:TypeId) (t:Ty)
 |slr (e:TypeId) (t:Ty)
 |ptr (o:Nat) (e:TypeId) (cs:List Sh)
 |slb (sz n:Nat) (e:TypeId) (cs:List Sh)
 |at_ (i o:Nat)
 |own (i:Nat)
 |part (i sz:Nat)
 |fn (f:FuncId) (a b:List Sh)
 |agg (cs:List Sh)
 |ifc (t:TypeId) (s:Sh)
 |nils
 |nilp
 |arr (t:Ty) (n:Nat)
 |lp (e:Ty) (o:Nat)
 |asp (i o sz n:Nat)
 |asn (e:TypeId) (cs:List Sh) (o sz n:Nat)
 |ap (i o sz n c:Nat)
 |mp (k:IntKind) (keys:List Int) (cs:List Sh)
 |mpo (i:Nat)
 |rw (n:Nat)
 |lpk (e:Ty) (k o:Nat)
 |tm (k:IntKind) (t:Ty)
 |dr (e:TypeId) (d:Nat) (fe:List TypeId)
 |pm (k:IntKind) (be:TypeId) (d:Nat)
 |lit (k:IntKind) (x:Int)
 |gm
 |gmo (i:Nat)
section
variable (T:Tab)
mutual
def Sh.den:Sh->Type
 | .val t=>den T.U t
 | .row _ t=>List (den T.U t)
 | .slr _ t=>List (den T.U t)×Nat×Nat
 | .ptr _ _ cs=>ze2 cs
 | .slb _ _ _ cs=>ze2 cs
 | .at_ _ _=>Unit
 | .own _=>Unit
 | .part _ _=>Nat×Nat
 | .fn _ a b=>ze2 a×ze2 b
 | .agg cs=>ze2 cs
 | .ifc _ s=>s.den
 | .nils=>Unit
 | .nilp=>Unit
 | .lit _ _=>Unit
 | .arr t _=>List (den T.U t)
 | .lp e _=>List (den T.U e)×Nat
 | .asp _ _ _ _=>Nat×Nat
 | .asn _ cs _ _ _=>ze2 cs×Nat×Nat
 | .ap _ _ _ _ _=>Nat
 | .mp _ _ cs=>ze2 cs
 | .mpo _=>Unit
 | .rw _=>Unit
 | .lpk e _ _=>List (den T.U e)
 | .tm _ t=>List (Int×den T.U t)
 | .dr _ d _=>List (T.U d)
 | .pm _ _ d=>List (Int×T.U d)
 | .gm=>Unit
 | .gmo _=>Unit
def ze2:List Sh->Type
 | []=>Unit
 |s::r=>s.den×ze2 r
end
mutual
def Sh.cnt:Sh->Nat
 | .row _ _=>1
 | .slr _ _=>1
 | .ptr _ _ cs=>1+zb0 cs
 | .slb _ _ _ cs=>1+zb0 cs
 | .fn _ a b=>zb0 a+zb0 b
 | .agg cs=>zb0 cs
 | .ifc _ s=>s.cnt
 | .asn _ cs _ _ _=>1+zb0 cs
 | .mp _ _ cs=>1+zb0 cs
 | .tm _ _=>1
 | .dr _ _ _=>1
 | .pm _ _ _=>1
 | .gm=>1
 |_=>0
def zb0:List Sh->Nat
 | []=>0
 |s::r=>s.cnt+zb0 r
end
def um7:Nat->Value
 |0=>.nilFunc
 |1=>.nilIface
 |2=>.map none
 |_=>.pointer none
def yd3 {U:Nat->Type}:List Int->List (AV U)->List (Int×AV U)
 |x::r,a::s=>(x,a)::yd3 r s
 |_,_=> []
mutual
def mkA (d:Nat->Nat):(s:Sh)->s.den T->Nat->AV T.U
 | .val t,x,_=>zm8 T t x
 | .row _ _,_,k=>.own (d k)
 | .slr _ t,x,k=>.sl (d k) (szT T t) x.2.1 x.2.2
 | .ptr o _ _,_,k=>.ptr (d k) o
 | .slb sz n _ _,_,k=>.sl (d k) sz 0 n
 | .at_ i o,_,_=>.ptr (d i) o
 | .own i,_,_=>.own (d i)
 | .part i sz,x,_=>.sl (d i) sz x.1 x.2
 | .fn f a b,x,k=>.fn (.func f) (zc3 d a x.1 k) (zc3 d b x.2 (k+zb0 a))
 | .agg cs,x,k=>.agg (zc3 d cs x k)
 | .ifc t s,x,k=>.ifc t (mkA d s x k)
 | .nils,_,_=>.raw (.slice none 0 0)
 | .nilp,_,_=>.raw (.pointer none)
 | .lit k x,_,_=>.cell ⟨.int k,x⟩
 | .arr t n,x,_=>.arr t n x
 | .lp e o,x,_=>.lptr e x.1 x.2 o
 | .asp i o sz n,x,_=>.asl (d i) o sz n x.1 x.2
 | .asn _ _ o sz n,x,k=>.asl (d k) o sz n x.2.1 x.2.2
 | .ap i o sz n c,x,_=>.aptr (d i) o sz n x c
 | .mp _ _ _,_,k=>.mp (d k)
 | .mpo i,_,_=>.mp (d i)
 | .rw n,_,_=>.raw (um7 n)
 | .lpk e k o,x,_=>.lptr e x k o
 | .tm _ _,_,k=>.mp (d k)
 | .dr _ _ _,_,k=>.own (d k)
 | .pm _ _ _,_,k=>.mp (d k)
 | .gm,_,k=>.hmp (d k)
 | .gmo i,_,_=>.hmp (d i)
def zc3 (a:Nat->Nat):(l:List Sh)->ze2 T l->Nat->List (AV T.U)
 | [],_,_=> []
 |s::r,x,k=>mkA a s x.1 k::zc3 a r x.2 (k+s.cnt)
end
mutual
def mkE (c:Nat->Nat):(s:Sh)->s.den T->Nat->List (Ent T.U)
 | .row e t,x,_=> [.row e t x]
 | .slr e t,x,_=> [.row e t x.1]
 | .ptr _ e cs,x,k=>.blk e (zc3 T c cs x (k+1))::zh8 c cs x (k+1)
 | .slb _ _ e cs,x,k=>.blk e (zc3 T c cs x (k+1))::zh8 c cs x (k+1)
 | .fn _ a b,x,k=>zh8 c a x.1 k++zh8 c b x.2 (k+zb0 a)
 | .agg cs,x,k=>zh8 c cs x k
 | .ifc _ s,x,k=>mkE c s x k
 | .val _,_,_=> []
 | .at_ _ _,_,_=> []
 | .own _,_,_=> []
 | .part _ _,_,_=> []
 | .nils,_,_=> []
 | .nilp,_,_=> []
 | .lit _ _,_,_=> []
 | .arr _ _,_,_=> []
 | .lp _ _,_,_=> []
 | .asp _ _ _ _,_,_=> []
 | .asn e cs _ _ _,x,k=>.blk e (zc3 T c cs x.1 (k+1))::zh8 c cs x.1 (k+1)
 | .ap _ _ _ _ _,_,_=> []
 | .mp g f cs,x,k=>.map g (yd3 f (zc3 T c cs x (k+1)))::zh8 c cs x (k+1)
 | .mpo _,_,_=> []
 | .rw _,_,_=> []
 | .lpk _ _ _,_,_=> []
 | .tm g t,x,_=> [.tmap g t x]
 | .dr e d fe,x,_=> [.drow e d fe x none]
 | .pm k h d,x,_=> [.pmap k h d x none]
 | .gm,_,_=> [.hid]
 | .gmo _,_,_=> []
def zh8 (a:Nat->Nat):(l:List Sh)->ze2 T l->Nat->List (Ent T.U)
 | [],_,_=> []
 |s::r,x,k=>mkE a s x.1 k++zh8 a r x.2 (k+s.cnt)
end
abbrev Src:=List (Option Nat)
def qe6 (H:List (Ent T.U)) (e:TypeId) (t:Ty) (i:Nat):Option (List (den T.U t)):=
 match H[i]? with
 |some (.row a b xs)=>match Nat.beq a e with|true=>(if h:b=t then some (h▸xs) else none)|false=>none
 |_=>none
def qa4 (H:List (Ent T.U)) (e:TypeId) (i:Nat):Option (List (AV T.U)):=
 match H[i]? with
 |some (.blk a cs)=>match Nat.beq a e with|true=>some cs|false=>none
 |_=>none
def yf0 (l:Src) (p i:Nat):Bool:=match l[p]? with|some (some j)=>Nat.beq j i|_=>false
def qc5 {α a b:Type} (f:α->a):Option (α×b)->Option (a×b)
 |some (x,l)=>some (f x,l)
 |none=>none
def gd4 {U:Nat->Type}:AV U->Option Nat| .own i=>some i|_=>none
def slI {U:Nat->Type}:AV U->Option (Nat×Nat×Nat×Nat)| .sl i sz o n=>some (i,sz,o,n)|_=>none
def gl2 {U:Nat->Type}:AV U->Option (Nat×Nat)| .ptr i o=>some (i,o)|_=>none
def fnI {U:Nat->Type}:AV U->Option (FuncId×List (AV U)×List (AV U))| .fn (.func f) a b=>some (f,a,b)|_=>none
def ud6 {U:Nat->Type}:AV U->Option (List (AV U))| .agg cs=>some cs|_=>none
def ue1 {U:Nat->Type}:AV U->Option (TypeId×AV U)| .ifc t a=>some (t,a)|_=>none
def ks2 {U:Nat->Type}:AV U->Bool| .raw (.slice none 0 0)=>true|_=>false
def kr5 {U:Nat->Type} (t:Ty) (n:Nat):AV U->Option (List (den U t))
 | .arr a b xs=>match Nat.beq b n with|true=>(if h:a=t then some (h▸xs) else none)|false=>none
 |_=>none
def lpI {U:Nat->Type} (e:Ty) (o:Nat):AV U->Option (List (den U e)×Nat)
 | .lptr a xs k o'=>match Nat.beq o' o with|true=>(if h:a=e then some (h▸xs,k) else none)|false=>none
 |_=>none
def gi0 {U:Nat->Type}:AV U->Option (Nat×Nat×Nat×Nat×Nat×Nat)| .asl i o sz n a m=>some (i,o,sz,n,a,m)|_=>none
def kr2 {U:Nat->Type}:AV U->Option (Nat×Nat×Nat×Nat×Nat×Nat)| .aptr i o sz n k c=>some (i,o,sz,n,k,c)|_=>none
def mpI {U:Nat->Type}:AV U->Option Nat| .mp i=>some i|_=>none
def ue8 {U:Nat->Type} (n:Nat):AV U->Bool
 | .raw .nilFunc=>Nat.beq n 0
 | .raw .nilIface=>Nat.beq n 1
 | .raw (.map none)=>Nat.beq n 2
 |_=>false
def qb5 {U:Nat->Type}:List Int->List (Int×AV U)->Bool
 | [],[]=>true
 |x::r,(y,_)::s=>match gi9 x y with|true=>qb5 r s|false=>false
 |_,_=>false
def vu1 (H:List (Ent T.U)) (k:IntKind) (a:List Int) (i:Nat):Option (List (AV T.U)):=
 match H[i]? with
 |some (.map b es)=>match zf5 b k&&qb5 a es with|true=>some (es.map Prod.snd)|false=>none
 |_=>none
def gz9 (H:List (Ent T.U)) (k:IntKind) (t:Ty) (i:Nat):Option (List (Int×den T.U t)):=
 match H[i]? with
 |some (.tmap a b xs)=>match zf5 a k with|true=>(if h:b=t then some (h▸xs) else none)|false=>none
 |_=>none
def gi6 (H:List (Ent T.U)) (e:TypeId) (d:Nat) (fe:List TypeId) (i:Nat):Option (List (T.U d)):=
 match H[i]? with
 |some (.drow b c a xs none)=>match Nat.beq b e with|true=>(if h:c=d then (if a=fe then some (h▸xs) else none) else none)|false=>none
 |_=>none
def gl1 (H:List (Ent T.U)) (k:IntKind) (b:TypeId) (d:Nat) (i:Nat):Option (List (Int×T.U d)):=
 match H[i]? with
 |some (.pmap c a e xs none)=>match zf5 c k&&Nat.beq a b with|true=>(if h:e=d then some (h▸xs) else none)|false=>none
 |_=>none
def vt8 (H:List (Ent T.U)) (i:Nat):Bool:=match H[i]? with|some .hid=>true|_=>false
def gj2 {U:Nat->Type}:AV U->Option Nat| .hmp i=>some i|_=>none
def kj4 {U:Nat->Type} (k:IntKind) (x:Int):AV U->Bool| .cell ⟨.int a,y⟩=>zf5 a k&&gi9 y x|_=>false
def ks1 {U:Nat->Type}:AV U->Bool| .raw (.pointer none)=>true|_=>false
mutual
def rdS (H:List (Ent T.U)):(s:Sh)->AV T.U->Src->Option (s.den T×Src)
 | .val t,a,l=>match jm4 T t a with|some x=>some (x,l)|none=>none
 | .row e t,a,l=>match gd4 a with
  |some i=>(match qe6 T H e t i with|some xs=>some (xs,l++ [some i])|none=>none)
  |none=>none
 | .slr e t,a,l=>match slI a with
  |some (i,sz,o,n)=>(match qe6 T H e t i with|some xs=>(match Nat.beq sz (szT T t) with|true=>some ((xs,o,n),l++ [some i])|false=>none)|none=>none)
  |none=>none
 | .ptr o e cs,a,l=>match gl2 a with
  |some (i,o')=>(match qa4 T H e i with|some aS=>(match Nat.beq o' o with|true=>zq5 H cs aS (l++ [some i])|false=>none)|none=>none)
  |none=>none
 | .slb sz n e cs,a,l=>match slI a with
  |some (i,g,o,h)=>(match qa4 T H e i with|some aS=>(match Nat.beq g sz&&(Nat.beq h n&&Nat.beq o 0) with|true=>zq5 H cs aS (l++ [some i])|false=>none)|none=>none)
  |none=>none
 | .at_ p o,a,l=>match gl2 a with
  |some (i,o')=>(match Nat.beq o' o&&yf0 l p i with|true=>some ((),l)|false=>none)
  |none=>none
 | .own p,a,l=>match gd4 a with
  |some i=>(match yf0 l p i with|true=>some ((),l)|false=>none)
  |none=>none
 | .part p sz,a,l=>match slI a with
  |some (i,g,o,n)=>(match Nat.beq g sz&&yf0 l p i with|true=>some ((o,n),l)|false=>none)
  |none=>none
 | .fn f a b,c,l=>match fnI c with
  |some (u,aS,v)=>(match zq5 H a aS l with
   |some (x,w)=>(match Nat.beq u f with|true=>qc5 (fun y=>(x,y)) (zq5 H b v w)|false=>none)
   |none=>none)
  |none=>none
 | .agg cs,a,l=>match ud6 a with|some aS=>zq5 H cs aS l|none=>none
 | .ifc t s,a,l=>match ue1 a with
  |some (z,b)=>(match Nat.beq z t with|true=>rdS H s b l|false=>none)
  |none=>none
 | .nils,a,l=>match ks2 a with|true=>some ((),l)|false=>none
 | .nilp,a,l=>match ks1 a with|true=>some ((),l)|false=>none
 | .lit k x,a,l=>match kj4 k x a with|true=>some ((),l)|false=>none
 | .arr t n,a,l=>match kr5 t n a with|some xs=>some (xs,l)|none=>none
 | .lp e o,a,l=>match lpI e o a with|some x=>some (x,l)|none=>none
 | .asp p o sz n,a,l=>match gi0 a with
  |some (i,o',g,h,q,m)=>(match yf0 l p i&&(Nat.beq o' o&&(Nat.beq g sz&&Nat.beq h n)) with|true=>some ((q,m),l)|false=>none)
  |none=>none
 | .asn e cs o sz n,a,l=>match gi0 a with
  |some (i,o',g,h,q,m)=>(match qa4 T H e i with|some aS=>(match Nat.beq o' o&&(Nat.beq g sz&&Nat.beq h n) with|true=>qc5 (fun x=>(x,q,m)) (zq5 H cs aS (l++ [some i]))|false=>none)|none=>none)
  |none=>none
 | .ap p o sz n c,a,l=>match kr2 a with
  |some (i,o',g,h,k,c')=>(match yf0 l p i&&(Nat.beq o' o&&(Nat.beq g sz&&(Nat.beq h n&&Nat.beq c' c))) with|true=>some (k,l)|false=>none)
  |none=>none
 | .mp r j cs,a,l=>match mpI a with
  |some i=>(match vu1 T H r j i with|some aS=>zq5 H cs aS (l++ [some i])|none=>none)
  |none=>none
 | .mpo p,a,l=>match mpI a with
  |some i=>(match yf0 l p i with|true=>some ((),l)|false=>none)
  |none=>none
 | .rw n,a,l=>match ue8 n a with|true=>some ((),l)|false=>none
 | .lpk e k o,a,l=>match lpI e o a with|some x=>(match Nat.beq x.2 k with|true=>some (x.1,l)|false=>none)|none=>none
 | .tm r t,a,l=>match mpI a with
  |some i=>(match gz9 T H r t i with|some xs=>some (xs,l++ [some i])|none=>none)
  |none=>none
 | .dr e d fe,a,l=>match gd4 a with
  |some i=>(match gi6 T H e d fe i with|some xs=>some (xs,l++ [some i])|none=>none)
  |none=>none
 | .pm k A d,a,l=>match mpI a with
  |some i=>(match gl1 T H k A d i with|some xs=>some (xs,l++ [some i])|none=>none)
  |none=>none
 | .gm,a,l=>match gj2 a with
  |some i=>(match vt8 T H i with|true=>some ((),l++ [some i])|false=>none)
  |none=>none
 | .gmo p,a,l=>match gj2 a with
  |some i=>(match yf0 l p i with|true=>some ((),l)|false=>none)
  |none=>none
def zq5 (H:List (Ent T.U)):(b:List Sh)->List (AV T.U)->Src->Option (ze2 T b×Src)
 | [],aS,l=>match aS with| []=>some ((),l)|_::_=>none
 |s::r,aS,l=>match aS with
  |a::aS=>(match rdS H s a l with|some (x,c)=>qc5 (fun y=>(x,y)) (zq5 H r aS c)|none=>none)
  | []=>none
end
inductive PE where
 |gone
 |row (e:TypeId) (t:Ty)
 |blk (e:TypeId) (cs:List Sh)
 |map (k:IntKind) (keys:List Int) (cs:List Sh)
 |tmap (k:IntKind) (t:Ty)
 |dr (e:TypeId) (d:Nat) (fe:List TypeId)
 |pm (k:IntKind) (be:TypeId) (d:Nat)
 |gm
def PE.den:PE->Type
 | .gone=>Unit
 | .row _ t=>List (Go.X.den T.U t)
 | .blk _ cs=>ze2 T cs
 | .map _ _ cs=>ze2 T cs
 | .tmap _ t=>List (Int×Go.X.den T.U t)
 | .dr _ d _=>List (T.U d)
 | .pm _ _ d=>List (Int×T.U d)
 | .gm=>Unit
def zn7:List PE->Type
 | []=>Unit
 |p::r=>p.den T×zn7 r
def PE.cnt:PE->Nat| .blk _ cs=>zb0 cs| .map _ _ cs=>zb0 cs|_=>0
def zh2:List PE->Nat
 | []=>0
 |p::r=>p.cnt+zh2 r
def zn6:List PE->Nat->Src
 | [],_=> []
 | .gone::r,j=>none::zn6 r (j+1)
 |_::r,j=>some j::zn6 r (j+1)
def vx6 (c:Nat->Nat):(p:PE)->p.den T->Nat->Ent T.U
 | .gone,_,_=>.gone
 | .row e t,x,_=>.row e t x
 | .blk e cs,x,k=>.blk e (zc3 T c cs x k)
 | .map b a cs,x,k=>.map b (yd3 a (zc3 T c cs x k))
 | .tmap b t,x,_=>.tmap b t x
 | .dr e d fe,x,_=>.drow e d fe x none
 | .pm k f d,x,_=>.pmap k f d x none
 | .gm,_,_=>.hid
def vu2 (a:Nat->Nat):(p:PE)->p.den T->Nat->List (Ent T.U)
 | .blk _ cs,x,k=>zh8 T a cs x k
 | .map _ _ cs,x,k=>zh8 T a cs x k
 | .gone,_,_=> []
 | .row _ _,_,_=> []
 | .tmap _ _,_,_=> []
 | .dr _ _ _,_,_=> []
 | .pm _ _ _,_,_=> []
 | .gm,_,_=> []
def mkP (a:Nat->Nat):(ps:List PE)->zn7 T ps->Nat->List (Ent T.U)
 | [],_,_=> []
 |p::r,x,k=>vx6 T a p x.1 k::mkP a r x.2 (k+p.cnt)
def yc4 (a:Nat->Nat):(ps:List PE)->zn7 T ps->Nat->List (Ent T.U)
 | [],_,_=> []
 |p::r,x,k=>vu2 T a p x.1 k++yc4 a r x.2 (k+p.cnt)
def qv8 (H:List (Ent T.U)) (j:Nat):(p:PE)->Src->Option (p.den T×Src)
 | .gone,l=>some ((),l)
 | .row e t,l=>match qe6 T H e t j with|some xs=>some (xs,l)|none=>none
 | .blk e cs,l=>match qa4 T H e j with|some aS=>zq5 T H cs aS l|none=>none
 | .map b a cs,l=>match vu1 T H b a j with|some aS=>zq5 T H cs aS l|none=>none
 | .tmap b t,l=>match gz9 T H b t j with|some xs=>some (xs,l)|none=>none
 | .dr e d fe,l=>match gi6 T H e d fe j with|some xs=>some (xs,l)|none=>none
 | .pm k c d,l=>match gl1 T H k c d j with|some xs=>some (xs,l)|none=>none
 | .gm,l=>match vt8 T H j with|true=>some ((),l)|false=>none
def rdP (H:List (Ent T.U)):(ps:List PE)->Nat->Src->Option (zn7 T ps×Src)
 | [],_,l=>some ((),l)
 |p::r,j,l=>match qv8 T H j p l with|some (x,a)=>qc5 (fun y=>(x,y)) (rdP H r (j+1) a)|none=>none
def zi3 (H:List (Ent T.U)) (ρ:Nat->Nat):Src->List (Ent T.U)
 | []=> []
 |some i::r=>(match H[i]? with|some e=>e.ren ρ|none=>.gone)::zi3 H ρ r
 |none::r=>.gone::zi3 H ρ r
def yn3 (i:Nat):Src->Nat
 | []=>0
 |some j::r=>match Nat.beq j i with|true=>0|false=>yn3 i r+1
 |none::r=>yn3 i r+1
def ql1 (i:Nat):Src->Bool| []=>false|some j::r=>(match Nat.beq j i with|true=>true|false=>ql1 i r)|none::r=>ql1 i r
def zl8:Src->Bool| []=>true|some i::r=> !ql1 i r&&zl8 r|none::r=>zl8 r
end
section
variable {T:Tab}
def ya8 {i}: ∀ {l},ql1 i l=true↔some i∈l
 | []=>by simp [ql1]
 |none::r=>by simp [ql1,ya8 (l:=r)]
 |some j::r=>by
  unfold ql1;split
  ·rename_i h;have:=X1 h;subst this;simp
  ·rename_i h;rw [ya8 (l:=r)];have:j≠i:=fun e=>by subst e;simp at h
   simp [Ne.symm this]
def yc5: ∀ {l},zl8 l=true-> ∀ {a b x:Nat},l[a]?=some (some x)->l[b]?=some (some x)->a=b
 | [],_,_,_,_,h,_=>by simp at h
 |none::r,d,a,b,x,e,f=>by
  unfold zl8 at d;cases a with
  |zero=>simp at e
  |succ a=>
   cases b with
   |zero=>simp at f
   |succ b=>have:=yc5 d (a:=a) (b:=b) (by simpa using e) (by simpa using f);omega
 |some j::r,d,a,b,x,e,f=>by
  unfold zl8 at d;simp only [X3,V8] at d;have g: ∀ {c:Nat},r[c]?=some (some j)->False:=fun i=>by
   have:=ya8.2 (X6 i);rw [d.1] at this;cases this
  cases a with
  |zero=>
   simp at e;subst e;cases b with
   |zero=>rfl
   |succ b=>exact (g (by simpa using f)).elim
  |succ a=>
   cases b with
   |zero=>simp at f;subst f;exact (g (by simpa using e)).elim
   |succ b=>have:=yc5 d.2 (a:=a) (b:=b) (by simpa using e) (by simpa using f);omega
def zl3 {i}: ∀ {l},some i∈l->l[yn3 i l]?=some (some i)
 | [],h=>by cases h
 |none::r,h=>by
  have h:some i∈r:=by simpa using h
  show (none::r)[yn3 i r+1]?=_;simpa using zl3 h
 |some j::r,h=>by
  unfold yn3;split
  ·rename_i a;have:=X1 a;subst this;rfl
  ·rename_i a;rcases Z0.1 h with h|h
   ·cases h;simp at a
   ·simpa using zl3 h
def Places (ρ:Nat->Nat) (l:Src):Prop:= ∀(p i:Nat),l[p]?=some (some i)->ρ i=p
def Places.pre {ρ l m} (h:Places ρ (l++m)):Places ρ l:=fun p i a=>h p i (by
 rw [X8 (X2.1 a).1];exact a)
def yc7 {l} (h:zl8 l=true):Places (fun i=>yn3 i l) l:=fun p i a=>yc5 h (zl3 (X6 a)) a
def yc9 {H e t i xs} (h:qe6 T H e t i=some xs):H[i]?=some (.row e t xs):=by
 unfold qe6 at h;split at h
 ·rename_i d f ys a;split at h
  ·rename_i b;have:=X1 b;subst this;split at h
   ·rename_i c;subst c;have h:ys=xs:=X5 h;subst h;exact a
   ·cases h
  ·cases h
 ·cases h
def jw8 {H k t i xs} (h:gz9 T H k t i=some xs):H[i]?=some (.tmap k t xs):=by
 unfold gz9 at h;split at h
 ·rename_i d e ys a;split at h
  ·rename_i b;have:=za9 b;subst this;split at h
   ·rename_i c;subst c;have h:ys=xs:=X5 h;subst h;exact a
   ·cases h
  ·cases h
 ·cases h
def jt4 {H k b d i xs} (h:gl1 T H k b d i=some xs):H[i]?=some (.pmap k b d xs none):=by
 unfold gl1 at h;split at h
 ·rename_i g c j ys e;split at h
  ·rename_i a;rw [X3] at a;have:=za9 a.1;subst this;have:=X1 a.2;subst this;split at h
   ·rename_i f;subst f;have h:ys=xs:=X5 h;subst h;exact e
   ·cases h
  ·cases h
 ·cases h
def jr4 {H e d fe i xs} (h:gi6 T H e d fe i=some xs):H[i]?=some (.drow e d fe xs none):=by
 unfold gi6 at h;split at h
 ·rename_i j k a ys b;split at h
  ·rename_i c;have:=X1 c;subst this;split at h
   ·rename_i f;subst f;split at h
    ·rename_i g;subst g;have h:ys=xs:=X5 h;subst h;exact b
    ·cases h
   ·cases h
  ·cases h
 ·cases h
def zt4 {H e i cs} (h:qa4 T H e i=some cs):H[i]?=some (.blk e cs):=by
 unfold qa4 at h;split at h
 ·rename_i d a b;split at h
  ·rename_i c;have:=X1 c;subst this;simp only [X0] at h;subst h;exact b
  ·cases h
 ·cases h
def jf5 {H k b i aS} (h:vu1 T H k b i=some aS):H[i]?=some (.map k (yd3 b aS)):=by
 unfold vu1 at h;split at h
 ·rename_i j es e;split at h
  ·rename_i c;rw [X3] at c;have:=za9 c.1;subst this;simp only [X0] at h;subst h;rw [e];have d: ∀(b:List Int) (es:List (Int×AV T.U)),qb5 b es=true->es=yd3 b (es.map Prod.snd):=by
    intro b;induction b with
    |nil=>intro es h;cases es with|nil=>rfl|cons _ _=>cases h
    |cons x r f=>
     intro es h
     match es,h with
     |(y,a)::s,h=>
      unfold qb5 at h;split at h
      ·rename_i g;have:x=y:=by simpa [gi9] using g
       subst this;rw [W8,yd3,<-f s h]
      ·cases h
   rw [<-d b es c.2]
  ·cases h
 ·cases h
def zh1 {l p i} (h:yf0 l p i=true):l[p]?=some (some i):=by
 unfold yf0 at h;split at h
 ·rename_i j a;rw [X1 h] at a;exact a
 ·cases h
def zo3 (H ρ): ∀(l m),zd9 T H ρ (l++m)=zd9 T H ρ l++zd9 T H ρ m
 | [],_=>rfl
 |i::r,m=>by
  rw [M5,zd9,zd9];split
  ·rw [zo3 H ρ r m];rfl
  ·rw [zo3 H ρ r m];rfl
def zo5 {α a b:Type} {f:α->a} {o:Option (α×b)} {y:a} {l:b} (h:qc5 f o=some (y,l)): ∃x,o=some (x,l)/\f x=y:=by
 unfold qc5 at h;split at h
 ·simp only [X0,X7] at h;obtain ⟨c,rfl⟩:=h;exact ⟨_,rfl,c⟩
 ·cases h
structure RdOk (T:Tab) (H:List (Ent T.U)) (ids:List Nat) (l l':Src) (new:List Nat):Prop where
 eq:l'=l++new.map some
 ids: ∀j∈ids,some j∈l'
 ents: ∀i∈new,∃e,H[i]?=some e/\e.live=true/\ ∀j∈e.cellIds,some j∈l'
end
end Go.X
namespace Go.X
open Go.RowKit Go.V
section
variable {T:Tab}
def RdOk.nil {H ids l} (h: ∀j∈ids,some j∈l):RdOk T H ids l l []:=⟨by simp,h,by intro i a;cases a⟩
def RdOk.one {H l i e} (b:H[i]?=some e) (c:e.live=true) (d:e.cellIds= []):RdOk T H [i] l (l++ [some i]) [i]:=
 ⟨rfl,by intro j a;simp at a;subst a;simp,by intro j a;simp at a;subst a;exact ⟨e,b,c,by rw [d];intro j a;cases a⟩⟩
def RdOk.app {H n o l k l2 p q} (m:RdOk T H n l k p) (h:RdOk T H o k l2 q):RdOk T H (n++o) l l2 (p++q):=by
 have f: ∀j,some j∈k->some j∈l2:=fun j d=>by rw [h.eq];exact X4.2 (.inl d)
 refine ⟨by rw [h.eq,m.eq,V6,Q2],?_,?_⟩
 ·intro j d;rcases X4.1 d with d|d
  ·exact f j (m.ids j d)
  ·exact h.ids j d
 ·intro i g;rcases X4.1 g with g|g
  ·obtain ⟨e,a,b,c⟩:=m.ents i g;exact ⟨e,a,b,fun j d=>f j (c j d)⟩
  ·exact h.ents i g
def RdOk.blk {H l l' i e cs b} (c:H[i]?=some (.blk e cs)) (h:RdOk T H (v8 cs) (l++ [some i]) l' b):RdOk T H [i] l l' (i::b):=by
 refine ⟨by rw [h.eq];simp,?_,?_⟩
 ·intro j a;simp at a;subst a;rw [h.eq];simp
 ·intro j a;rcases Z0.1 a with rfl|a
  ·exact ⟨_,c,rfl,h.ids⟩
  ·exact h.ents j a
def RdOk.map {H l l' i k a cs c} (d:H[i]?=some (.map k (yd3 a cs))) (e: ∀j∈idsM (yd3 a cs),j∈v8 cs) (h:RdOk T H (v8 cs) (l++ [some i]) l' c):RdOk T H [i] l l' (i::c):=by
 refine ⟨by rw [h.eq];simp,?_,?_⟩
 ·intro j b;simp at b;subst b;rw [h.eq];simp
 ·intro j b;rcases Z0.1 b with rfl|b
  ·exact ⟨_,d,rfl,fun j b=>h.ids j (e j b)⟩
  ·exact h.ents j b
def Places.last {ρ l m i} (h:Places ρ (l++ [some i]++m)):ρ i=l.length:=h l.length i (by simp)
def zf9 {H ρ i e} (b:H[i]?=some e) (r):zd9 T H ρ (i::r)=e.ren ρ::zd9 T H ρ r:=by
 rw [zd9];split
 ·rename_i d a;rw [b] at a;simp only [X0] at a;subst a;rfl
 ·rename_i c;rw [b] at c;cases c
def qq4 (t x ρ):(zm8 T t x).ren ρ=zm8 T t x:=by
 cases t with
 |user i=>
  show (AV.agg _).ren ρ=_;rw [AV.ren];show AV.agg (zi5 ρ ((T.cells i x).map .cell))=AV.agg ((T.cells i x).map .cell);congr 1;induction T.cells i x with
  |nil=>rfl
  |cons c r a=>rw [W8,zi5,a,AV.ren]
 |int k=>exact AV.ren.eq_1 ..
 |bool=>exact AV.ren.eq_1 ..
 |str=>exact AV.ren.eq_1 ..
 |list e=>exact AV.ren.eq_1 ..
 |nl e=>exact AV.ren.eq_1 ..
def vg7 {t:Ty} {a:AV T.U} {x:den T.U t} (h:jm4 T t a=some x) (hn:a≠.raw (.slice none 0 0)):a=zm8 T t x:=by
 have one: ∀ {t:Ty} {c:Cell T.U} {x:den T.U t},(∀i,t≠.user i)->c.aS t=some x->AV.cell c=zm8 T t x:=by
  intro t c x hn h;have:=Cell.as_eq h;subst this;cases t<;>first|rfl|exact absurd rfl (hn _)
 cases t with
 |user i=>
  cases a<;>simp only [jm4,reduceCtorEq] at h;rename_i cs;split at h
  ·rename_i l hl;have:=T.packed _ _ _ h;rw [zp4 hl,<-this];rfl
  ·cases h
 |list e=>
  cases a with
  |cell c=>exact one (by intro i hi;cases hi) h
  |raw u=>
   cases u with
   |slice ad n c=>
    cases ad with
    |some _=>cases h
    |none=>
     cases n with
     |succ _=>cases h
     |zero=>
      cases c with
      |succ _=>cases h
      |zero=>exact absurd rfl hn
   |_=>cases h
  |_=>cases h
 |nl e=>
  cases a with
  |cell c=>exact one (by intro i hi;cases hi) h
  |raw u=>
   cases u with
   |slice ad n c=>
    cases ad with
    |some _=>cases h
    |none=>
     cases n with
     |succ _=>cases h
     |zero=>
      cases c with
      |succ _=>cases h
      |zero=>exact absurd rfl hn
   |_=>cases h
  |_=>cases h
 |int k=>cases a<;>first|(cases h;done)|exact one (by intro i hi;cases hi) h
 |bool=>cases a<;>first|(cases h;done)|exact one (by intro i hi;cases hi) h
 |str=>cases a<;>first|(cases h;done)|exact one (by intro i hi;cases hi) h
def Imp (T:Tab) (a b:AV T.U):Prop:=b.ids=a.ids/\(b=a\/(za6 T a=true/\za6 T b=true))/\ ∀(w:World) (S:List Nat) (φ:Nat->RA) (v:Value),VR T w S φ a v->VR T w S φ b v
inductive ImpL (T:Tab):List (AV T.U)->List (AV T.U)->Prop
 |nil:ImpL T [] []
 |cons {a b:AV T.U} {aS bs:List (AV T.U)}:Imp T a b->ImpL T aS bs->ImpL T (a::aS) (b::bs)
inductive ImpE (T:Tab):Ent T.U->Ent T.U->Prop
 |same (e:Ent T.U):ImpE T e e
 |blk {e:TypeId} {aS bs:List (AV T.U)}:ImpL T aS bs->ImpE T (.blk e aS) (.blk e bs)
 |map {k:IntKind} {keys:List Int} {aS bs:List (AV T.U)}:ImpL T aS bs->ImpE T (.map k (yd3 keys aS)) (.map k (yd3 keys bs))
inductive ImpH (T:Tab):List (Ent T.U)->List (Ent T.U)->Prop
 |nil:ImpH T [] []
 |cons {e f:Ent T.U} {es fs:List (Ent T.U)}:ImpE T e f->ImpH T es fs->ImpH T (e::es) (f::fs)
def Imp.refl (a):Imp T a a:=⟨rfl,.inl rfl,fun _ _ _ _ h=>h⟩
def Imp.of_eq {a b} (h:a=b):Imp T a b:=h▸.refl a
def ImpL.vrl {aS b} (h:ImpL T aS b): ∀ {w S φ vs},VRL T w S φ aS vs->VRL T w S φ b vs:=by
 induction h with
 |nil=>exact fun h=>h
 |cons c _ d=>
  intro w S φ vs a
  match vs,a with
  |v::vs,a=>exact ⟨c.2.2 _ _ _ _ a.1,d a.2⟩
def ImpL.ids {aS a} (h:ImpL T aS a):v8 a=v8 aS:=by
 induction h with
 |nil=>rfl
 |cons b _ c=>rw [v8,v8,c,b.1]
def ImpL.agg {aS a} (h:ImpL T aS a):Imp T (.agg aS) (.agg a):=⟨by rw [AV.ids,AV.ids,h.ids],.inr ⟨rfl,rfl⟩,fun w S φ v b=>by obtain ⟨vs,c,d⟩:=b;exact ⟨vs,c,h.vrl d⟩⟩
def ImpL.fn {f aS c a b} (h:ImpL T aS c) (d:ImpL T a b):Imp T (.fn f aS a) (.fn f c b):=⟨by rw [AV.ids,AV.ids,h.ids,d.ids],.inr ⟨rfl,rfl⟩,fun w S φ v e=>by obtain ⟨g,i,j,k,l⟩:=e;exact ⟨g,i,j,h.vrl k,d.vrl l⟩⟩
def Imp.ifc {t a b} (h:Imp T a b):Imp T (.ifc t a) (.ifc t b):=⟨by rw [AV.ids,AV.ids,h.1],.inr ⟨rfl,rfl⟩,fun w S φ v c=>by obtain ⟨u,d,e⟩:=c;exact ⟨u,d,h.2.2 _ _ _ _ e⟩⟩
def ImpL.app {aS c a b} (h:ImpL T aS c) (d:ImpL T a b):ImpL T (aS++a) (c++b):=by
 induction h with
 |nil=>exact d
 |cons e _ f=>exact .cons e f
def Imp.exp {a b} (h:Imp T a b):ImpL T (je4 T a) (je4 T b)/\(jp3 T a->jp3 T b):=by
 rcases h.2.1 with rfl|⟨d,c⟩
 ·refine ⟨?_,id⟩;generalize je4 T b=l;induction l with
  |nil=>exact .nil
  |cons a r e=>exact .cons (.refl a) e
 ·rw [zo0 T d,zo0 T c];exact ⟨.cons h .nil,fun _=>zz1 T c⟩
def ImpL.exp {aS a} (h:ImpL T aS a):ImpL T (zi1 T aS) (zi1 T a)/\(zw2 T aS->zw2 T a):=by
 induction h with
 |nil=>exact ⟨.nil,id⟩
 |cons b _ c=>exact ⟨b.exp.1.app c.1,fun d=>⟨b.exp.2 d.1,c.2 d.2⟩⟩
def ImpL.br {aS a} (h:ImpL T aS a) {w S φ vs} (b:BR T w S φ aS vs):BR T w S φ a vs:=⟨h.exp.1.vrl b.1,h.exp.2 b.2⟩
def ImpL.mr {k aS c} (h:ImpL T aS c): ∀ {a w S φ l},MR T w S φ k (yd3 a aS) l->MR T w S φ k (yd3 a c) l:=by
 induction h with
 |nil=>exact fun h=>h
 |cons d _ f=>
  intro a w S φ l b
  match a,l,b with
  | [],_,b=>exact b
  |_::_,[],b=>exact b
  |x::r,e::l,b=>exact ⟨b.1,d.2.2 _ _ _ _ b.2.1,f b.2.2⟩
def ImpL.idsM {aS b} (h:ImpL T aS b): ∀(a),idsM (yd3 a b)=idsM (yd3 a aS):=by
 induction h with
 |nil=>exact fun _=>rfl
 |cons c _ d=>
  intro a;cases a with
  |nil=>rfl
  |cons x r=>rw [yd3,yd3,Go.X.idsM,Go.X.idsM,c.1,d r]
def jl0 {U}: ∀(c:List Int) (aS:List (AV U)),∀i∈idsM (yd3 c aS),i∈v8 aS
 | [],_,i,b=>by cases b
 |_::_,[],i,b=>by cases b
 |x::r,a::s,i,b=>by
  rcases X4.1 (show i∈a.ids++idsM (yd3 r s) from b) with b|b
  ·exact X4.2 (.inl b)
  ·exact X4.2 (.inr (jl0 r s i b))
def yh0 {U} (ρ:Nat->Nat): ∀(b:List Int) (aS:List (AV U)),jz9 ρ (yd3 b aS)=yd3 b (zi5 ρ aS)
 | [],_=>rfl
 |_::_,[]=>rfl
 |x::r,a::s=>congrArg ((x,a.ren ρ):: ·) (yh0 ρ r s)
def ImpH.app {aS c a b} (h:ImpH T aS c) (d:ImpH T a b):ImpH T (aS++a) (c++b):=by
 induction h with
 |nil=>exact d
 |cons e _ f=>exact .cons e f
def ImpH.get {es b:List (Ent T.U)} (h:ImpH T es b): ∀ {i:Nat} {f:Ent T.U},b[i]?=some f-> ∃e,es[i]?=some e/\ImpE T e f:=by
 induction h with
 |nil=>intro i f h;simp at h
 |cons c _ d=>
  intro i f a;cases i with
  |zero=>simp at a;subst a;exact ⟨_,rfl,c⟩
  |succ i=>exact d (by simpa using a)
def ImpH.len {es a} (h:ImpH T es a):a.length=es.length:=by
 induction h with
 |nil=>rfl
 |cons _ _ b=>simp [b]
def ImpE.live {e f} (h:ImpE T e f):f.live=e.live:=by cases h<;>rfl
def ImpE.cellIds {e f} (h:ImpE T e f):f.cellIds=e.cellIds:=by
 cases h with
 |same e=>rfl
 |blk h=>exact h.ids
 |map h=>exact h.idsM _
def ImpE.entR {e f} (h:ImpE T e f) {w S φ i} (a:EntR T w S φ i e):EntR T w S φ i f:=by
 cases h with
 |same e=>exact a
 |blk h=>obtain ⟨g,c,b,d,j,k⟩:=a;exact ⟨g,c,b,d,j,h.br k⟩
 |map h=>obtain ⟨g,l,c,b,d,j,k,m⟩:=a;exact ⟨g,l,c,b,d,j,h.mr k,m⟩
def Sim.imp {w0:World} {S0:Ow} {F:AF T} {H H1:List (Ent T.U)} {z:PF} {w:World} {S:List Nat} {φ:Nat->RA} (h:Sim T w0 S0 ⟨F,H⟩ z w S φ) (d:ImpH T H H1):Sim T w0 S0 ⟨F,H1⟩ z w S φ:=by
 refine ⟨h.fr,?_,h.chg,h.own,h.ex,?_,fun k r A=>⟨(h.pins k r A).1,by have:=(h.pins k r A).2;simp only [d.len] at this⊢;exact this⟩,?_,?_,?_⟩
 ·intro i a n;obtain ⟨B,C⟩:=h.ids i a n;refine ⟨fun j o=>by have:=B j o;simp only [d.len] at this⊢;exact this,?_⟩;cases a with
  |eptr j sz k c=>
   intro e t xs D;obtain ⟨e0,g,l⟩:=d.get D;cases l with
   |same=>exact C e t xs g
  |_=>trivial
 ·intro i f m p a n;obtain ⟨e0,g,l⟩:=d.get m;exact h.lives i e0 g (by rw [<-l.live];exact p) a n
 ·intro i f m;obtain ⟨e0,g,l⟩:=d.get m;exact l.entR (h.ents i e0 g)
 ·intro i f m j o;obtain ⟨e0,g,l⟩:=d.get m;rw [l.cellIds] at o;have:=h.eids i e0 g j o;simp only [d.len] at this⊢;exact this
 ·intro i j f G m q p s u a b n E;obtain ⟨e0,g,l⟩:=d.get m;obtain ⟨v,x,y⟩:=d.get q;exact h.apart i j e0 v g x (by rw [<-l.live];exact p) (by rw [<-y.live];exact s) u a b n E
def ql5 {t a x} (h:jm4 T t a=some x) (ρ):Imp T (a.ren ρ) (zm8 T t x)/\a.ids= []:=by
 by_cases c:a=.raw (.slice none 0 0)
 ·subst c;cases t<;>try (cases h;done)
  ·rename_i e;have h:([]:List (den T.U e))=x:=X5 h;subst h;refine ⟨⟨rfl,.inr ⟨rfl,rfl⟩,fun w S φ v b=>?_⟩,rfl⟩;rw [AV.ren,VR] at b;subst b;exact CR.nilS
  ·rename_i e;have h:([]:List (den T.U e))=x:=X5 h;subst h;refine ⟨⟨rfl,.inr ⟨rfl,rfl⟩,fun w S φ v b=>?_⟩,rfl⟩;rw [AV.ren,VR] at b;subst b;exact .nl e [] none 0 CR.nilS fun _=>⟨rfl,rfl⟩
 ·have:=vg7 h c;subst this;rw [qq4];exact ⟨.refl _,yg9 t x⟩
def jg1 {U:Nat->Type} {a:AV U} {i:Nat} (h:gd4 a=some i):a=.own i:=by cases a<;>simp_all [gd4]
def vc6 {U:Nat->Type} {a:AV U} {i sz o n:Nat} (h:slI a=some (i,sz,o,n)):a=.sl i sz o n:=by cases a<;>simp_all [slI]
def jg6 {U:Nat->Type} {a:AV U} {i o:Nat} (h:gl2 a=some (i,o)):a=.ptr i o:=by cases a<;>simp_all [gl2]
def wb8 {U:Nat->Type} {a:AV U} {f:FuncId} {aS b:List (AV U)} (h:fnI a=some (f,aS,b)):a=.fn (.func f) aS b:=by
 cases a<;>try (cases h;done)
 rename_i c _ _;cases c<;>try (cases h;done)
 simp only [fnI,X0,X7] at h;obtain ⟨rfl,rfl,rfl⟩:=h;rfl
def kz8 {U:Nat->Type} {a:AV U} {aS:List (AV U)} (h:ud6 a=some aS):a=.agg aS:=by cases a<;>simp_all [ud6]
def gb9 {U:Nat->Type} {a b:AV U} {t:TypeId} (h:ue1 a=some (t,b)):a=.ifc t b:=by cases a<;>simp_all [ue1]
def kc8 {U:Nat->Type} {a:AV U} (h:ks2 a=true):a=.raw (.slice none 0 0):=by
 unfold ks2 at h;split at h
 ·rfl
 ·cases h
def vf4 {U:Nat->Type} {k:IntKind} {x:Int} {a:AV U} (h:kj4 k x a=true):a=.cell ⟨.int k,x⟩:=by
 unfold kj4 at h;split at h
 ·rename_i c y;rw [X3] at h;have:=za9 h.1;subst this;have b:(show Int from y)=x:=eq_of_beq h.2;subst b;rfl
 ·cases h
def ql3 {U:Nat->Type} {a:AV U} (h:ks1 a=true):a=.raw (.pointer none):=by
 unfold ks1 at h;split at h
 ·rfl
 ·cases h
def qi9 {U:Nat->Type} {t:Ty} {n:Nat} {a:AV U} {xs:List (den U t)} (h:kr5 t n a=some xs):a=.arr t n xs:=by
 unfold kr5 at h;split at h
 ·split at h
  ·rename_i b;have:=X1 b;subst this;split at h
   ·rename_i c;subst c;simp only [X0] at h;subst h;rfl
   ·cases h
  ·cases h
 ·cases h
def kj9 {U:Nat->Type} {e:Ty} {o k:Nat} {a:AV U} {xs:List (den U e)} (h:lpI e o a=some (xs,k)):a=.lptr e xs k o:=by
 unfold lpI at h;split at h
 ·split at h
  ·rename_i b;have:=X1 b;subst this;split at h
   ·rename_i c;subst c;simp only [X0,X7] at h;obtain ⟨rfl,rfl⟩:=h;rfl
   ·cases h
  ·cases h
 ·cases h
def vd7 {U:Nat->Type} {a:AV U} {i o sz n b m:Nat} (h:gi0 a=some (i,o,sz,n,b,m)):a=.asl i o sz n b m:=by cases a<;>simp_all [gi0]
def qi7 {U:Nat->Type} {a:AV U} {i o sz n k c:Nat} (h:kr2 a=some (i,o,sz,n,k,c)):a=.aptr i o sz n k c:=by cases a<;>simp_all [kr2]
def ve9 {U:Nat->Type} {a:AV U} {i:Nat} (h:gj2 a=some i):a=.hmp i:=by cases a<;>simp_all [gj2]
def je8 {H i} (h:vt8 T H i=true):H[i]?=some .hid:=by
 unfold vt8 at h;split at h
 ·assumption
 ·cases h
def qc2 {U:Nat->Type} {a:AV U} {i:Nat} (h:mpI a=some i):a=.mp i:=by cases a<;>simp_all [mpI]
def vi2 {U:Nat->Type} {a:AV U} {n:Nat} (h:ue8 n a=true):a=.raw (um7 n):=by
 unfold ue8 at h;split at h<;>first|(have:=X1 h;subst this;rfl)|cases h
mutual
def qo8 {H}: ∀(s a l l' x),rdS T H s a l=some (x,l')->
  ∃w,RdOk T H a.ids l l' w/\w.length=s.cnt/\ ∀ρ,Places ρ l'->Imp T (a.ren ρ) (mkA T id s x l.length)/\ImpH T (zd9 T H ρ w) (mkE T id s x l.length)
 | .val t,a,l,l',x,h=>by
  unfold rdS at h;split at h
  ·rename_i y K;simp only [X0,X7] at h;obtain ⟨rfl,rfl⟩:=h;refine ⟨[],.nil (by rw [(ql5 K id).2];intro j u;cases u),rfl,fun ρ g=>⟨?_,.nil⟩⟩;exact (ql5 K ρ).1
  ·cases h
 | .row e t,a,l,l',x,h=>by
  unfold rdS at h;split at h<;>try (cases h;done)
  rename_i i q;have:=jg1 q;subst this;split at h
  ·rename_i xs v;simp only [X0,X7] at h;obtain ⟨rfl,rfl⟩:=h;have v:=yc9 v;refine ⟨[i],.one v rfl rfl,rfl,fun ρ g=>⟨.of_eq ?_,?_⟩⟩
   ·show AV.own (ρ i)=AV.own l.length;rw [show ρ i=l.length from g l.length i (by simp)]
   ·rw [zf9 v];exact .cons (.same _) .nil
  ·cases h
 | .slr e t,a,l,l',x,h=>by
  unfold rdS at h;split at h<;>try (cases h;done)
  rename_i i sz o n q;have:=vc6 q;subst this;split at h<;>try (cases h;done)
  rename_i xs v;split at h<;>try (cases h;done)
  rename_i N;simp only [X0,X7] at h;obtain ⟨rfl,rfl⟩:=h;have:=X1 N;subst this;have v:=yc9 v;refine ⟨[i],.one v rfl rfl,rfl,fun ρ g=>⟨.of_eq ?_,?_⟩⟩
  ·show AV.sl (ρ i) _ o n=AV.sl l.length _ o n;rw [show ρ i=l.length from g l.length i (by simp)]
  ·rw [zf9 v];exact .cons (.same _) .nil
 | .ptr o e cs,a,l,l',x,h=>by
  unfold rdS at h;split at h<;>try (cases h;done)
  rename_i i o' q;have:=jg6 q;subst this;split at h<;>try (cases h;done)
  rename_i aS r;split at h<;>try (cases h;done)
  rename_i I;have:=X1 I;subst this;have r:=zt4 r;obtain ⟨w,B,F,G⟩:=zd8 cs aS _ _ x h;refine ⟨i::w,.blk r B,by rw [U6,F,Sh.cnt];omega,fun ρ g=>?_⟩;obtain ⟨C,D⟩:=G ρ g;rw [show (l++ [some i]).length=l.length+1 by simp] at C D;refine ⟨.of_eq ?_,?_⟩
  ·rw [B.eq] at g;show AV.ptr (ρ i) o'=AV.ptr l.length o';rw [g.last]
  ·rw [zf9 r];exact .cons (.blk C) D
 | .slb sz n e cs,a,l,l',x,h=>by
  unfold rdS at h;split at h<;>try (cases h;done)
  rename_i i E o L q;have:=vc6 q;subst this;split at h<;>try (cases h;done)
  rename_i aS r;split at h<;>try (cases h;done)
  rename_i I;simp only [X3] at I;have:=X1 I.1;subst this;have:=X1 I.2.1;subst this;have:=X1 I.2.2;subst this;have r:=zt4 r;obtain ⟨w,B,F,G⟩:=zd8 cs aS _ _ x h;refine ⟨i::w,.blk r B,by rw [U6,F,Sh.cnt];omega,fun ρ g=>?_⟩;obtain ⟨C,D⟩:=G ρ g;rw [show (l++ [some i]).length=l.length+1 by simp] at C D;refine ⟨.of_eq ?_,?_⟩
  ·rw [B.eq] at g;show AV.sl (ρ i) E 0 L=AV.sl l.length E 0 L;rw [g.last]
  ·rw [zf9 r];exact .cons (.blk C) D
 | .at_ p o,a,l,l',x,h=>by
  unfold rdS at h;split at h<;>try (cases h;done)
  rename_i i o' q;have:=jg6 q;subst this;split at h
  ·rename_i r;simp only [X0,X7] at h;obtain ⟨_,rfl⟩:=h;simp only [X3] at r;have:=X1 r.1;subst this;have A:=zh1 r.2;refine ⟨[],.nil (by intro j u;simp [AV.ids] at u;subst u;exact X6 A),rfl,fun ρ g=>⟨.of_eq ?_,.nil⟩⟩;show AV.ptr (ρ i) o'=AV.ptr p o';rw [g p i A]
  ·cases h
 | .own p,a,l,l',x,h=>by
  unfold rdS at h;split at h<;>try (cases h;done)
  rename_i i q;have:=jg1 q;subst this;split at h
  ·rename_i r;simp only [X0,X7] at h;obtain ⟨_,rfl⟩:=h;have A:=zh1 r;refine ⟨[],.nil (by intro j u;simp [AV.ids] at u;subst u;exact X6 A),rfl,fun ρ g=>⟨.of_eq ?_,.nil⟩⟩;show AV.own (ρ i)=AV.own p;rw [g p i A]
  ·cases h
 | .part p sz,a,l,l',x,h=>by
  unfold rdS at h;split at h<;>try (cases h;done)
  rename_i i E o n q;have:=vc6 q;subst this;split at h
  ·rename_i r;simp only [X0,X7] at h;obtain ⟨rfl,rfl⟩:=h;simp only [X3] at r;have:=X1 r.1;subst this;have A:=zh1 r.2;refine ⟨[],.nil (by intro j u;simp [AV.ids] at u;subst u;exact X6 A),rfl,fun ρ g=>⟨.of_eq ?_,.nil⟩⟩;show AV.sl (ρ i) E o n=AV.sl p E o n;rw [g p i A]
  ·cases h
 | .fn f a b,c,l,l',x,h=>by
  unfold rdS at h;split at h<;>try (cases h;done)
  rename_i P aS Q q;have:=wb8 q;subst this;split at h<;>try (cases h;done)
  rename_i y Y K;split at h<;>try (cases h;done)
  rename_i Z;have:=X1 Z;subst this;obtain ⟨z,hz,rfl⟩:=zo5 h;obtain ⟨n1,B,F,G⟩:=zd8 a aS _ _ y K;obtain ⟨n2,R,k2,k3⟩:=zd8 b Q _ _ z hz;refine ⟨n1++n2,by rw [AV.ids];exact B.app R,by rw [X9,F,k2,Sh.cnt],fun ρ g=>?_⟩;obtain ⟨C,D⟩:=G ρ (by rw [R.eq] at g;exact g.pre);obtain ⟨S,V⟩:=k3 ρ g;have M:Y.length=l.length+zb0 a:=by rw [B.eq,X9,V0,F]
  rw [M] at S V;refine ⟨?_,?_⟩
  ·show Imp T (.fn (.func P) (zi5 ρ aS) (zi5 ρ Q)) (.fn (.func P) (zc3 T id a y l.length) (zc3 T id b z (l.length+zb0 a)));exact C.fn S
  ·rw [zo3];exact D.app V
 | .agg cs,a,l,l',x,h=>by
  unfold rdS at h;split at h<;>try (cases h;done)
  rename_i aS q;have:=kz8 q;subst this;obtain ⟨w,B,F,G⟩:=zd8 cs aS _ _ x h;refine ⟨w,by rw [AV.ids];exact B,by rw [F,Sh.cnt],fun ρ g=>?_⟩;obtain ⟨C,D⟩:=G ρ g;exact ⟨(show Imp T (.agg (zi5 ρ aS)) (.agg (zc3 T id cs x l.length)) from C.agg),D⟩
 | .ifc t s,a,l,l',x,h=>by
  unfold rdS at h;split at h<;>try (cases h;done)
  rename_i W a q;have:=gb9 q;subst this;split at h
  ·rename_i ht;have:=X1 ht;subst this;obtain ⟨w,B,F,G⟩:=qo8 s a _ _ x h;refine ⟨w,by rw [AV.ids];exact B,by rw [F,Sh.cnt],fun ρ g=>?_⟩;obtain ⟨C,D⟩:=G ρ g;exact ⟨(show Imp T (.ifc W (a.ren ρ)) (.ifc W (mkA T id s x l.length)) from C.ifc),D⟩
  ·cases h
 | .nils,a,l,l',x,h=>by
  unfold rdS at h;split at h<;>try (cases h;done)
  rename_i q;have:=kc8 q;subst this;simp only [X0,X7] at h;obtain ⟨_,rfl⟩:=h;exact ⟨[],.nil (by intro j u;cases u),rfl,fun ρ g=>⟨.of_eq rfl,.nil⟩⟩
 | .nilp,a,l,l',x,h=>by
  unfold rdS at h;split at h<;>try (cases h;done)
  rename_i q;have:=ql3 q;subst this;simp only [X0,X7] at h;obtain ⟨_,rfl⟩:=h;exact ⟨[],.nil (by intro j u;cases u),rfl,fun ρ g=>⟨.of_eq rfl,.nil⟩⟩
 | .lit k y,a,l,l',x,h=>by
  unfold rdS at h;split at h<;>try (cases h;done)
  rename_i q;have:=vf4 q;subst this;simp only [X0,X7] at h;obtain ⟨_,rfl⟩:=h;exact ⟨[],.nil (by intro j u;cases u),rfl,fun ρ g=>⟨.of_eq (by rw [AV.ren];rfl),.nil⟩⟩
 | .arr t n,a,l,l',x,h=>by
  unfold rdS at h;split at h
  ·rename_i xs v;simp only [X0,X7] at h;obtain ⟨rfl,rfl⟩:=h;have:=qi9 v;subst this;exact ⟨[],.nil (by intro j u;cases u),rfl,fun ρ g=>⟨.of_eq rfl,.nil⟩⟩
  ·cases h
 | .lp e o,a,l,l',x,h=>by
  unfold rdS at h;split at h
  ·rename_i y v;obtain ⟨xs,k⟩:=y;simp only [X0,X7] at h;obtain ⟨rfl,rfl⟩:=h;have:=kj9 v;subst this;exact ⟨[],.nil (by intro j u;cases u),rfl,fun ρ g=>⟨.of_eq rfl,.nil⟩⟩
  ·cases h
 | .lpk e k o,a,l,l',x,h=>by
  unfold rdS at h;split at h<;>try (cases h;done)
  rename_i y v;split at h<;>try (cases h;done)
  rename_i hk;obtain ⟨xs,k'⟩:=y;have:=X1 hk;subst this;simp only [X0,X7] at h;obtain ⟨rfl,rfl⟩:=h;have:=kj9 v;subst this;exact ⟨[],.nil (by intro j u;cases u),rfl,fun ρ g=>⟨.of_eq rfl,.nil⟩⟩
 | .asp p o sz n,a,l,l',x,h=>by
  unfold rdS at h;split at h<;>try (cases h;done)
  rename_i i o' E L O m q;have:=vd7 q;subst this;split at h
  ·rename_i r;simp only [X0,X7] at h;obtain ⟨rfl,rfl⟩:=h;simp only [X3] at r;have A:=zh1 r.1;have:=X1 r.2.1;subst this;have:=X1 r.2.2.1;subst this;have:=X1 r.2.2.2;subst this;refine ⟨[],.nil (by intro j u;simp [AV.ids] at u;subst u;exact X6 A),rfl,fun ρ g=>⟨.of_eq ?_,.nil⟩⟩;show AV.asl (ρ i) _ _ _ _ _=AV.asl p _ _ _ _ _;rw [g p i A]
  ·cases h
 | .asn e cs o sz n,a,l,l',x,h=>by
  unfold rdS at h;split at h<;>try (cases h;done)
  rename_i i o' E L O m q;have:=vd7 q;subst this;split at h<;>try (cases h;done)
  rename_i aS r;split at h<;>try (cases h;done)
  rename_i I;simp only [X3] at I;have:=X1 I.1;subst this;have:=X1 I.2.1;subst this;have:=X1 I.2.2;subst this;have r:=zt4 r;obtain ⟨y,K,rfl⟩:=zo5 h;obtain ⟨w,B,F,G⟩:=zd8 cs aS _ _ y K;refine ⟨i::w,.blk r B,by rw [U6,F,Sh.cnt];omega,fun ρ g=>?_⟩;obtain ⟨C,D⟩:=G ρ g;rw [show (l++ [some i]).length=l.length+1 by simp] at C D;refine ⟨.of_eq ?_,?_⟩
  ·rw [B.eq] at g;show AV.asl (ρ i) _ _ _ O m=AV.asl l.length _ _ _ O m;rw [g.last]
  ·rw [zf9 r];exact .cons (.blk C) D
 | .ap p o sz n c,a,l,l',x,h=>by
  unfold rdS at h;split at h<;>try (cases h;done)
  rename_i i o' E L k c' q;have:=qi7 q;subst this;split at h
  ·rename_i r;simp only [X0,X7] at h;obtain ⟨rfl,rfl⟩:=h;simp only [X3] at r;have A:=zh1 r.1;have:=X1 r.2.1;subst this;have:=X1 r.2.2.1;subst this;have:=X1 r.2.2.2.1;subst this;have:=X1 r.2.2.2.2;subst this;refine ⟨[],.nil (by intro j u;simp [AV.ids] at u;subst u;exact X6 A),rfl,fun ρ g=>⟨.of_eq ?_,.nil⟩⟩;show AV.aptr (ρ i) _ _ _ _ _=AV.aptr p _ _ _ _ _;rw [g p i A]
  ·cases h
 | .mp X J cs,a,l,l',x,h=>by
  unfold rdS at h;split at h<;>try (cases h;done)
  rename_i i q;have:=qc2 q;subst this;split at h<;>try (cases h;done)
  rename_i aS r;have r:=jf5 r;obtain ⟨w,B,F,G⟩:=zd8 cs aS _ _ x h;refine ⟨i::w,.map r (jl0 J aS) B,by rw [U6,F,Sh.cnt];omega,fun ρ g=>?_⟩;obtain ⟨C,D⟩:=G ρ g;rw [show (l++ [some i]).length=l.length+1 by simp] at C D;refine ⟨.of_eq ?_,?_⟩
  ·rw [B.eq] at g;show AV.mp (ρ i)=AV.mp l.length;rw [g.last]
  ·rw [zf9 r];refine .cons ?_ D;show ImpE T (.map X (jz9 ρ (yd3 J aS))) _;rw [yh0];exact .map C
 | .mpo p,a,l,l',x,h=>by
  unfold rdS at h;split at h<;>try (cases h;done)
  rename_i i q;have:=qc2 q;subst this;split at h
  ·rename_i r;simp only [X0,X7] at h;obtain ⟨_,rfl⟩:=h;have A:=zh1 r;refine ⟨[],.nil (by intro j u;simp [AV.ids] at u;subst u;exact X6 A),rfl,fun ρ g=>⟨.of_eq ?_,.nil⟩⟩;show AV.mp (ρ i)=AV.mp p;rw [g p i A]
  ·cases h
 | .rw n,a,l,l',x,h=>by
  unfold rdS at h;split at h<;>try (cases h;done)
  rename_i q;have:=vi2 q;subst this;simp only [X0,X7] at h;obtain ⟨_,rfl⟩:=h;exact ⟨[],.nil (by intro j u;cases u),rfl,fun ρ g=>⟨.of_eq (by rw [AV.ren];rfl),.nil⟩⟩
 | .tm X t,a,l,l',x,h=>by
  unfold rdS at h;split at h<;>try (cases h;done)
  rename_i i q;have:=qc2 q;subst this;split at h
  ·rename_i xs v;simp only [X0,X7] at h;obtain ⟨rfl,rfl⟩:=h;have v:=jw8 v;refine ⟨[i],.one v rfl rfl,rfl,fun ρ g=>⟨.of_eq ?_,?_⟩⟩
   ·show AV.mp (ρ i)=AV.mp l.length;rw [show ρ i=l.length from g l.length i (by simp)]
   ·rw [zf9 v];exact .cons (.same _) .nil
  ·cases h
 | .dr e d fe,a,l,l',x,h=>by
  unfold rdS at h;split at h<;>try (cases h;done)
  rename_i i q;have:=jg1 q;subst this;split at h
  ·rename_i xs v;simp only [X0,X7] at h;obtain ⟨rfl,rfl⟩:=h;have v:=jr4 v;refine ⟨[i],.one v rfl rfl,rfl,fun ρ g=>⟨.of_eq ?_,?_⟩⟩
   ·show AV.own (ρ i)=AV.own l.length;rw [show ρ i=l.length from g l.length i (by simp)]
   ·rw [zf9 v];exact .cons (.same _) .nil
  ·cases h
 | .pm k be d,a,l,l',x,h=>by
  unfold rdS at h;split at h<;>try (cases h;done)
  rename_i i q;have:=qc2 q;subst this;split at h
  ·rename_i xs v;simp only [X0,X7] at h;obtain ⟨rfl,rfl⟩:=h;have v:=jt4 v;refine ⟨[i],.one v rfl rfl,rfl,fun ρ g=>⟨.of_eq ?_,?_⟩⟩
   ·show AV.mp (ρ i)=AV.mp l.length;rw [show ρ i=l.length from g l.length i (by simp)]
   ·rw [zf9 v];exact .cons (.same _) .nil
  ·cases h
 | .gm,a,l,l',x,h=>by
  unfold rdS at h;split at h<;>try (cases h;done)
  rename_i i q;have:=ve9 q;subst this;split at h
  ·rename_i v;simp only [X0,X7] at h;obtain ⟨rfl,rfl⟩:=h;have v:=je8 v;refine ⟨[i],.one v rfl rfl,rfl,fun ρ g=>⟨.of_eq ?_,?_⟩⟩
   ·show AV.hmp (ρ i)=AV.hmp l.length;rw [show ρ i=l.length from g l.length i (by simp)]
   ·rw [zf9 v];exact .cons (.same _) .nil
  ·cases h
 | .gmo p,a,l,l',x,h=>by
  unfold rdS at h;split at h<;>try (cases h;done)
  rename_i i q;have:=ve9 q;subst this;split at h
  ·rename_i r;simp only [X0,X7] at h;obtain ⟨_,rfl⟩:=h;have A:=zh1 r;refine ⟨[],.nil (by intro j u;simp [AV.ids] at u;subst u;exact X6 A),rfl,fun ρ g=>⟨.of_eq ?_,.nil⟩⟩;show AV.hmp (ρ i)=AV.hmp p;rw [g p i A]
  ·cases h
def zd8 {H}: ∀(d aS l l' x),zq5 T H d aS l=some (x,l')->
  ∃c,RdOk T H (v8 aS) l l' c/\c.length=zb0 d/\ ∀ρ,Places ρ l'->ImpL T (zi5 ρ aS) (zc3 T id d x l.length)/\ImpH T (zd9 T H ρ c) (zh8 T id d x l.length)
 | [],aS,l,l',x,h=>by
  cases aS with
  |cons _ _=>unfold zq5 at h;cases h
  |nil=>
   unfold zq5 at h;simp only [X0,X7] at h;obtain ⟨_,rfl⟩:=h;exact ⟨[],.nil (by intro j n;cases n),rfl,fun ρ b=>⟨.nil,.nil⟩⟩
 |s::r,aS,l,l',x,h=>by
  cases aS with
  |nil=>unfold zq5 at h;cases h
  |cons a aS=>
   unfold zq5 at h;simp only at h;split at h<;>try (cases h;done)
   rename_i y o p;obtain ⟨z,q,rfl⟩:=zo5 h;obtain ⟨t,f,g,u⟩:=qo8 s a _ _ y p;obtain ⟨v,i,w,A⟩:=zd8 r aS _ _ z q;refine ⟨t++v,by rw [v8];exact f.app i,by rw [X9,g,w,zb0],fun ρ b=>?_⟩;obtain ⟨B,C⟩:=u ρ (by rw [i.eq] at b;exact b.pre);obtain ⟨k,m⟩:=A ρ b;have e:o.length=l.length+s.cnt:=by rw [f.eq,X9,V0,g]
   rw [e] at k m;exact ⟨(.cons B k),by rw [zo3];exact C.app m⟩
end
end
end Go.X
namespace Go.X
open Go.RowKit Go.V
section
variable {T:Tab} {P:Program} {w w':World} {S S':List Nat} {φ φ':Nat->RA} {w0:World} {S0:Ow} {F:AF T} {H:List (Ent T.U)} {F' F'':PF}
def yh7 (H ρ): ∀l:Src,(zi3 T H ρ l).length=l.length
 | []=>rfl
 |some i::r=>by simp [zi3,yh7 H ρ r]
 |none::r=>by simp [zi3,yh7 H ρ r]
def yh6 (H ρ): ∀l m:Src,zi3 T H ρ (l++m)=zi3 T H ρ l++zi3 T H ρ m
 | [],_=>rfl
 |some i::r,m=>by simp [zi3,yh6 H ρ r m]
 |none::r,m=>by simp [zi3,yh6 H ρ r m]
def zs7 (H ρ): ∀l:List Nat,zi3 T H ρ (l.map some)=zd9 T H ρ l
 | []=>rfl
 |i::r=>by
  rw [W8,zi3,zs7 H ρ r];cases hi:H[i]? with
  |none=>simp only [zd9,hi]
  |some e=>simp only [zd9,hi]
def zo8 {H:List (Ent T.U)} {ρ:Nat->Nat} {f:Ent T.U}: ∀ {l:Src} {j:Nat},(zi3 T H ρ l)[j]?=some f->f=.gone\/ ∃i e,l[j]?=some (some i)/\H[i]?=some e/\f=e.ren ρ
 | [],j,h=>by simp [zi3] at h
 |some i::r,0,h=>by
  simp only [zi3,Y4,X0] at h;split at h
  ·rename_i e d;exact .inr ⟨i,e,rfl,d,h.symm⟩
  ·exact .inl h.symm
 |none::r,0,h=>by simp only [zi3,Y4,X0] at h;exact .inl h.symm
 |some i::r,j+1,h=>by
  rcases zo8 (l:=r) (j:=j) (by simpa [zi3] using h) with h|⟨i,e,a,b,c⟩
  ·exact .inl h
  ·exact .inr ⟨i,e,by simpa using a,b,c⟩
 |none::r,j+1,h=>by
  rcases zo8 (l:=r) (j:=j) (by simpa [zi3] using h) with h|⟨i,e,a,b,c⟩
  ·exact .inl h
  ·exact .inr ⟨i,e,by simpa using a,b,c⟩
def φO (l:Src) (φ:Nat->RA) (j:Nat):RA:=match l[j]? with|some (some i)=>φ i|_=>φ j
def φO_at {l j i} (h:l[j]?=some (some i)):φO l φ j=φ i:=by unfold φO;rw [h]
def φO_idx {l i} (h:some i∈l):φO l φ (yn3 i l)=φ i:=φO_at (zl3 h)
def Sim.src (h:Sim T w0 S0 ⟨F,H⟩ F' w S φ) {l} (B:zl8 l=true) (C: ∀k,k<S0.pin.length->l[k]?=some (some k)\/l[k]?=some none)
  (z: ∀i e,some i∈l->H[i]?=some e-> ∀j∈e.cellIds,some j∈l):Sim T w0 S0 ⟨[],zi3 T H (fun i=>yn3 i l) l⟩ [] w S (φO l φ):=by
 refine ⟨fun i a c=>by simp [AF.get] at c,fun i a c=>by simp [AF.get] at c,h.chg,h.own,h.ex,?_,fun k r g=>?_,?_,?_,?_⟩
 ·intro j f o p a c;rcases zo8 o with rfl|⟨i,e,d,n,rfl⟩
  ·cases p
  ·rw [φO_at d] at c;exact h.lives i e n (by rw [Ent.ren_live] at p;exact p) a c
 ·have s:=C k (X2.1 g).1;have u:φO l φ k=φ k:=by
   rcases s with h|h
   ·exact φO_at h
   ·unfold φO;rw [h]
  refine ⟨by rw [u];exact (h.pins k r g).1,?_⟩;simp only [yh7];rcases s with h|h<;>exact (X2.1 h).1
 ·intro j f o;rcases zo8 o with rfl|⟨i,e,d,n,rfl⟩
  ·trivial
  ·exact (h.ents i e n).ren (φO_at d) fun k g=>φO_idx (z i e (X6 d) n k g)
 ·intro j f o k g;rcases zo8 o with rfl|⟨i,e,d,n,rfl⟩
  ·cases g
  ·rw [Ent.ren_cellIds] at g;obtain ⟨m,D,rfl⟩:=U0.1 g;simp only [yh7];exact (X2.1 (zl3 (z i e (X6 d) n m D))).1
 ·intro j k f I o v p q x a b c A;rcases zo8 o with rfl|⟨i,e,d,n,rfl⟩
  ·cases p
  ·rcases zo8 v with rfl|⟨E,G,t,y,rfl⟩
   ·cases q
   ·rw [φO_at d] at c;rw [φO_at t] at A;rw [Ent.ren_live] at p q;exact h.apart i E e G n y p q (fun e=>x (by subst e;exact yc5 B d t)) a b c A
def Sim.unpin {c x p} (h:Sim T w0 ⟨c,x,p⟩ ⟨F,H⟩ F' w S φ):Sim T w0 ⟨c,x,[]⟩ ⟨F,H⟩ F' w S φ:=
 ⟨h.fr,h.ids,h.chg,h.own,h.ex,h.lives,fun k r a=>by simp at a,h.ents,h.eids,h.apart⟩
def Sim.start (h:Sim T w0 S0 ⟨F,H⟩ F' w S φ):Sim T w ⟨zc9 φ H.length,S,(List.range H.length).map φ⟩ ⟨[],H⟩ [] w S φ:=by
 refine ⟨fun i a d=>by simp [AF.get] at d,fun i a d=>by simp [AF.get] at d,Chg.refl _ _,fun b f=>⟨.inl f,(h.own b f).2⟩,fun b f _ _=>f,fun i e j l a d=>⟨(h.lives i e j l a d).1,.inl ?_⟩,fun k r g=>?_,h.ents,h.eids,h.apart⟩
 ·unfold zc9;exact M3.2 ⟨i,V9.2 (X2.1 j).1,zy0.2 ⟨a,d,rfl⟩⟩
 ·have c:=(X2.1 g).1;simp at c;simp [c] at g;exact ⟨.of g,c⟩
def Sim.slots (h:Sim T w0 S0 ⟨[],H⟩ F'' w S φ) {aS vs} (c:VRL T w S φ aS vs) (d: ∀a∈aS,okA H a):Sim T w0 S0 ⟨zv6 T aS 0,H⟩ (yx9 vs 0) w S φ:=
 ⟨fun i a b=>yu1 c b,fun i a b=>d a (yu2 b),h.chg,h.own,h.ex,h.lives,h.pins,h.ents,h.eids,h.apart⟩
def σJ (ids:List Nat) (n:Nat) (j:Nat):Nat:=match Nat.blt j ids.length with|true=>ids.getD j 0|false=>n+(j-ids.length)
def σJ_lo {ids n j} (h:j<ids.length):ids[j]?=some (σJ ids n j):=by
 unfold σJ;rw [show Nat.blt j ids.length=true by rw [U9];exact h];simp [Y0 h]
def σJ_hi {ids n j} (h:ids.length<=j):σJ ids n j=n+(j-ids.length):=by
 unfold σJ;rw [show Nat.blt j ids.length=false by cases hb:Nat.blt j ids.length;rfl;rw [U9] at hb;omega]
def Sim.join (h:Sim T w0 S0 ⟨F,H⟩ F' w S φ) {ids} (hn:ze6 ids=true) (X: ∀i∈ids,∃e,H[i]?=some e/\e.live=true) {K u} (hφc: ∀k i,ids[k]?=some i->K k=φ i) {F1 S1 L Nw}
  (D:Sim T w ⟨zc9 K ids.length,S,(List.range ids.length).map K⟩ ⟨[],L++Nw⟩ F1 w' S1 u) (hP:L.length=ids.length)
  (hty: ∀(k i:Nat) (e:TypeId) (t:Ty) (ys:List (den T.U t)),ids[k]?=some i->L[k]?=some (.row e t ys)-> ∃xs,H[i]?=some (.row e t xs)):
  ∃B,Sim T w0 S0 ⟨F,zf3 T H ids (L.map (Ent.ren (σJ ids H.length)))++Nw.map (Ent.ren (σJ ids H.length))⟩ F' w' S1 B/\
   ∀a v,VR T w' S1 u a v->(∀i∈a.ids,i<L.length+Nw.length)->VR T w' S1 B (a.ren (σJ ids H.length)) v:=by
 generalize Y:σJ ids H.length=σ
 let B:Nat->RA:=fun i=>if i<H.length then (if i∈ids then u (ids.idxOf i) else φ i) else u (ids.length+(i-H.length))
 have hidl: ∀k i,ids[k]?=some i->i<H.length:=fun k i p=>by
  obtain ⟨e,he,_⟩:=X i (X6 p);exact (X2.1 he).1
 have z: ∀m,B (H.length+m)=u (ids.length+m):=fun m=>by
  show (if H.length+m<H.length then _ else _)=_;rw [if_neg (by omega),M9]
 have hpin: ∀k i,ids[k]?=some i->RSame (u k) (φ i):=by
  intro k i p;have Z:=(X2.1 p).1;rw [<-hφc k i p];exact (D.pins k (K k) (by simp [Z])).1
 have M: ∀k i,ids[k]?=some i->B i=u k:=by
  intro k i p;have O:=X6 p;show (if i<H.length then (if i∈ids then u (ids.idxOf i) else φ i) else _)=_;rw [if_pos (hidl k i p),if_pos O];have h1:ids[ids.idxOf i]?=some i:=by
   have Z:=List.idxOf_lt_length_of_mem O;rw [Y0 Z,List.getElem_idxOf Z]
  rw [zu2 hn h1 p]
 have G: ∀i,i∉ids->i<H.length->B i=φ i:=fun i hi o=>by
  show (if i<H.length then (if i∈ids then u (ids.idxOf i) else φ i) else _)=_;rw [if_pos o,if_neg hi]
 have hold: ∀i,i<H.length->RSame (B i) (φ i):=fun i o=>by
  by_cases hi:i∈ids
  ·obtain ⟨k,p⟩:=Y9.1 hi;rw [M k i p];exact hpin k i p
  ·exact .of (G i hi o)
 have Q: ∀j,B (σ j)=u j:=by
  intro j;by_cases C:j<ids.length
  ·have hs:=σJ_lo (n:=H.length) C;rw [Y] at hs;exact M j _ hs
  ·rw [<-Y,σJ_hi (by omega),z];congr 1;omega
 have hσlt: ∀j,j<L.length+Nw.length->σ j<(zf3 T H ids (L.map (Ent.ren σ))++Nw.map (Ent.ren σ)).length:=by
  intro j C;rw [X9,za1,V0];by_cases Z:j<ids.length
  ·have hs:=σJ_lo (n:=H.length) Z;rw [Y] at hs;have:=hidl j _ hs;omega
  ·rw [<-Y,σJ_hi (by omega)];omega
 have N: ∀b∈zc9 K ids.length,∃(k i:Nat) (a:Addr),ids[k]?=some i/\At (φ i) a/\a.block=b:=by
  intro b s;obtain ⟨k,p,a,l,rfl⟩:=yu3 s;have hg:=Y0 p;exact ⟨k,_,a,hg,by rw [<-hφc k _ hg];exact l,rfl⟩
 have hTS: ∀b∈zc9 K ids.length,b∈S:=by
  intro b s;obtain ⟨k,i,a,p,l,rfl⟩:=N b s;obtain ⟨e,he,o⟩:=X i (X6 p);exact zi7 h he o l
 have hTc: ∀b∈zc9 K ids.length,b∈S0.chg\/w0.heap.size<=b:=by
  intro b s;obtain ⟨k,i,a,p,l,rfl⟩:=N b s;obtain ⟨e,he,o⟩:=X i (X6 p);exact (h.lives i e he o a l).2
 have hS1: ∀b∈S1,b∈S\/w.heap.size<=b:=fun b s=>(D.own b s).1;have hlen:(L.map (Ent.ren σ)).length=ids.length:=by rw [V0,hP]
 have get: ∀(j:Nat) (f:Ent T.U),(zf3 T H ids (L.map (Ent.ren σ))++Nw.map (Ent.ren σ))[j]?=some f->
   (∃(k:Nat) (g:Ent T.U),ids[k]?=some j/\L[k]?=some g/\f=g.ren σ/\j<H.length)\/(j∉ids/\H[j]?=some f/\j<H.length)\/(∃(m:Nat) (g:Ent T.U),j=H.length+m/\(L++Nw)[ids.length+m]?=some g/\f=g.ren σ):=by
  intro j f J;by_cases C:j<H.length
  ·rw [X8 (by rw [za1];exact C)] at J;rcases ze1 ids _ H hlen J with ⟨k,A,d⟩|⟨A,d⟩
   ·rw [W0] at d;cases hp:L[k]? with
    |none=>rw [hp] at d;cases d
    |some g=>rw [hp] at d;simp only [Z8,X0] at d;exact .inl ⟨k,g,A,hp,d.symm,C⟩
   ·exact .inr (.inl ⟨A,d,C⟩)
  ·rw [Z2 (by rw [za1];omega),za1,W0] at J;cases hp:Nw[j-H.length]? with
   |none=>rw [hp] at J;cases J
   |some g=>
    rw [hp] at J;simp only [Z8,X0] at J;refine .inr (.inr ⟨j-H.length,g,by omega,?_,J.symm⟩);rw [Z2 (by omega),hP,M9];exact hp
 have E: ∀ {k:Nat} {g:Ent T.U},L[k]?=some g->(L++Nw)[k]?=some g:=fun p=>by
  rw [X8 (X2.1 p).1];exact p
 refine ⟨B,⟨?_,?_,h.chg.step D.chg hTc,fun b s=>⟨?_,(D.own b s).2⟩,fun b s q1 q2=>D.ex b (h.ex b s q1 q2) (fun O=>(hTc b O).elim q1 fun O=>by omega) (h.own b (h.ex b s q1 q2)).2,?_,fun k r p=>?_,?_,?_,?_⟩,fun a v hv hi=>hv.ren T fun i _=>Q i⟩
 ·intro i a l;obtain ⟨v,h1,h2⟩:=h.fr i a l;exact ⟨v,h1,(h2.chg T D.chg hTS hS1).phiS fun j C=>hold j ((h.ids i a l).1 j C)⟩
 ·intro i a l;obtain ⟨h1,h2⟩:=h.ids i a l;refine ⟨fun j C=>by have:=h1 j C;simp only [X9,za1] at this⊢;omega,?_⟩;cases a with
  |eptr y sz k c=>
   have hy:=h1 y (by simp [AV.ids]);intro e t xs hx;rcases get y _ hx with ⟨k',g,A,d,W,_⟩|⟨_,d,_⟩|⟨m,_,A,_⟩
   ·cases g with
    |row e1 t1 ys=>
     simp only [Ent.ren,Ent.row.injEq] at W;obtain ⟨rfl,rfl,W⟩:=W;have:=eq_of_heq W;subst this;obtain ⟨zs,g4⟩:=hty k' y _ _ _ A d;obtain ⟨q4,q5⟩:=h2 _ _ _ g4;obtain ⟨_,_,_,n1,_⟩:=h.ents y _ g4;obtain ⟨_,_,_,n2,_⟩:=D.ents k' _ (E d);rw [(hpin k' y A).2.1] at n2;exact ⟨by omega,q5⟩
    |blk _ _=>cases W
    |drow _ _ _ _ _=>cases W
    |pmap _ _ _ _ _=>cases W
    |map _ _=>cases W
    |tmap _ _ _=>cases W
    |hid=>cases W
    |gone=>cases W
   ·exact h2 e t xs d
   ·simp only at hy;omega
  |_=>trivial
 ·rcases (D.own b s).1 with s|s
  ·exact (h.own b s).1
  ·exact .inr (W9 h.chg.size s)
 ·intro j f J o a l;rcases get j f J with ⟨k,g,A,d,rfl,C⟩|⟨R,d,C⟩|⟨m,g,rfl,d,rfl⟩
  ·rw [M k j A] at l;have V:g.live=true:=by rw [Ent.ren_live] at o;exact o
   refine ⟨(D.lives _ g (E d) V a l).1,?_⟩;rcases (D.lives _ g (E d) V a l).2 with O|O
   ·exact hTc _ O
   ·exact .inr (W9 h.chg.size O)
  ·rw [G j R C] at l;have q:=h.lives j f d o a l;refine ⟨D.ex _ q.1 (fun s=>?_) (h.own _ q.1).2,q.2⟩;obtain ⟨k,i,a',p,ha',hbe⟩:=N _ s;obtain ⟨e,he,I⟩:=X i (X6 p);exact h.apart j i f e d he o I (fun e=>R (e▸X6 p)) a a' l ha' hbe.symm
  ·rw [z] at l;have V:g.live=true:=by rw [Ent.ren_live] at o;exact o
   refine ⟨(D.lives _ g d V a l).1,?_⟩;rcases (D.lives _ g d V a l).2 with O|O
   ·exact hTc _ O
   ·exact .inr (W9 h.chg.size O)
 ·obtain ⟨A,d⟩:=h.pins k r p;simp only at d;exact ⟨(hold k d).trans A,by simp only [X9,za1];omega⟩
 ·intro j f J;rcases get j f J with ⟨k,g,A,d,rfl,C⟩|⟨C,d,hjl⟩|⟨m,g,rfl,d,rfl⟩
  ·exact (D.ents k g (E d)).ren (M k j A) fun x _=>Q x
  ·have hnot:f.live=true-> ∀a,At (φ j) a->a.block∉zc9 K ids.length:=fun o a l s=>by
    obtain ⟨k,i,a',p,ha',hbe⟩:=N _ s;obtain ⟨e,he,I⟩:=X i (X6 p);exact h.apart j i f e d he o I (fun e=>C (e▸X6 p)) a a' l ha' hbe.symm
   have h1:=(h.ents j f d).chg T D.chg hTS hS1 fun o a l=>⟨hnot o a l,D.ex _ (zi7 h d o l) (hnot o a l) (h.own _ (zi7 h d o l)).2⟩;exact h1.phiE (G j C hjl) fun x hx=>hold x (h.eids j f d x hx)
  ·exact (D.ents _ g d).ren (z m) fun x _=>Q x
 ·intro j f J x hx;rcases get j f J with ⟨k,g,A,d,rfl,C⟩|⟨C,d,hjl⟩|⟨m,g,rfl,d,rfl⟩
  ·rw [Ent.ren_cellIds] at hx;obtain ⟨y,hy,rfl⟩:=U0.1 hx;exact hσlt y (by have:=D.eids k g (E d) y hy;simp only [X9] at this;exact this)
  ·have:=h.eids j f d x hx;simp only [X9,za1] at this⊢;omega
  ·rw [Ent.ren_cellIds] at hx;obtain ⟨y,hy,rfl⟩:=U0.1 hx;exact hσlt y (by have:=D.eids _ g d y hy;simp only [X9] at this;exact this)
 ·
  have cross: ∀(j:Nat) (f:Ent T.U),j∉ids->H[j]?=some f->f.live=true-> ∀(m:Nat) (g:Ent T.U),(L++Nw)[m]?=some g->g.live=true-> ∀a b,At (φ j) a->At (u m) b->a.block≠b.block:=by
   intro j f R d o m g O V a b l s;rcases (D.lives _ g O V b s).2 with hb'|hb'
   ·obtain ⟨k,i,a',p,ha',hbe⟩:=N _ hb';obtain ⟨e,he,I⟩:=X i (X6 p);rw [<-hbe];exact h.apart j i f e d he o I (fun e=>R (e▸X6 p)) a a' l ha'
   ·have:=(h.own _ (zi7 h d o l)).2;omega
  have side: ∀(j:Nat) (f:Ent T.U),(zf3 T H ids (L.map (Ent.ren σ))++Nw.map (Ent.ren σ))[j]?=some f->f.live=true->
    (∃(k:Nat) (g:Ent T.U),(L++Nw)[k]?=some g/\g.live=true/\B j=u k/\j=σ k)\/(j∉ids/\H[j]?=some f/\B j=φ j):=by
   intro j f J o;rcases get j f J with ⟨k,g,A,d,rfl,C⟩|⟨R,d,C⟩|⟨m,g,rfl,d,rfl⟩
   ·refine .inl ⟨k,g,E d,by rw [Ent.ren_live] at o;exact o,M k j A,?_⟩;have hs:=σJ_lo (n:=H.length) (X2.1 A).1;rw [Y,A] at hs;exact X5 hs
   ·exact .inr ⟨R,d,G j R C⟩
   ·refine .inl ⟨ids.length+m,g,d,by rw [Ent.ren_live] at o;exact o,z m,?_⟩;rw [<-Y,σJ_hi (by omega)];omega
  intro i j f f' J hf' o I hij a b l s;rcases side i f J o with ⟨k,g,A,d,W,g4⟩|⟨g0,A,W⟩<;>rcases side j f' hf' I with ⟨k',f0',k1,k2,k3,k4⟩|⟨k0,k1,k3⟩<;>rw [W] at l<;>rw [k3] at s
  ·exact D.apart k k' g f0' A k1 d k2 (fun e=>hij (by rw [g4,k4,e])) a b l s
  ·exact (cross j f' k0 k1 I k g A d b a s l).symm
  ·exact cross i f g0 A o k' f0' k1 k2 a b l s
  ·exact h.apart i j f f' A k1 o I hij a b l s
end
end Go.X
namespace Go.X
open Go.RowKit Go.V
structure GSpec (T:Tab) where
 ps:List Sh
 post:List PE
 rs:List Sh
 g:ze2 T ps->Option (zn7 T post×ze2 T rs)
section
variable (T:Tab) (P:Program)
def zd0:Src->List Nat
 | []=> []
 |some i::r=>i::zd0 r
 |none::r=>zd0 r
def yl7 (H:List (Ent T.U)):List Nat->List PE->Bool
 | [],ps=>match ps with| []=>true|_::_=>false
 |i::r,ps=>match ps with
  | []=>false
  |p::q=>(match p with| .row e t=>(qe6 T H e t i).isSome|_=>true)&&yl7 H r q
def GOk (f:FuncId) (b:GSpec T):Prop:= ∀x y,b.g x=some y-> ∀(w:World) (S:List Nat) (φ:Nat->RA),Sim T w ⟨zc9 φ (zb0 b.ps),S,(List.range (zb0 b.ps)).map φ⟩ ⟨[],zh8 T id b.ps x 0⟩ [] w S φ->
 ∀vs:List Value,VRL T w S φ (zc3 T id b.ps x 0) vs->(∀a∈zc3 T id b.ps x 0,okA (zh8 T id b.ps x 0) a)->
 Calls P f vs.toArray w fun e w'=>match e with
  | .returned v=> ∃(F1:PF) (S1:List Nat) (c:Nat->RA) (us:List Value),Sim T w ⟨zc9 φ (zb0 b.ps),S,(List.range (zb0 b.ps)).map φ⟩ ⟨[],mkP T id b.post y.1 b.post.length++(yc4 T id b.post y.1 b.post.length++zh8 T id b.rs y.2 (b.post.length+zh2 b.post))⟩ F1 w' S1 c/\
    VRL T w' S1 c (zc3 T id b.rs y.2 (b.post.length+zh2 b.post)) us/\v=zw3 us/\ ∀i∈v8 (zc3 T id b.rs y.2 (b.post.length+zh2 b.post)),i<b.post.length+(zh2 b.post+zb0 b.rs)
  |_=>False
def GSpec.toCall {T:Tab} (a:GSpec T) (b:CallSpec T):CallSpec T where
 call:=fun aS H K c=>match zq5 T H a.ps aS [] with
  |some (x,l)=>match ze6 (zd0 l)&&yl7 T H (zd0 l) a.post with
   |true=>j7 (a.g x) fun y=>K (zl4 T (zc3 T (σJ (zd0 l) H.length) a.rs y.2 (a.post.length+zh2 a.post))) (zf3 T H (zd0 l) (mkP T (σJ (zd0 l) H.length) a.post y.1 a.post.length)++(yc4 T (σJ (zd0 l) H.length) a.post y.1 a.post.length++zh8 T (σJ (zd0 l) H.length) a.rs y.2 (a.post.length+zh2 a.post)))
   |false=>none
  |none=>b.call aS H K c
 q:=b.q
 isq:=b.isq
 wr:=fun aS H=>match zq5 T H a.ps aS [] with|some (_,l)=>zd0 l|none=>b.wr aS H
def zc0:CallSpec T where
 call:=fun _ _ _ _=>none
 q:=fun _ _ _=>none
 isq:=false
 wr:=fun _ _=> []
def vx3:List (Nat×TypeId×Ty×Bool)->List (AV T.U)->List (Ent T.U)->List (AV T.U)×List (Ent T.U)
 | [],aS,H=>(aS,H)
 |(j,e,t,b)::r,aS,H=>match aS[j]? with
  |some (.raw (.slice none 0 0))=>vx3 r (aS.set j (match b with|true=>.own H.length|false=>.sl H.length (szT T t) 0 0)) (H++ [.row e t []])
  |_=>vx3 r aS H
def vx2:List Nat->List (AV T.U)->List (Ent T.U)->List (AV T.U)
 | [],aS,_=>aS
 |j::r,aS,H=>match aS[j]? with
  |some (.own i)=>match H[i]? with
   |some (.row _ t xs)=>vx2 r (aS.set j (.sl i (szT T t) 0 xs.length)) H
   |_=>vx2 r aS H
  |_=>vx2 r aS H
structure Nl where
 rs:List (Nat×TypeId×Ty×Bool)
 ow:List Nat
 bn:List (Nat×Nat×TypeId×Ty)
 z:List (Nat×Ty)
 w:List Nat
def gj9 (a:List PE) (rs:List Sh) (aS:List (AV T.U)) (H:List (Ent T.U)):Option (zn7 T a×ze2 T rs):=
 match rdP T H a 0 (zn6 a 0) with
 |some (y,l)=>match zq5 T H rs aS l with
  |some (z,l')=>match zl8 l' with|true=>some (y,z)|false=>none
  |none=>none
 |none=>none
def zw1 (fn:Func) (nl:Nl) (a:List PE) (rs:List Sh) (b:St T):Option (zn7 T a×ze2 T rs):=
 match jo3 T P b fn.results.toList with
 |some c=>match vx4 T a.length nl.w c b.H with
  |some (d,H1)=>
   let p:=vx3 T nl.rs d (ze8 T nl.bn H1)
   gb7 T nl.z (vx2 T nl.ow p.1 p.2) p.2 (gj9 T a rs)
  |none=>none
 |none=>none
def jb9 (fn:Func) (nl:Nl) (a:List PE) (rs:List Sh):Ks T (zn7 T a×ze2 T rs):=⟨zw1 T P fn nl a rs,fun _ _=>none,zw1 T P fn nl a rs,fun _ _=>none⟩
noncomputable def un2 (C:Ctx T) (b:List (Pos×Cut)) (fn:Func) (c:Code) (nl:Nl) (ps:List Sh) (a:List PE) (rs:List Sh) (m:Nat) (x:ze2 T ps):Option (zn7 T a×ze2 T rs):=
 evC P C fn.ntmps b (run P C fn.ntmps b c (jb9 T P fn nl a rs) m) c [] (jb9 T P fn nl a rs) ⟨zv6 T (zc3 T id ps x 0) 0,zh8 T id ps x 0⟩
noncomputable def uo2 (C:Ctx T) (b:List (Pos×Cut)) (fn:Func) (c:Code) (nl:Nl) (a:List PE) (rs:List Sh) (m:Nat) (q:Pos) (st:St T):Option (zn7 T a×ze2 T rs):=
 run P C fn.ntmps b c (jb9 T P fn nl a rs) m q st
end
section
variable {T:Tab} {P:Program} {w w':World} {S S':List Nat} {φ φ':Nat->RA} {w0:World} {S0:Ow} {F:AF T} {H:List (Ent T.U)} {F':PF}
def ya6: ∀l:List Nat,zd0 (l.map some)=l
 | []=>rfl
 |i::r=>by rw [W8,zd0,ya6 r]
mutual
def vg4 (c): ∀(s x k),(mkE T c s x k).length=s.cnt
 | .row e t,x,k=>rfl
 | .slr e t,x,k=>rfl
 | .ptr o e cs,x,k=>(congrArg (· +1) (zc8 c cs x (k+1))).trans (J1 _ _)
 | .slb sz n e cs,x,k=>(congrArg (· +1) (zc8 c cs x (k+1))).trans (J1 _ _)
 | .fn f a b,x,k=>by show (zh8 T c a x.1 k++zh8 T c b x.2 (k+zb0 a)).length=zb0 a+zb0 b;rw [X9,zc8 c a,zc8 c b]
 | .agg cs,x,k=>zc8 c cs x k
 | .ifc t s,x,k=>vg4 c s x k
 | .val _,x,k=>rfl
 | .at_ _ _,x,k=>rfl
 | .own _,x,k=>rfl
 | .part _ _,x,k=>rfl
 | .nils,x,k=>rfl
 | .nilp,x,k=>rfl
 | .lit _ _,x,k=>rfl
 | .arr _ _,x,k=>rfl
 | .lp _ _,x,k=>rfl
 | .asp _ _ _ _,x,k=>rfl
 | .asn e cs o sz n,x,k=>(congrArg (· +1) (zc8 c cs x.1 (k+1))).trans (J1 _ _)
 | .ap _ _ _ _ _,x,k=>rfl
 | .mp g d cs,x,k=>(congrArg (· +1) (zc8 c cs x (k+1))).trans (J1 _ _)
 | .mpo _,x,k=>rfl
 | .rw _,x,k=>rfl
 | .lpk _ _ _,x,k=>rfl
 | .tm _ _,x,k=>rfl
 | .dr _ _ _,x,k=>rfl
 | .pm _ _ _,x,k=>rfl
 | .gm,x,k=>rfl
 | .gmo _,x,k=>rfl
def zc8 (a): ∀(l x k),(zh8 T a l x k).length=zb0 l
 | [],x,k=>rfl
 |s::r,x,k=>by show (mkE T a s x.1 k++zh8 T a r x.2 (k+s.cnt)).length=s.cnt+zb0 r;rw [X9,vg4 a s,zc8 a r]
end
def zq3 (a): ∀(ps x k),(mkP T a ps x k).length=ps.length
 | [],x,k=>rfl
 |p::r,x,k=>by show (mkP T a r x.2 (k+p.cnt)).length+1=r.length+1;rw [zq3 a r]
def zv0 (a): ∀(ps x k),(yc4 T a ps x k).length=zh2 ps
 | [],x,k=>rfl
 |p::r,x,k=>by
  show (vu2 T a p x.1 k++yc4 T a r x.2 (k+p.cnt)).length=p.cnt+zh2 r;rw [X9,zv0 a r];cases p with
  |gone=>rfl
  |gm=>rfl
  |row e t=>rfl
  |tmap k t=>rfl
  |dr e d fe=>rfl
  |pm k c d=>rfl
  |blk e cs=>exact congrArg (· +zh2 r) (zc8 a cs x.1 k)
  |map f b cs=>exact congrArg (· +zh2 r) (zc8 a cs x.1 k)
mutual
def vg3 (c): ∀(s x k),(mkA T id s x k).ren c=mkA T c s x k
 | .val t,x,k=>qq4 t x c
 | .row e t,x,k=>rfl
 | .slr e t,x,k=>rfl
 | .ptr o e cs,x,k=>rfl
 | .slb sz n e cs,x,k=>rfl
 | .fn f a b,x,k=>by
  show AV.fn (.func f) (zi5 c (zc3 T id a x.1 k)) (zi5 c (zc3 T id b x.2 (k+zb0 a)))=.fn (.func f) (zc3 T c a x.1 k) (zc3 T c b x.2 (k+zb0 a));rw [zg0 c a,zg0 c b]
 | .agg cs,x,k=>congrArg AV.agg (zg0 c cs x k)
 | .ifc t s,x,k=>congrArg (AV.ifc t) (vg3 c s x k)
 | .at_ _ _,x,k=>rfl
 | .own _,x,k=>rfl
 | .part _ _,x,k=>rfl
 | .nils,x,k=>rfl
 | .nilp,x,k=>rfl
 | .lit _ _,x,k=>rfl
 | .arr _ _,x,k=>rfl
 | .lp _ _,x,k=>rfl
 | .asp _ _ _ _,x,k=>rfl
 | .asn _ _ _ _ _,x,k=>rfl
 | .ap _ _ _ _ _,x,k=>rfl
 | .mp _ _ _,x,k=>rfl
 | .mpo _,x,k=>rfl
 | .rw _,x,k=>rfl
 | .lpk _ _ _,x,k=>rfl
 | .tm _ _,x,k=>rfl
 | .dr _ _ _,x,k=>rfl
 | .pm _ _ _,x,k=>rfl
 | .gm,x,k=>rfl
 | .gmo _,x,k=>rfl
def zg0 (a): ∀(l x k),zi5 a (zc3 T id l x k)=zc3 T a l x k
 | [],x,k=>rfl
 |s::r,x,k=>by
  show (mkA T id s x.1 k).ren a::zi5 a (zc3 T id r x.2 (k+s.cnt))=mkA T a s x.1 k::zc3 T a r x.2 (k+s.cnt);rw [vg3 a s,zg0 a r]
end
def yk0 {α:Type} {a b:α} {l m:List α} (h:a=b) (c:l=m):a::l=b::m:=by rw [h,c]
def kh3 {α:Type} {a b l m:List α} (h:a=b) (c:l=m):a++l=b++m:=by rw [h,c]
mutual
def vg5 (c): ∀(s x k),(mkE T id s x k).map (Ent.ren c)=mkE T c s x k
 | .row e t,x,k=>rfl
 | .slr e t,x,k=>rfl
 | .ptr o e cs,x,k=>yk0 (congrArg (Ent.blk e) (zg0 c cs x (k+1))) (zi8 c cs x (k+1))
 | .slb sz n e cs,x,k=>yk0 (congrArg (Ent.blk e) (zg0 c cs x (k+1))) (zi8 c cs x (k+1))
 | .fn f a b,x,k=>by
  show (zh8 T id a x.1 k++zh8 T id b x.2 (k+zb0 a)).map (Ent.ren c)=zh8 T c a x.1 k++zh8 T c b x.2 (k+zb0 a);rw [V6,zi8 c a,zi8 c b]
 | .agg cs,x,k=>zi8 c cs x k
 | .ifc t s,x,k=>vg5 c s x k
 | .val _,x,k=>rfl
 | .at_ _ _,x,k=>rfl
 | .own _,x,k=>rfl
 | .part _ _,x,k=>rfl
 | .nils,x,k=>rfl
 | .nilp,x,k=>rfl
 | .lit _ _,x,k=>rfl
 | .arr _ _,x,k=>rfl
 | .lp _ _,x,k=>rfl
 | .asp _ _ _ _,x,k=>rfl
 | .asn e cs _ _ _,x,k=>yk0 (congrArg (Ent.blk e) (zg0 c cs x.1 (k+1))) (zi8 c cs x.1 (k+1))
 | .ap _ _ _ _ _,x,k=>rfl
 | .mp g d cs,x,k=>yk0 (congrArg (Ent.map g) ((yh0 c d _).trans (congrArg (yd3 d) (zg0 c cs x (k+1))))) (zi8 c cs x (k+1))
 | .mpo _,x,k=>rfl
 | .rw _,x,k=>rfl
 | .lpk _ _ _,x,k=>rfl
 | .tm _ _,x,k=>rfl
 | .dr _ _ _,x,k=>rfl
 | .pm _ _ _,x,k=>rfl
 | .gm,x,k=>rfl
 | .gmo _,x,k=>rfl
def zi8 (a): ∀(l x k),(zh8 T id l x k).map (Ent.ren a)=zh8 T a l x k
 | [],x,k=>rfl
 |s::r,x,k=>by
  show (mkE T id s x.1 k++zh8 T id r x.2 (k+s.cnt)).map (Ent.ren a)=mkE T a s x.1 k++zh8 T a r x.2 (k+s.cnt);rw [V6,vg5 a s,zi8 a r]
end
def jf8 (a): ∀(ps x k),(mkP T id ps x k).map (Ent.ren a)=mkP T a ps x k
 | [],x,k=>rfl
 |p::r,x,k=>by
  show (vx6 T id p x.1 k).ren a::(mkP T id r x.2 (k+p.cnt)).map (Ent.ren a)=vx6 T a p x.1 k::mkP T a r x.2 (k+p.cnt);rw [jf8 a r];cases p with
  |gone=>rfl
  |gm=>rfl
  |row e t=>rfl
  |tmap k t=>rfl
  |dr e d fe=>rfl
  |pm k f d=>rfl
  |blk e cs=>exact yk0 (congrArg (Ent.blk e) (zg0 a cs x.1 k)) rfl
  |map c b cs=>exact yk0 (congrArg (Ent.map c) ((yh0 a b _).trans (congrArg (yd3 b) (zg0 a cs x.1 k)))) rfl
def yr8 (a): ∀(ps x k),(yc4 T id ps x k).map (Ent.ren a)=yc4 T a ps x k
 | [],x,k=>rfl
 |p::r,x,k=>by
  show (vu2 T id p x.1 k++yc4 T id r x.2 (k+p.cnt)).map (Ent.ren a)=vu2 T a p x.1 k++yc4 T a r x.2 (k+p.cnt);rw [V6,yr8 a r];cases p with
  |gone=>rfl
  |gm=>rfl
  |row e t=>rfl
  |tmap k t=>rfl
  |dr e d fe=>rfl
  |pm k c d=>rfl
  |blk e cs=>exact kh3 (zi8 a cs x.1 k) rfl
  |map f b cs=>exact kh3 (zi8 a cs x.1 k) rfl
def kc6 (a:Nat->Nat) (s:Sh) (x:s.den T) (k:Nat):zk7 (mkA T a s x k)=true:=by
 cases s with
 |val t=>exact yo4 t x
 |_=>rfl
def zp1 (b): ∀(l x k),∀a∈zc3 T b l x k,zk7 a=true
 | [],x,k,a,h=>by cases h
 |s::r,x,k,a,h=>by
  have h:a∈mkA T b s x.1 k::zc3 T b r x.2 (k+s.cnt):=h;rcases Z0.1 h with rfl|h
  ·exact kc6 b s x.1 k
  ·exact zp1 b r x.2 _ a h
def zk3 {ρ:Nat->Nat} {n:Nat} {aS:List (AV T.U)} (h: ∀i∈v8 aS,ρ i<n): ∀i∈v8 (zi5 ρ aS),i<n:=by
 intro i a;rw [zq6] at a;obtain ⟨j,b,rfl⟩:=U0.1 a;exact h j b
def zn3 {ids}: ∀ {a},yl7 T H ids a=true->ids.length=a.length/\ ∀(k i:Nat) (e:TypeId) (t:Ty),ids[k]?=some i->a[k]?=some (.row e t)-> ∃xs,H[i]?=some (.row e t xs):=by
 induction ids with
 |nil=>
  intro a h;cases a with
  |nil=>exact ⟨rfl,fun k i e t h=>by simp at h⟩
  |cons _ _=>cases h
 |cons j r d=>
  intro a h;cases a with
  |nil=>cases h
  |cons p q=>
   unfold yl7 at h;simp only [X3] at h;obtain ⟨f,g⟩:=d h.2;refine ⟨by simp [f],fun k i e t b c=>?_⟩;cases k with
   |zero=>
    simp at b c;subst b;subst c;obtain ⟨xs,l⟩:=N8.1 h.1;exact ⟨xs,yc9 l⟩
   |succ k=>exact g k i e t (by simpa using b) (by simpa using c)
def yd8 {a:Nat->Nat}: ∀ {ps:List PE} {x:zn7 T ps} {k j:Nat} {e:TypeId} {t:Ty} {ys:List (den T.U t)},(mkP T a ps x k)[j]?=some (.row e t ys)->ps[j]?=some (.row e t)
 | [],x,k,j,e,t,ys,h=>by simp [mkP] at h
 |p::r,x,k,j,e,t,ys,h=>by
  have h:(vx6 T a p x.1 k::mkP T a r x.2 (k+p.cnt))[j]?=some (.row e t ys):=h;cases j with
  |succ j=>simp only [List.getElem?_cons_succ] at h⊢;exact yd8 h
  |zero=>
   simp only [Y4,X0] at h⊢;cases p with
   |gone=>cases h
   |gm=>cases h
   |row b c=>
    simp only [vx6,Ent.row.injEq] at h;obtain ⟨rfl,rfl,_⟩:=h;rfl
   |blk _ _=>cases h
   |map _ _ _=>cases h
   |tmap _ _=>cases h
   |dr _ _ _=>cases h
   |pm _ _ _=>cases h
def yz6 {f:FuncId} {sp:GSpec T} {alt:CallSpec T} (hok:GOk T P f sp) (ha:w9 T P f alt):w9 T P f (sp.toCall alt):=by
 intro R aS H K Kp r hr w0 S0 F F' w S φ h vs hvs has;simp only [GSpec.toCall] at hr;split at hr
 ·rename_i x l hx;split at hr
  ·rename_i hb;simp only [X3] at hb;obtain ⟨hn,hro⟩:=hb;obtain ⟨y,hy,hK⟩:=za8 hr;obtain ⟨new,g1,g2,g3⟩:=zd8 sp.ps aS [] l x hx;have hl:l=new.map some:=by rw [g1.eq];rfl
   have hids:zd0 l=new:=by rw [hl,ya6]
   rw [hids] at hn hro hK;have hno:zl8 l=true:=by
    rw [hl];clear hK hro hids hx g1 g2 g3 hl;induction new with
    |nil=>rfl
    |cons i r ih=>
     rw [ze6,X3,V8] at hn;rw [W8,zl8,ih hn.2,Bool.and_true,V8];cases hm:ql1 i (r.map some) with
     |false=>rfl
     |true=>
      have:=ya8.1 hm;obtain ⟨j,hj,e⟩:=U0.1 this;simp only [X0] at e;subst e;rw [zb9.2 hj] at hn;exact absurd hn.1 (by simp)
   obtain ⟨q1,q2⟩:=g3 _ (yc7 hno);obtain ⟨hlen,hrow⟩:=zn3 hro;have hnewlen:new.length=zb0 sp.ps:=g2;obtain ⟨c0,x0,p0⟩:=S0;have hs:=(h.unpin.src (l:=l) hno (fun k hk=>by simp at hk) (fun i e hi he j hj=>by
    rw [hl] at hi;obtain ⟨i',hi',e'⟩:=U0.1 hi;simp only [X0] at e';subst e';obtain ⟨e0,h1,_,h3⟩:=g1.ents i' hi';rw [he] at h1;simp only [X0] at h1;subst h1;exact h3 j hj))
   rw [show zi3 T H (fun i=>yn3 i l) l=zd9 T H (fun i=>yn3 i l) new by rw [hl,zs7]] at hs;have hs:=(hs.imp q2).start;rw [zc8,<-hnewlen] at hs;have hφc: ∀k i,new[k]?=some i->φO l φ k=φ i:=fun k i hk=>φO_at (by rw [hl,W0,hk];rfl);have hvs':VRL T w S (φO l φ) (zc3 T id sp.ps x 0) vs:=q1.vrl (VRL.ren T (fun i hi=>φO_idx (g1.ids i hi)) hvs);have hoks: ∀a∈zc3 T id sp.ps x 0,okA (zh8 T id sp.ps x 0) a:=fun a ha=>zd7 (zp1 id _ _ _ a ha) fun i hi=>by
    have hi:=zh7 ha i hi;rw [show v8 (zc3 T id sp.ps x 0)=_ from q1.ids] at hi;rw [zc8,<-hnewlen];refine zk3 (fun j hj=>?_) i hi;have:=(X2.1 (zl3 (g1.ids j hj))).1;rw [hl,V0] at this;rw [hl];exact this
   refine (hok x y hy w S (φO l φ) (by rw [<-hnewlen];exact hs) vs hvs' hoks).mono fun e w' hR=>?_;cases e with
   |returned v=>
    obtain ⟨F1,S1,φ1,us,k1,k2,rfl,k3⟩:=hR;rw [<-hnewlen] at k1;obtain ⟨φ2,m1,m2⟩:=h.join hn (fun i hi=>by obtain ⟨e,a,b,_⟩:=g1.ents i hi;exact ⟨e,a,b⟩) hφc k1 (by rw [zq3,hlen]) (fun k i e t ys hk hp=>hrow k i e t hk (yd8 hp));rw [jf8,V6,yr8,zi8] at m1;have hv2:VRL T w' S1 φ2 (zc3 T (σJ new H.length) sp.rs y.2 (sp.post.length+zh2 sp.post)) us:=by
     rw [<-zg0];rw [zq3,X9,zv0,zc8] at m2;generalize zc3 T id sp.rs y.2 (sp.post.length+zh2 sp.post)=rs at k2 k3;clear hK m1 k1;induction rs generalizing us with
     |nil=>cases us<;>exact k2
     |cons a r ih=>
      match us,k2 with
      |u::us,k2=>
       rw [zi5];exact ⟨m2 a u k2.1 fun i hi=>k3 i (by rw [v8];exact X4.2 (.inl hi)),ih _ k2.2 fun i hi=>k3 i (by rw [v8];exact X4.2 (.inr hi))⟩
    refine ⟨_,_,hK,S1,φ2,m1,yb1 hv2,?_⟩;have hlt: ∀i∈v8 (zc3 T (σJ new H.length) sp.rs y.2 (sp.post.length+zh2 sp.post)),i<(zf3 T H new (mkP T (σJ new H.length) sp.post y.1 sp.post.length)++(yc4 T (σJ new H.length) sp.post y.1 sp.post.length++zh8 T (σJ new H.length) sp.rs y.2 (sp.post.length+zh2 sp.post))).length:=by
     rw [<-zg0];refine zk3 fun j hj=>?_;have hj:=k3 j hj;rw [X9,X9,za1,zv0,zc8];by_cases hlt:j<new.length
     ·have hs:=σJ_lo (n:=H.length) hlt;obtain ⟨e,h1,_,_⟩:=g1.ents _ (X6 hs);have:=(X2.1 h1).1;omega
     ·rw [σJ_hi (by omega)];omega
    have hne:zk7 (zl4 T (zc3 T (σJ new H.length) sp.rs y.2 (sp.post.length+zh2 sp.post)))=true:=by
     unfold zl4;split
     ·rename_i a hl;exact zp1 (σJ new H.length) sp.rs y.2 _ a (by rw [hl];simp)
     ·rfl
    refine zd7 hne fun i hi=>hlt i ?_;unfold zl4 at hi;split at hi
    ·rename_i a hl;rw [hl,v8];exact X4.2 (.inl hi)
    ·rw [AV.ids] at hi;exact hi
   |panicked ch=>exact hR.elim
   |outgrown=>exact hR.elim
  ·cases hr
 ·exact ha aS H K Kp r hr w0 S0 F F' w S φ h vs hvs has
def wa9 {c:GSpec T} {b} (D:zp3 b):zp3 (c.toCall b):=by
 intro R aS H K E r d;simp only [GSpec.toCall] at d;split at d
 ·rename_i x l g;split at d
  ·rename_i o;obtain ⟨y,G,I⟩:=za8 d;simp only [X3] at o;obtain ⟨i,j⟩:=zn3 o.2;refine .inl ⟨_,_,I,?_,fun A m=>by simp only [GSpec.toCall,g,o.1,o.2,M0,G,j7]⟩;have p:(GSpec.toCall c b).wr aS H=zd0 l:=by simp only [GSpec.toCall,g]
   rw [p];have B:(mkP T (σJ (zd0 l) H.length) c.post y.1 c.post.length).length=(zd0 l).length:=by rw [zq3,i]
   refine ⟨by rw [X9,za1];omega,fun e q J=>?_,fun e ty t ys q h=>?_⟩
   ·rw [X8 (by rw [za1];exact q)];obtain ⟨f,C⟩: ∃f,(zf3 T H (zd0 l) (mkP T (σJ (zd0 l) H.length) c.post y.1 c.post.length))[e]?=some f:=⟨_,Y0 (by rw [za1];exact q)⟩;rcases ze1 _ _ H B C with ⟨k,s,_⟩|⟨_,n⟩
    ·exact absurd (X6 s) J
    ·rw [C,n]
   ·rw [X8 (by rw [za1];exact q)] at h;rcases ze1 _ _ H B h with ⟨k,s,n⟩|⟨_,n⟩
    ·exact j k e ty t s (yd8 n)
    ·exact ⟨ys,n⟩
  ·cases d
 ·rename_i g;have p:(GSpec.toCall c b).wr aS H=b.wr aS H:=by simp only [GSpec.toCall,g]
  rcases D aS H K E r d with ⟨a,H1,u,v,z⟩|⟨a,H1,u,v,z⟩
  ·exact .inl ⟨a,H1,u,by rw [p];exact v,fun A m=>by simp only [GSpec.toCall,g,z]⟩
  ·exact .inr ⟨a,H1,u,by rw [p];exact v,fun A m=>by simp only [GSpec.toCall,g,z]⟩
def ym6 {w0 S0 F F' w S}: ∀(l) {aS us H φ},Sim T w0 S0 ⟨F,H⟩ F' w S φ->(∀i∈v8 aS,i<H.length)->VRL T w S φ aS us->
  ∃φ',Sim T w0 S0 ⟨F,(vx3 T l aS H).2⟩ F' w S φ'/\VRL T w S φ' (vx3 T l aS H).1 us
 | [],aS,us,H,φ,h,m,f=>⟨φ,h,f⟩
 |(j,e,t,b)::r,aS,us,H,φ,h,m,f=>by
  unfold vx3;split
  ·rename_i q;obtain ⟨v,s,g⟩:=f.get T q;rw [VR] at g;subst g;have u:=h.addNil e t;have n:VRL T w S (setR φ H.length ⟨none,0,0,[]⟩) aS us:=f.phi fun i o=>zf0 (by have:=m i o;omega);have k:VR T w S (setR φ H.length ⟨none,0,0,[]⟩) (match b with|true=>AV.own H.length|false=>.sl H.length (szT T t) 0 0) (.slice none 0 0):=by
    cases b with
    |true=>rw [VR,w6]
    |false=>rw [VR,w6];exact ⟨none,rfl,W6 _,.inl rfl,fun _=>⟨rfl,rfl⟩,fun _=>rfl⟩
   have p:=n.set T j k;rw [show us.set j (.slice none 0 0)=us by
    obtain ⟨x,y⟩:=X2.1 s;rw [<-y,M1]] at p
   refine ym6 r u (fun i o=>?_) p;obtain ⟨a,c,d⟩:=zq1 o;rcases K3 c with c|c
   ·have:=m i (zh7 c i d);simp;omega
   ·subst c;cases b<;>simp [AV.ids] at d<;>subst d<;>simp
  ·exact ym6 r h m f
def yc1 {w0 S0 F F' w S H φ} (h:Sim T w0 S0 ⟨F,H⟩ F' w S φ): ∀(l) {aS us},VRL T w S φ aS us->VRL T w S φ (vx2 T l aS H) us
 | [],aS,us,a=>a
 |j::r,aS,us,a=>by
  unfold vx2;split
  ·rename_i i p;split
   ·rename_i e t xs q;refine yc1 h r ?_;obtain ⟨v,s,b⟩:=a.get T p;obtain ⟨B,m,g,o,z,A,C⟩:=h.ents i _ q;rw [VR] at b;subst b;rw [o] at g;have d:VR T w S φ (.sl i (szT T t) 0 xs.length) (.slice (φ i).ad (φ i).n (φ i).cap):=by
     refine ⟨(φ i).ad,?_,?_,?_,fun k=>g.nil0 k,fun _=>rfl⟩
     ·show Value.slice (φ i).ad (φ i).n (φ i).cap=Value.slice (φ i).ad xs.length ((φ i).cap-0);rw [o];rfl
     ·show 0+xs.length<=(φ i).cap;rw [W7];exact g.le.1
     rcases g.cases with ⟨_,k,_⟩|⟨c,f,_⟩
     ·exact .inl k
     ·refine .inr ⟨_,f,f.trans ?_⟩;show some (⟨_,0,none⟩:Addr)=some ⟨_,0+0*_,none⟩;rw [K7]
    have u:=a.set T j d;rwa [show us.set j (.slice (φ i).ad (φ i).n (φ i).cap)=us by
     obtain ⟨x,y⟩:=X2.1 s;rw [<-y,M1]] at u
   ·exact yc1 h r a
  ·exact yc1 h r a
end
end Go.X
namespace Go.X
open Go.RowKit Go.V
section
variable {T:Tab} {P:Program} {w w':World} {S S':List Nat} {φ φ':Nat->RA} {w0:World} {S0:Ow} {F:AF T} {H:List (Ent T.U)} {F':PF}
def qo5 {H}: ∀(ps j l l' x),rdP T H ps j l=some (x,l')->
  ∃B,l'=l++B.map some/\B.length=zh2 ps/\(∀i∈B,∃e,H[i]?=some e/\e.live=true/\ ∀j∈e.cellIds,some j∈l')/\(∀i,some i∈zn6 ps j-> ∃e,H[i]?=some e/\ ∀j∈e.cellIds,some j∈l')/\
   ∀ρ,Places ρ l'->ImpH T (zi3 T H ρ (zn6 ps j)) (mkP T id ps x l.length)/\ImpH T (zd9 T H ρ B) (yc4 T id ps x l.length)
 | [],j,l,l',x,h=>by
  simp only [rdP,X0,X7] at h;obtain ⟨_,rfl⟩:=h;exact ⟨[],by simp,rfl,(by intro i f;cases f),(by intro i f;cases f),fun ρ g=>⟨.nil,.nil⟩⟩
 |p::r,j,l,l',x,h=>by
  unfold rdP at h;split at h<;>try (cases h;done)
  rename_i y M m;obtain ⟨z,X,rfl⟩:=zo5 h;obtain ⟨E,v,G,I,J,K⟩:=qo5 r (j+1) M l' z X;have u: ∀i,some i∈M->some i∈l':=fun i f=>by rw [v];exact X4.2 (.inl f)
  cases p with
  |gone=>
   simp only [qv8,X0,X7] at m;obtain ⟨_,rfl⟩:=m;refine ⟨E,v,by rw [G];show _=0+zh2 r;omega,I,fun i f=>?_,fun ρ g=>?_⟩
   ·have f:some i∈none::zn6 r (j+1):=f;exact J i (by simpa using f)
   ·obtain ⟨o,q⟩:=K ρ g;exact ⟨.cons (.same _) o,q⟩
  |row e t=>
   simp only [qv8] at m;split at m<;>try (cases m;done)
   rename_i xs n;simp only [X0,X7] at m;obtain ⟨rfl,rfl⟩:=m;have n:=yc9 n;refine ⟨E,v,by rw [G];show _=0+zh2 r;omega,I,fun i f=>?_,fun ρ g=>?_⟩
   ·have f:some i∈some j::zn6 r (j+1):=f;rcases Z0.1 f with f|f
    ·simp only [X0] at f;subst f;exact ⟨_,n,by intro j s;cases s⟩
    ·exact J i f
   ·obtain ⟨o,q⟩:=K ρ g;refine ⟨?_,q⟩;show ImpH T ((match H[j]? with|some e=>e.ren ρ|none=>.gone)::zi3 T H ρ (zn6 r (j+1))) _;rw [n];exact .cons (.same _) o
  |tmap W t=>
   simp only [qv8] at m;split at m<;>try (cases m;done)
   rename_i xs n;simp only [X0,X7] at m;obtain ⟨rfl,rfl⟩:=m;have n:=jw8 n;refine ⟨E,v,by rw [G];show _=0+zh2 r;omega,I,fun i f=>?_,fun ρ g=>?_⟩
   ·have f:some i∈some j::zn6 r (j+1):=f;rcases Z0.1 f with f|f
    ·simp only [X0] at f;subst f;exact ⟨_,n,by intro j s;cases s⟩
    ·exact J i f
   ·obtain ⟨o,q⟩:=K ρ g;refine ⟨?_,q⟩;show ImpH T ((match H[j]? with|some e=>e.ren ρ|none=>.gone)::zi3 T H ρ (zn6 r (j+1))) _;rw [n];exact .cons (.same _) o
  |gm=>
   simp only [qv8] at m;split at m<;>try (cases m;done)
   rename_i n;simp only [X0,X7] at m;obtain ⟨rfl,rfl⟩:=m;have n:=je8 n;refine ⟨E,v,by rw [G];show _=0+zh2 r;omega,I,fun i f=>?_,fun ρ g=>?_⟩
   ·have f:some i∈some j::zn6 r (j+1):=f;rcases Z0.1 f with f|f
    ·simp only [X0] at f;subst f;exact ⟨_,n,by intro j s;cases s⟩
    ·exact J i f
   ·obtain ⟨o,q⟩:=K ρ g;refine ⟨?_,q⟩;show ImpH T ((match H[j]? with|some e=>e.ren ρ|none=>.gone)::zi3 T H ρ (zn6 r (j+1))) _;rw [n];exact .cons (.same _) o
  |dr e d fe=>
   simp only [qv8] at m;split at m<;>try (cases m;done)
   rename_i xs n;simp only [X0,X7] at m;obtain ⟨rfl,rfl⟩:=m;have n:=jr4 n;refine ⟨E,v,by rw [G];show _=0+zh2 r;omega,I,fun i f=>?_,fun ρ g=>?_⟩
   ·have f:some i∈some j::zn6 r (j+1):=f;rcases Z0.1 f with f|f
    ·simp only [X0] at f;subst f;exact ⟨_,n,by intro j s;cases s⟩
    ·exact J i f
   ·obtain ⟨o,q⟩:=K ρ g;refine ⟨?_,q⟩;show ImpH T ((match H[j]? with|some e=>e.ren ρ|none=>.gone)::zi3 T H ρ (zn6 r (j+1))) _;rw [n];exact .cons (.same _) o
  |pm k Y d=>
   simp only [qv8] at m;split at m<;>try (cases m;done)
   rename_i xs n;simp only [X0,X7] at m;obtain ⟨rfl,rfl⟩:=m;have n:=jt4 n;refine ⟨E,v,by rw [G];show _=0+zh2 r;omega,I,fun i f=>?_,fun ρ g=>?_⟩
   ·have f:some i∈some j::zn6 r (j+1):=f;rcases Z0.1 f with f|f
    ·simp only [X0] at f;subst f;exact ⟨_,n,by intro j s;cases s⟩
    ·exact J i f
   ·obtain ⟨o,q⟩:=K ρ g;refine ⟨?_,q⟩;show ImpH T ((match H[j]? with|some e=>e.ren ρ|none=>.gone)::zi3 T H ρ (zn6 r (j+1))) _;rw [n];exact .cons (.same _) o
  |blk e cs=>
   simp only [qv8] at m;split at m<;>try (cases m;done)
   rename_i aS C;have C:=zt4 C;obtain ⟨O,D,N,Q⟩:=zd8 cs aS l M y m;have A:M.length=l.length+zb0 cs:=by rw [D.eq,X9,V0,N]
   refine ⟨O++E,by rw [v,D.eq,V6,Q2],by rw [X9,N,G];rfl,fun i f=>?_,fun i f=>?_,fun ρ g=>?_⟩
   ·rcases X4.1 f with f|f
    ·obtain ⟨e,a,b,c⟩:=D.ents i f;exact ⟨e,a,b,fun j s=>u j (c j s)⟩
    ·exact I i f
   ·have f:some i∈some j::zn6 r (j+1):=f;rcases Z0.1 f with f|f
    ·simp only [X0] at f;subst f;exact ⟨_,C,fun j s=>u j (D.ids j s)⟩
    ·exact J i f
   ·obtain ⟨o,q⟩:=K ρ g;obtain ⟨R,V⟩:=Q ρ (by rw [v] at g;exact g.pre);rw [A] at o q;refine ⟨?_,by rw [zo3];exact V.app q⟩;show ImpH T ((match H[j]? with|some e=>e.ren ρ|none=>.gone)::zi3 T H ρ (zn6 r (j+1))) _;rw [C];exact .cons (.blk R) o
  |map W L cs=>
   simp only [qv8] at m;split at m<;>try (cases m;done)
   rename_i aS C;have C:=jf5 C;obtain ⟨O,D,N,Q⟩:=zd8 cs aS l M y m;have A:M.length=l.length+zb0 cs:=by rw [D.eq,X9,V0,N]
   refine ⟨O++E,by rw [v,D.eq,V6,Q2],by rw [X9,N,G];rfl,fun i f=>?_,fun i f=>?_,fun ρ g=>?_⟩
   ·rcases X4.1 f with f|f
    ·obtain ⟨e,a,b,c⟩:=D.ents i f;exact ⟨e,a,b,fun j s=>u j (c j s)⟩
    ·exact I i f
   ·have f:some i∈some j::zn6 r (j+1):=f;rcases Z0.1 f with f|f
    ·simp only [X0] at f;subst f;exact ⟨_,C,fun j s=>u j (D.ids j (jl0 L aS j s))⟩
    ·exact J i f
   ·obtain ⟨o,q⟩:=K ρ g;obtain ⟨R,V⟩:=Q ρ (by rw [v] at g;exact g.pre);rw [A] at o q;refine ⟨?_,by rw [zo3];exact V.app q⟩;show ImpH T ((match H[j]? with|some e=>e.ren ρ|none=>.gone)::zi3 T H ρ (zn6 r (j+1))) _;rw [C];refine .cons ?_ o;show ImpE T (.map W (jz9 ρ (yd3 L aS))) _;rw [yh0];exact .map R
def zk9: ∀(ps j),(zn6 ps j).length=ps.length
 | [],j=>rfl
 | .gone::r,j=>by simp [zn6,zk9 r]
 | .row _ _::r,j=>by simp [zn6,zk9 r]
 | .tmap _ _::r,j=>by simp [zn6,zk9 r]
 | .dr _ _ _::r,j=>by simp [zn6,zk9 r]
 | .pm _ _ _::r,j=>by simp [zn6,zk9 r]
 | .gm::r,j=>by simp [zn6,zk9 r]
 | .blk _ _::r,j=>by simp [zn6,zk9 r]
 | .map _ _ _::r,j=>by simp [zn6,zk9 r]
def vj8: ∀(ps j k),k<ps.length->(zn6 ps j)[k]?=some (some (j+k))\/(zn6 ps j)[k]?=some none
 | [],j,k,h=>by simp at h
 |p::r,j,0,h=>by cases p<;>simp [zn6]
 |p::r,j,k+1,h=>by
  have:=vj8 r (j+1) k (by simpa using h);rw [show j+1+k=j+(k+1) by omega] at this;cases p<;>simpa [zn6] using this
def zg1 {w0 S0 F F' w S}: ∀(l) {aS us H φ},Sim T w0 S0 ⟨F,H⟩ F' w S φ->VRL T w S φ aS us->(∀i∈v8 aS,i<H.length)->
  ∃φ',Sim T w0 S0 ⟨F,ze8 T l H⟩ F' w S φ'/\VRL T w S φ' aS us/\ ∀i∈v8 aS,i<(ze8 T l H).length
 | [],aS,us,H,φ,h,d,f=>⟨φ,h,d,f⟩
 |(i,c,e,t)::r,aS,us,H,φ,h,d,a=>by
  unfold ze8;split
  ·obtain ⟨z,s,u,A⟩:=h.closeL (List.range H.length);exact zg1 r s (d.phiS fun i _=>u i) fun i m=>by rw [A];exact a i m
  split
  ·rename_i e0 cs f;split
   ·rename_i x;have s:=h.addNilE e t;have n:=(X2.1 f).1;obtain ⟨g,B,C,D,E,G⟩:=s.ents i _ (by rw [X8 n];exact f);have u:=s.upd (i:=i) (e0:=.blk e0 cs) (e:=.blk e0 (cs.set c (.own H.length))) (Tc:= []) (w':=w) (by rw [X8 n];exact f) rfl (Chg.refl [] w) (by simp)
     ⟨g,B,C,D,E,BR.swap (b:=.own H.length) rfl rfl (fun v d=>by rw [VR] at d;subst d;rw [VR,w6]) G x⟩
     (by
      intro j y;rw [Ent.cellIds] at y;obtain ⟨b,p,o⟩:=zq1 y;rcases K3 p with p|p
      ·have:=h.eids i _ f j (by rw [Ent.cellIds];exact zh7 p j o);simp at this⊢;omega
      ·subst p;simp [AV.ids] at o;subst o;simp) (by intro _ _ _ h;cases h)
    have q:(H++ [zt0 T e t]).set i (.blk e0 (cs.set c (.own H.length)))=H.set i (.blk e0 (cs.set c (.own H.length)))++ [zt0 T e t]:=by
     rw [List.set_append_left _ _ n]
    rw [q] at u;exact zg1 r u (d.phi fun i m=>zf0 (by have:=a i m;omega)) fun i m=>by have:=a i m;simp;omega
   ·rename_i k x;split
    ·split
     ·rename_i J K xs I;exact zg1 r (h.cellSl f x I) d fun i m=>by have:=a i m;simpa using this
     ·exact zg1 r h d a
    ·exact zg1 r h d a
   ·exact zg1 r h d a
  ·exact zg1 r h d a
end
section
variable (T:Tab)
def jd5 (a:List PE) (rs:List Sh) (y:zn7 T a) (z:ze2 T rs) (w:World) (S:List Nat) (φ:Nat->RA) (b:Nat) (w':World) (us:List Value):Prop:=
 ∃(F1:PF) (S1:List Nat) (c:Nat->RA),Sim T w ⟨zc9 φ b,S,(List.range b).map φ⟩ ⟨[],mkP T id a y a.length++(yc4 T id a y a.length++zh8 T id rs z (a.length+zh2 a))⟩ F1 w' S1 c/\
  VRL T w' S1 c (zc3 T id rs z (a.length+zh2 a)) us/\ ∀i∈v8 (zc3 T id rs z (a.length+zh2 a)),i<a.length+(zh2 a+zb0 rs)
end
section
variable {T:Tab} {P:Program} {w w':World} {S S':List Nat} {φ φ':Nat->RA} {w0:World} {S0:Ow} {F:AF T} {H:List (Ent T.U)} {F':PF}
def qa3 {d a} (x:a.length=d) {rs aS st y z v l2 F1 A S1 q us}
  (R:rdP T st.H a 0 (zn6 a 0)=some (y,v)) (V:zq5 T st.H rs aS v=some (z,l2)) (J:zl8 l2=true)
  (B:Sim T w ⟨zc9 φ d,S,(List.range d).map φ⟩ st F1 A S1 q) (C:VRL T A S1 q aS us):jd5 T a rs y z w S φ d A us:=by
 obtain ⟨K,L,W,X,Y,Z⟩:=qo5 a 0 _ _ y R;obtain ⟨D,f,k2,k3⟩:=zd8 rs aS _ _ z V;have g: ∀i,some i∈v->some i∈l2:=fun i b=>by rw [f.eq];exact X4.2 (.inl b)
 have n:l2=zn6 a 0++(K.map some++D.map some):=by rw [f.eq,L,Q2]
 have r:v.length=a.length+zh2 a:=by rw [L,X9,V0,W,zk9]
 have s:=yc7 J;obtain ⟨M,N⟩:=Z (fun i=>yn3 i l2) (Places.pre (m:=D.map some) (by rw [<-f.eq];exact s));obtain ⟨E,O⟩:=k3 _ s;rw [zk9] at M N;rw [r] at E O;have Q:=B.src (l:=l2) J (fun k hk=>by
  simp at hk;rw [n,X8 (by rw [zk9];omega)];have:=vj8 a 0 k (by omega);rwa [W7] at this) (fun i e b G j t=>by
  rw [n] at b;rcases X4.1 b with b|b
  ·obtain ⟨h,c,u⟩:=Y i b;rw [G] at c;simp only [X0] at c;subst c;exact g j (u j t)
  ·rcases X4.1 b with b|b
   ·obtain ⟨I,o,h⟩:=U0.1 b;simp only [X0] at h;subst h;obtain ⟨h,c,_,u⟩:=X I o;rw [G] at c;simp only [X0] at c;subst c;exact g j (u j t)
   ·obtain ⟨I,o,h⟩:=U0.1 b;simp only [X0] at h;subst h;obtain ⟨h,c,_,u⟩:=f.ents I o;rw [G] at c;simp only [X0] at c;subst c;exact u j t)
 have p:zi3 T st.H (fun i=>yn3 i l2) l2=zi3 T st.H (fun i=>yn3 i l2) (zn6 a 0)++(zd9 T st.H (fun i=>yn3 i l2) K++zd9 T st.H (fun i=>yn3 i l2) D):=by
  conv=>lhs;arg 4;rw [n]
  rw [yh6,yh6,zs7,zs7]
 rw [p] at Q;refine ⟨[],S1,_,Q.imp (M.app (N.app O)),E.vrl (VRL.ren T (fun i b=>φO_idx (f.ids i b)) C),?_⟩;intro i b;rw [E.ids] at b;refine zk3 (fun j t=>?_) i b;have:=(X2.1 (zl3 (f.ids j t))).1;rw [f.eq,X9,V0,k2,r] at this;rw [f.eq];omega
def yg2 {f n ds fn nl d rs} (e:d.length=f) {j t} (b:zw1 T P fn nl d rs j=some t) {F1 s}
  (k:zd2 T w ⟨zc9 φ f,S,(List.range f).map φ⟩ j F1 s) {a} (G:Fr n ds F1 a): ∃v,(results fn a.tmps).run P s=.ok v s/\ ∃us,jd5 T d rs t.1 t.2 w S φ f s us/\v=zw3 us:=by
 unfold zw1 at b;split at b<;>try (cases b;done)
 rename_i I l;obtain ⟨S1,J,c⟩:=k;obtain ⟨us,u,x⟩:=yz4 c G l;split at b<;>try (cases b;done)
 rename_i y K L;obtain ⟨M,m,A,o⟩:=yc2 (by simp [e]) nl.w L c.noF x (yr4 (P:=P) c l);obtain ⟨N,p,B,C⟩:=zg1 nl.bn m A o;obtain ⟨O,i,q⟩:=ym6 nl.rs p C B;have g:=yc1 i nl.ow q;simp only at b;generalize Q:vx3 T nl.rs y (ze8 T nl.bn K)=pr at b i g;obtain ⟨D,R⟩:=pr;simp only at g b;generalize vx2 T nl.ow D R=aS at b g;obtain ⟨U,H2,Y,h,r,E⟩:=ym7 nl.z b i g;unfold gj9 at h;split at h<;>try (cases h;done)
 rename_i Z l1 V;split at h<;>try (cases h;done)
 rename_i z l2 W;split at h<;>try (cases h;done)
 rename_i X;simp only [X0] at h;subst h;exact ⟨_,u,us,qa3 (st:=⟨[],H2⟩) e V W X r E,rfl⟩
def wc0 {C f fn c A ps rs nl b g} (V:P.follows .mixedOrders=true) (W:zc5 T P C.E)
  (X:P.funcs[f]?=some fn) (Y:fn.body=some c) (Z:Nat.ble ps.length fn.ntmps=true) (B:Nat.ble (zb0 ps) C.pin=true) (d:Nat.beq b.length (zb0 ps)=true)
  (hg: ∀x y,g x=some y-> ∃m,un2 T P C A fn c nl ps b rs m x=some y):GOk T P f ⟨ps,b,rs,g⟩:=by
 intro x y hy w S φ D vs G I;obtain ⟨N,hN⟩:=hg x y hy;have d:=X1 d;have J:(zc3 T id ps x 0).length=ps.length:=by
  have: ∀(l:List Sh) (x:ze2 T l) (k:Nat),(zc3 T id l x k).length=l.length:=by
   intro l;induction l with
   |nil=>intro x k;rfl
   |cons s r ih=>intro x k;exact congrArg (· +1) (ih x.2 _)
  exact this ps x 0
 have K:vs.length=ps.length:=by rw [<-G.len T];exact J
 have hsz:vs.length<=fn.ntmps:=by rw [K];exact Y1 Z
 have R:Fr fn.ntmps [] (yx9 vs 0) {tmps:=vs.toArray++Array.replicate (fn.ntmps-vs.toArray.size) undef,defers:= []}:=by
  refine ⟨by simp;omega,rfl,fun i v hv=>?_⟩;obtain ⟨_,t⟩:=zu5 vs 0 i v hv;simp only [J5] at t;have hi:=(X2.1 t).1;refine ⟨?_,by omega⟩;rw [Y7,Array.getElem?_append_left (by simpa using hi)];simp [t]
 have q:=D.slots G I;have j:((List.range (zb0 ps)).map φ).length<=C.pin:=by simpa using Y1 B
 have L: ∀st,zw1 T P fn nl b rs st=some y-> ∀F1 p,zd2 T w ⟨zc9 φ (zb0 ps),S,(List.range (zb0 ps)).map φ⟩ st F1 p-> ∀a,Fr fn.ntmps [] F1 a-> ∃v,(results fn a.tmps).run P p=.ok v p/\
   ∃(F1:PF) (S1:List Nat) (n:Nat->RA) (us:List Value),Sim T w ⟨zc9 φ (zb0 ps),S,(List.range (zb0 ps)).map φ⟩ ⟨[],mkP T id b y.1 b.length++(yc4 T id b y.1 b.length++zh8 T id rs y.2 (b.length+zh2 b))⟩ F1 p S1 n/\
    VRL T p S1 n (zc3 T id rs y.2 (b.length+zh2 b)) us/\v=zw3 us/\ ∀i∈v8 (zc3 T id rs y.2 (b.length+zh2 b)),i<b.length+(zh2 b+zb0 rs):=by
  intro st0 o F1 p M a u;obtain ⟨v,O,us,⟨F2,S2,U,k1,k2,k3⟩,h3⟩:=yg2 d o M u;exact ⟨v,O,F2,S2,U,us,k1,k2,h3,k3⟩
 have Q:KsOk (bodyPost P fn fun e w'=>match e with
   | .returned v=> ∃(F1:PF) (S1:List Nat) (n:Nat->RA) (us:List Value),Sim T w ⟨zc9 φ (zb0 ps),S,(List.range (zb0 ps)).map φ⟩ ⟨[],mkP T id b y.1 b.length++(yc4 T id b y.1 b.length++zh8 T id rs y.2 (b.length+zh2 b))⟩ F1 w' S1 n/\
    VRL T w' S1 n (zc3 T id rs y.2 (b.length+zh2 b)) us/\v=zw3 us/\ ∀i∈v8 (zc3 T id rs y.2 (b.length+zh2 b)),i<b.length+(zh2 b+zb0 rs)
   |_=>False) fn.ntmps [] w ⟨zc9 φ (zb0 ps),S,(List.range (zb0 ps)).map φ⟩ y (jb9 T P fn nl b rs):=by
  refine ⟨?_,fun i st h=>(by cases h),?_,fun a st h=>(by cases h)⟩
  ·intro st o F1 p z a u;obtain ⟨v,O,t⟩:=L st o F1 p z a u;exact ⟨u.defers,v,O,t⟩
  ·intro st o F1 p z a u;obtain ⟨v,O,t⟩:=L st o F1 p z a u;exact ⟨u.defers,v,O,t⟩
 exact calls_of_wp X Y (zf2 V j W c [] _ _ _ _ w hN Q (JOk.run V j W Q N) ⟨S,φ,q⟩ _ R)
def q9 (f):w9 T P f (zc0 T)/\zh3 T P f (zc0 T)/\zp3 (zc0 T):=
 ⟨fun _ _ _ _ _ h=>(by cases h),fun _ _ _ _ h=>(by cases h),fun _ _ _ _ _ h=>(by cases h)⟩
def zo9 {f a} (h:vd1 T P f a):w9 T P f a.toCall/\zh3 T P f a.toCall/\zp3 a.toCall:=⟨jx9 h,vr7 h,gb2 a⟩
def q8 {f b a} (h:GOk T P f b) (c:w9 T P f a/\zh3 T P f a/\zp3 a):w9 T P f (b.toCall a)/\zh3 T P f (b.toCall a)/\zp3 (b.toCall a):=⟨yz6 h c.1,c.2.1,wa9 c.2.2⟩
def jl6 {f cs E} (h:w9 T P f cs/\zh3 T P f cs/\zp3 cs) (c:zc5 T P E):zc5 T P ((f,cs)::E):=by
 intro g b a;unfold qb1 at a;split at a
 ·rename_i d;have:=X1 d;subst this;simp only [X0] at a;subst a;exact h
 ·exact c g b a
end
end Go.X
