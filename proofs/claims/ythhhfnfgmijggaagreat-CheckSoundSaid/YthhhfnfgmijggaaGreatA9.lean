import Derived.Test.YthhhfnfgmijggaaGreatA8
set_option linter.defProp false
namespace Go.X
open Go.RowKit Go.V
inductive Sh where
 |val (t:Ty)
 |row (e:TypeId) (t:Ty)
 |slr (e:TypeId) (t:Ty)
 |ptr (o:Nat) (e:TypeId) (cs:List Sh)
 |slb (sz n:Nat) (e:TypeId) (cs:List Sh)
 |at_ (i o:Nat)
 |own (i:Nat)
 |part (i sz:Nat)
 |fn (f:FuncId) (a b:List Sh)
 |agg (cs:List Sh)
 |ifc (t:TypeId) (s:Sh)
 |nils
 |nilp
 |arr (t:Ty) (n:Nat)
 |lp (e:Ty) (o:Nat)
 |asp (i o sz n:Nat)
 |asn (e:TypeId) (cs:List Sh) (o sz n:Nat)
 |ap (i o sz n c:Nat)
 |mp (k:IntKind) (g:List Int) (cs:List Sh)
 |mpo (i:Nat)
 |rw (n:Nat)
 |lpk (e:Ty) (k o:Nat)
 |tm (k:IntKind) (t:Ty)
 |dr (e:TypeId) (d:Nat) (fe:List TypeId)
section
variable (T:Tab)
mutual
def Sh.den:Sh->Type
 | .val t=>den T.U t
 | .row _ t=>List (den T.U t)
 | .slr _ t=>List (den T.U t)×Nat×Nat
 | .ptr _ _ cs=>zd9 cs
 | .slb _ _ _ cs=>zd9 cs
 | .at_ _ _=>Unit
 | .own _=>Unit
 | .part _ _=>Nat×Nat
 | .fn _ a b=>zd9 a×zd9 b
 | .agg cs=>zd9 cs
 | .ifc _ s=>s.den
 | .nils=>Unit
 | .nilp=>Unit
 | .arr t _=>List (den T.U t)
 | .lp e _=>List (den T.U e)×Nat
 | .asp _ _ _ _=>Nat×Nat
 | .asn _ cs _ _ _=>zd9 cs×Nat×Nat
 | .ap _ _ _ _ _=>Nat
 | .mp _ _ cs=>zd9 cs
 | .mpo _=>Unit
 | .rw _=>Unit
 | .lpk e _ _=>List (den T.U e)
 | .tm _ t=>List (Int×den T.U t)
 | .dr _ d _=>List (T.U d)
def zd9:List Sh->Type
 | []=>Unit
 |s::r=>s.den×zd9 r
end
mutual
def Sh.cnt:Sh->Nat
 | .row _ _=>1
 | .slr _ _=>1
 | .ptr _ _ cs=>1+za2 cs
 | .slb _ _ _ cs=>1+za2 cs
 | .fn _ a b=>za2 a+za2 b
 | .agg cs=>za2 cs
 | .ifc _ s=>s.cnt
 | .asn _ cs _ _ _=>1+za2 cs
 | .mp _ _ cs=>1+za2 cs
 | .tm _ _=>1
 | .dr _ _ _=>1
 |_=>0
def za2:List Sh->Nat
 | []=>0
 |s::r=>s.cnt+za2 r
end
def rawV:Nat->Value
 |0=>.nilFunc
 |1=>.nilIface
 |2=>.map none
 |_=>.pointer none
def yk0 {U:Nat->Type}:List Int->List (AV U)->List (Int×AV U)
 |x::r,a::s=>(x,a)::yk0 r s
 |_,_=> []
mutual
def mkA (d:Nat->Nat):(s:Sh)->s.den T->Nat->AV T.U
 | .val t,x,_=>zq2 T t x
 | .row _ _,_,k=>.own (d k)
 | .slr _ t,x,k=>.sl (d k) (szT T t) x.2.1 x.2.2
 | .ptr o _ _,_,k=>.ptr (d k) o
 | .slb sz n _ _,_,k=>.sl (d k) sz 0 n
 | .at_ i o,_,_=>.ptr (d i) o
 | .own i,_,_=>.own (d i)
 | .part i sz,x,_=>.sl (d i) sz x.1 x.2
 | .fn f a b,x,k=>.fn (.func f) (zc0 d a x.1 k) (zc0 d b x.2 (k+za2 a))
 | .agg cs,x,k=>.agg (zc0 d cs x k)
 | .ifc t s,x,k=>.ifc t (mkA d s x k)
 | .nils,_,_=>.raw (.slice none 0 0)
 | .nilp,_,_=>.raw (.pointer none)
 | .arr t n,x,_=>.arr t n x
 | .lp e o,x,_=>.lptr e x.1 x.2 o
 | .asp i o sz n,x,_=>.asl (d i) o sz n x.1 x.2
 | .asn _ _ o sz n,x,k=>.asl (d k) o sz n x.2.1 x.2.2
 | .ap i o sz n c,x,_=>.aptr (d i) o sz n x c
 | .mp _ _ _,_,k=>.mp (d k)
 | .mpo i,_,_=>.mp (d i)
 | .rw n,_,_=>.raw (rawV n)
 | .lpk e k o,x,_=>.lptr e x k o
 | .tm _ _,_,k=>.mp (d k)
 | .dr _ _ _,_,k=>.own (d k)
def zc0 (a:Nat->Nat):(l:List Sh)->zd9 T l->Nat->List (AV T.U)
 | [],_,_=> []
 |s::r,x,k=>mkA a s x.1 k::zc0 a r x.2 (k+s.cnt)
end
mutual
def mkE (c:Nat->Nat):(s:Sh)->s.den T->Nat->List (Ent T.U)
 | .row e t,x,_=> [.row e t x]
 | .slr e t,x,_=> [.row e t x.1]
 | .ptr _ e cs,x,k=>.blk e (zc0 T c cs x (k+1))::zg6 c cs x (k+1)
 | .slb _ _ e cs,x,k=>.blk e (zc0 T c cs x (k+1))::zg6 c cs x (k+1)
 | .fn _ a b,x,k=>zg6 c a x.1 k++zg6 c b x.2 (k+za2 a)
 | .agg cs,x,k=>zg6 c cs x k
 | .ifc _ s,x,k=>mkE c s x k
 | .val _,_,_=> []
 | .at_ _ _,_,_=> []
 | .own _,_,_=> []
 | .part _ _,_,_=> []
 | .nils,_,_=> []
 | .nilp,_,_=> []
 | .arr _ _,_,_=> []
 | .lp _ _,_,_=> []
 | .asp _ _ _ _,_,_=> []
 | .asn e cs _ _ _,x,k=>.blk e (zc0 T c cs x.1 (k+1))::zg6 c cs x.1 (k+1)
 | .ap _ _ _ _ _,_,_=> []
 | .mp g f cs,x,k=>.map g (yk0 f (zc0 T c cs x (k+1)))::zg6 c cs x (k+1)
 | .mpo _,_,_=> []
 | .rw _,_,_=> []
 | .lpk _ _ _,_,_=> []
 | .tm g t,x,_=> [.tmap g t x]
 | .dr e d fe,x,_=> [.drow e d fe x none]
def zg6 (a:Nat->Nat):(l:List Sh)->zd9 T l->Nat->List (Ent T.U)
 | [],_,_=> []
 |s::r,x,k=>mkE a s x.1 k++zg6 a r x.2 (k+s.cnt)
end
abbrev Src:=List (Option Nat)
def qr4 (H:List (Ent T.U)) (e:TypeId) (t:Ty) (i:Nat):Option (List (den T.U t)):=
 match H[i]? with
 |some (.row a b xs)=>match Nat.beq a e with|true=>(if h:b=t then some (h▸xs) else none)|false=>none
 |_=>none
def qm6 (H:List (Ent T.U)) (e:TypeId) (i:Nat):Option (List (AV T.U)):=
 match H[i]? with
 |some (.blk a cs)=>match Nat.beq a e with|true=>some cs|false=>none
 |_=>none
def yt6 (l:Src) (p i:Nat):Bool:=match l[p]? with|some (some j)=>Nat.beq j i|_=>false
def qo4 {α a b:Type} (f:α->a):Option (α×b)->Option (a×b)
 |some (x,l)=>some (f x,l)
 |none=>none
def wi7 {U:Nat->Type}:AV U->Option Nat| .own i=>some i|_=>none
def slI {U:Nat->Type}:AV U->Option (Nat×Nat×Nat×Nat)| .sl i sz o n=>some (i,sz,o,n)|_=>none
def ws6 {U:Nat->Type}:AV U->Option (Nat×Nat)| .ptr i o=>some (i,o)|_=>none
def fnI {U:Nat->Type}:AV U->Option (FuncId×List (AV U)×List (AV U))| .fn (.func f) a b=>some (f,a,b)|_=>none
def aggI {U:Nat->Type}:AV U->Option (List (AV U))| .agg cs=>some cs|_=>none
def ifcI {U:Nat->Type}:AV U->Option (TypeId×AV U)| .ifc t a=>some (t,a)|_=>none
def gw9 {U:Nat->Type}:AV U->Bool| .raw (.slice none 0 0)=>true|_=>false
def gw1 {U:Nat->Type} (t:Ty) (n:Nat):AV U->Option (List (den U t))
 | .arr a b xs=>match Nat.beq b n with|true=>(if h:a=t then some (h▸xs) else none)|false=>none
 |_=>none
def lpI {U:Nat->Type} (e:Ty) (o:Nat):AV U->Option (List (den U e)×Nat)
 | .lptr a xs k o'=>match Nat.beq o' o with|true=>(if h:a=e then some (h▸xs,k) else none)|false=>none
 |_=>none
def wp1 {U:Nat->Type}:AV U->Option (Nat×Nat×Nat×Nat×Nat×Nat)| .asl i o sz n a m=>some (i,o,sz,n,a,m)|_=>none
def gv8 {U:Nat->Type}:AV U->Option (Nat×Nat×Nat×Nat×Nat×Nat)| .aptr i o sz n k c=>some (i,o,sz,n,k,c)|_=>none
def mpI {U:Nat->Type}:AV U->Option Nat| .mp i=>some i|_=>none
def rawI {U:Nat->Type} (n:Nat):AV U->Bool
 | .raw .nilFunc=>Nat.beq n 0
 | .raw .nilIface=>Nat.beq n 1
 | .raw (.map none)=>Nat.beq n 2
 |_=>false
def qn5 {U:Nat->Type}:List Int->List (Int×AV U)->Bool
 | [],[]=>true
 |x::r,(y,_)::s=>match wg0 x y with|true=>qn5 r s|false=>false
 |_,_=>false
def km9 (H:List (Ent T.U)) (k:IntKind) (a:List Int) (i:Nat):Option (List (AV T.U)):=
 match H[i]? with
 |some (.map b es)=>match zi7 b k&&qn5 a es with|true=>some (es.map Prod.snd)|false=>none
 |_=>none
def uf1 (H:List (Ent T.U)) (k:IntKind) (t:Ty) (i:Nat):Option (List (Int×den T.U t)):=
 match H[i]? with
 |some (.tmap a b xs)=>match zi7 a k with|true=>(if h:b=t then some (h▸xs) else none)|false=>none
 |_=>none
def wp7 (H:List (Ent T.U)) (e:TypeId) (d:Nat) (fe:List TypeId) (i:Nat):Option (List (T.U d)):=
 match H[i]? with
 |some (.drow b c a xs none)=>match Nat.beq b e with|true=>(if h:c=d then (if a=fe then some (h▸xs) else none) else none)|false=>none
 |_=>none
def gw8 {U:Nat->Type}:AV U->Bool| .raw (.pointer none)=>true|_=>false
mutual
def rdS (H:List (Ent T.U)):(s:Sh)->AV T.U->Src->Option (s.den T×Src)
 | .val t,a,l=>match jx4 T t a with|some x=>some (x,l)|none=>none
 | .row e t,a,l=>match wi7 a with
  |some i=>(match qr4 T H e t i with|some xs=>some (xs,l++ [some i])|none=>none)
  |none=>none
 | .slr e t,a,l=>match slI a with
  |some (i,sz,o,n)=>(match qr4 T H e t i with|some xs=>(match Nat.beq sz (szT T t) with|true=>some ((xs,o,n),l++ [some i])|false=>none)|none=>none)
  |none=>none
 | .ptr o e cs,a,l=>match ws6 a with
  |some (i,o')=>(match qm6 T H e i with|some as=>(match Nat.beq o' o with|true=>zm8 H cs as (l++ [some i])|false=>none)|none=>none)
  |none=>none
 | .slb sz n e cs,a,l=>match slI a with
  |some (i,g,o,h)=>(match qm6 T H e i with|some as=>(match Nat.beq g sz&&(Nat.beq h n&&Nat.beq o 0) with|true=>zm8 H cs as (l++ [some i])|false=>none)|none=>none)
  |none=>none
 | .at_ p o,a,l=>match ws6 a with
  |some (i,o')=>(match Nat.beq o' o&&yt6 l p i with|true=>some ((),l)|false=>none)
  |none=>none
 | .own p,a,l=>match wi7 a with
  |some i=>(match yt6 l p i with|true=>some ((),l)|false=>none)
  |none=>none
 | .part p sz,a,l=>match slI a with
  |some (i,g,o,n)=>(match Nat.beq g sz&&yt6 l p i with|true=>some ((o,n),l)|false=>none)
  |none=>none
 | .fn f a b,c,l=>match fnI c with
  |some (u,as,v)=>(match zm8 H a as l with
   |some (x,w)=>(match Nat.beq u f with|true=>qo4 (fun y=>(x,y)) (zm8 H b v w)|false=>none)
   |none=>none)
  |none=>none
 | .agg cs,a,l=>match aggI a with|some as=>zm8 H cs as l|none=>none
 | .ifc t s,a,l=>match ifcI a with
  |some (z,b)=>(match Nat.beq z t with|true=>rdS H s b l|false=>none)
  |none=>none
 | .nils,a,l=>match gw9 a with|true=>some ((),l)|false=>none
 | .nilp,a,l=>match gw8 a with|true=>some ((),l)|false=>none
 | .arr t n,a,l=>match gw1 t n a with|some xs=>some (xs,l)|none=>none
 | .lp e o,a,l=>match lpI e o a with|some x=>some (x,l)|none=>none
 | .asp p o sz n,a,l=>match wp1 a with
  |some (i,o',g,h,q,m)=>(match yt6 l p i&&(Nat.beq o' o&&(Nat.beq g sz&&Nat.beq h n)) with|true=>some ((q,m),l)|false=>none)
  |none=>none
 | .asn e cs o sz n,a,l=>match wp1 a with
  |some (i,o',g,h,q,m)=>(match qm6 T H e i with|some as=>(match Nat.beq o' o&&(Nat.beq g sz&&Nat.beq h n) with|true=>qo4 (fun x=>(x,q,m)) (zm8 H cs as (l++ [some i]))|false=>none)|none=>none)
  |none=>none
 | .ap p o sz n c,a,l=>match gv8 a with
  |some (i,o',g,h,k,c')=>(match yt6 l p i&&(Nat.beq o' o&&(Nat.beq g sz&&(Nat.beq h n&&Nat.beq c' c))) with|true=>some (k,l)|false=>none)
  |none=>none
 | .mp r j cs,a,l=>match mpI a with
  |some i=>(match km9 T H r j i with|some as=>zm8 H cs as (l++ [some i])|none=>none)
  |none=>none
 | .mpo p,a,l=>match mpI a with
  |some i=>(match yt6 l p i with|true=>some ((),l)|false=>none)
  |none=>none
 | .rw n,a,l=>match rawI n a with|true=>some ((),l)|false=>none
 | .lpk e k o,a,l=>match lpI e o a with|some x=>(match Nat.beq x.2 k with|true=>some (x.1,l)|false=>none)|none=>none
 | .tm r t,a,l=>match mpI a with
  |some i=>(match uf1 T H r t i with|some xs=>some (xs,l++ [some i])|none=>none)
  |none=>none
 | .dr e d fe,a,l=>match wi7 a with
  |some i=>(match wp7 T H e d fe i with|some xs=>some (xs,l++ [some i])|none=>none)
  |none=>none
def zm8 (H:List (Ent T.U)):(b:List Sh)->List (AV T.U)->Src->Option (zd9 T b×Src)
 | [],as,l=>match as with| []=>some ((),l)|_::_=>none
 |s::r,as,l=>match as with
  |a::as=>(match rdS H s a l with|some (x,c)=>qo4 (fun y=>(x,y)) (zm8 H r as c)|none=>none)
  | []=>none
end
inductive PE where
 |gone
 |row (e:TypeId) (t:Ty)
 |blk (e:TypeId) (cs:List Sh)
 |map (k:IntKind) (a:List Int) (cs:List Sh)
 |tmap (k:IntKind) (t:Ty)
 |dr (e:TypeId) (d:Nat) (fe:List TypeId)
def PE.den:PE->Type
 | .gone=>Unit
 | .row _ t=>List (Go.X.den T.U t)
 | .blk _ cs=>zd9 T cs
 | .map _ _ cs=>zd9 T cs
 | .tmap _ t=>List (Int×Go.X.den T.U t)
 | .dr _ d _=>List (T.U d)
def zq1:List PE->Type
 | []=>Unit
 |p::r=>p.den T×zq1 r
def PE.cnt:PE->Nat| .blk _ cs=>za2 cs| .map _ _ cs=>za2 cs|_=>0
def zf0:List PE->Nat
 | []=>0
 |p::r=>p.cnt+zf0 r
def zv3:List PE->Nat->Src
 | [],_=> []
 | .gone::r,j=>none::zv3 r (j+1)
 |_::r,j=>some j::zv3 r (j+1)
def ks6 (c:Nat->Nat):(p:PE)->p.den T->Nat->Ent T.U
 | .gone,_,_=>.gone
 | .row e t,x,_=>.row e t x
 | .blk e cs,x,k=>.blk e (zc0 T c cs x k)
 | .map b a cs,x,k=>.map b (yk0 a (zc0 T c cs x k))
 | .tmap b t,x,_=>.tmap b t x
 | .dr e d fe,x,_=>.drow e d fe x none
def kn0 (a:Nat->Nat):(p:PE)->p.den T->Nat->List (Ent T.U)
 | .blk _ cs,x,k=>zg6 T a cs x k
 | .map _ _ cs,x,k=>zg6 T a cs x k
 | .gone,_,_=> []
 | .row _ _,_,_=> []
 | .tmap _ _,_,_=> []
 | .dr _ _ _,_,_=> []
def mkP (a:Nat->Nat):(b:List PE)->zq1 T b->Nat->List (Ent T.U)
 | [],_,_=> []
 |p::r,x,k=>ks6 T a p x.1 k::mkP a r x.2 (k+p.cnt)
def yd1 (a:Nat->Nat):(b:List PE)->zq1 T b->Nat->List (Ent T.U)
 | [],_,_=> []
 |p::r,x,k=>kn0 T a p x.1 k++yd1 a r x.2 (k+p.cnt)
def ks7 (H:List (Ent T.U)) (j:Nat):(p:PE)->Src->Option (p.den T×Src)
 | .gone,l=>some ((),l)
 | .row e t,l=>match qr4 T H e t j with|some xs=>some (xs,l)|none=>none
 | .blk e cs,l=>match qm6 T H e j with|some as=>zm8 T H cs as l|none=>none
 | .map b a cs,l=>match km9 T H b a j with|some as=>zm8 T H cs as l|none=>none
 | .tmap b t,l=>match uf1 T H b t j with|some xs=>some (xs,l)|none=>none
 | .dr e d fe,l=>match wp7 T H e d fe j with|some xs=>some (xs,l)|none=>none
def rdP (H:List (Ent T.U)):(a:List PE)->Nat->Src->Option (zq1 T a×Src)
 | [],_,l=>some ((),l)
 |p::r,j,l=>match ks7 T H j p l with|some (x,b)=>qo4 (fun y=>(x,y)) (rdP H r (j+1) b)|none=>none
def zj0 (H:List (Ent T.U)) (ρ:Nat->Nat):Src->List (Ent T.U)
 | []=> []
 |some i::r=>(match H[i]? with|some e=>e.ren ρ|none=>.gone)::zj0 H ρ r
 |none::r=>.gone::zj0 H ρ r
def yv0 (i:Nat):Src->Nat
 | []=>0
 |some j::r=>match Nat.beq j i with|true=>0|false=>yv0 i r+1
 |none::r=>yv0 i r+1
def qy2 (i:Nat):Src->Bool| []=>false|some j::r=>(match Nat.beq j i with|true=>true|false=>qy2 i r)|none::r=>qy2 i r
def zn4:Src->Bool| []=>true|some i::r=> !qy2 i r&&zn4 r|none::r=>zn4 r
end
section
variable {T:Tab}
def yh4 {i}: ∀ {l},qy2 i l=true↔some i∈l
 | []=>by simp [qy2]
 |none::r=>by simp [qy2,yh4 (l:=r)]
 |some j::r=>by
  unfold qy2;split
  ·rename_i h;have:=X1 h;subst this;simp
  ·rename_i h;rw [yh4 (l:=r)];have:j≠i:=fun e=>by subst e;simp at h
   simp [Ne.symm this]
def yj2: ∀ {l},zn4 l=true-> ∀ {a b x:Nat},l[a]?=some (some x)->l[b]?=some (some x)->a=b
 | [],_,_,_,_,h,_=>by simp at h
 |none::r,d,a,b,x,e,f=>by
  unfold zn4 at d;cases a with
  |zero=>simp at e
  |succ a=>
   cases b with
   |zero=>simp at f
   |succ b=>have:=yj2 d (a:=a) (b:=b) (by simpa using e) (by simpa using f);omega
 |some j::r,d,a,b,x,e,f=>by
  unfold zn4 at d;simp only [X3,V4] at d;have g: ∀ {c:Nat},r[c]?=some (some j)->False:=fun i=>by
   have:=yh4.2 (X6 i);rw [d.1] at this;cases this
  cases a with
  |zero=>
   simp at e;subst e;cases b with
   |zero=>rfl
   |succ b=>exact (g (by simpa using f)).elim
  |succ a=>
   cases b with
   |zero=>simp at f;subst f;exact (g (by simpa using e)).elim
   |succ b=>have:=yj2 d.2 (a:=a) (b:=b) (by simpa using e) (by simpa using f);omega
def zm5 {i}: ∀ {l},some i∈l->l[yv0 i l]?=some (some i)
 | [],h=>by cases h
 |none::r,h=>by
  have h:some i∈r:=by simpa using h
  show (none::r)[yv0 i r+1]?=_;simpa using zm5 h
 |some j::r,h=>by
  unfold yv0;split
  ·rename_i a;have:=X1 a;subst this;rfl
  ·rename_i a;rcases Z0.1 h with h|h
   ·cases h;simp at a
   ·simpa using zm5 h
def Places (ρ:Nat->Nat) (l:Src):Prop:= ∀(p i:Nat),l[p]?=some (some i)->ρ i=p
def Places.pre {ρ l m} (h:Places ρ (l++m)):Places ρ l:=fun p i a=>h p i (by
 rw [X8 (X2.1 a).1];exact a)
def yj4 {l} (h:zn4 l=true):Places (fun i=>yv0 i l) l:=fun p i a=>yj2 h (zm5 (X6 a)) a
def ya3 {H e t i xs} (h:qr4 T H e t i=some xs):H[i]?=some (.row e t xs):=by
 unfold qr4 at h;split at h
 ·rename_i d f ys a;split at h
  ·rename_i b;have:=X1 b;subst this;split at h
   ·rename_i c;subst c;have h:ys=xs:=X5 h;subst h;exact a
   ·cases h
  ·cases h
 ·cases h
def qh4 {H k t i xs} (h:uf1 T H k t i=some xs):H[i]?=some (.tmap k t xs):=by
 unfold uf1 at h;split at h
 ·rename_i d e ys a;split at h
  ·rename_i b;have:=zb8 b;subst this;split at h
   ·rename_i c;subst c;have h:ys=xs:=X5 h;subst h;exact a
   ·cases h
  ·cases h
 ·cases h
def jd2 {H e d fe i xs} (h:wp7 T H e d fe i=some xs):H[i]?=some (.drow e d fe xs none):=by
 unfold wp7 at h;split at h
 ·rename_i j k a ys b;split at h
  ·rename_i c;have:=X1 c;subst this;split at h
   ·rename_i f;subst f;split at h
    ·rename_i g;subst g;have h:ys=xs:=X5 h;subst h;exact b
    ·cases h
   ·cases h
  ·cases h
 ·cases h
def zr6 {H e i cs} (h:qm6 T H e i=some cs):H[i]?=some (.blk e cs):=by
 unfold qm6 at h;split at h
 ·rename_i d a b;split at h
  ·rename_i c;have:=X1 c;subst this;simp only [X0] at h;subst h;exact b
  ·cases h
 ·cases h
def jp2 {H k b i as} (h:km9 T H k b i=some as):H[i]?=some (.map k (yk0 b as)):=by
 unfold km9 at h;split at h
 ·rename_i j es e;split at h
  ·rename_i c;rw [X3] at c;have:=zb8 c.1;subst this;simp only [X0] at h;subst h;rw [e];have d: ∀(b:List Int) (es:List (Int×AV T.U)),qn5 b es=true->es=yk0 b (es.map Prod.snd):=by
    intro b;induction b with
    |nil=>intro es h;cases es with|nil=>rfl|cons _ _=>cases h
    |cons x r f=>
     intro es h
     match es,h with
     |(y,a)::s,h=>
      unfold qn5 at h;split at h
      ·rename_i g;have:x=y:=by simpa [wg0] using g
       subst this;rw [U3,yk0,<-f s h]
      ·cases h
   rw [<-d b es c.2]
  ·cases h
 ·cases h
def zh6 {l p i} (h:yt6 l p i=true):l[p]?=some (some i):=by
 unfold yt6 at h;split at h
 ·rename_i j a;rw [X1 h] at a;exact a
 ·cases h
def zr7 (H ρ): ∀(l m),ze9 T H ρ (l++m)=ze9 T H ρ l++ze9 T H ρ m
 | [],_=>rfl
 |i::r,m=>by
  rw [K9,ze9,ze9];split
  ·rw [zr7 H ρ r m];rfl
  ·rw [zr7 H ρ r m];rfl
def zl8 {α a b:Type} {f:α->a} {o:Option (α×b)} {y:a} {l:b} (h:qo4 f o=some (y,l)): ∃x,o=some (x,l)/\f x=y:=by
 unfold qo4 at h;split at h
 ·simp only [X0,X7] at h;obtain ⟨c,rfl⟩:=h;exact ⟨_,rfl,c⟩
 ·cases h
structure RdOk (T:Tab) (H:List (Ent T.U)) (ids:List Nat) (l l':Src) (a:List Nat):Prop where
 eq:l'=l++a.map some
 ids: ∀j∈ids,some j∈l'
 ents: ∀i∈a,∃e,H[i]?=some e/\e.live=true/\ ∀j∈e.cellIds,some j∈l'
end
end Go.X
namespace Go.X
open Go.RowKit Go.V
section
variable {T:Tab}
def RdOk.nil {H ids l} (h: ∀j∈ids,some j∈l):RdOk T H ids l l []:=⟨by simp,h,by intro i a;cases a⟩
def RdOk.one {H l i e} (b:H[i]?=some e) (c:e.live=true) (d:e.cellIds= []):RdOk T H [i] l (l++ [some i]) [i]:=
 ⟨rfl,by intro j a;simp at a;subst a;simp,by intro j a;simp at a;subst a;exact ⟨e,b,c,by rw [d];intro j a;cases a⟩⟩
def RdOk.app {H n o l k l2 p q} (m:RdOk T H n l k p) (h:RdOk T H o k l2 q):RdOk T H (n++o) l l2 (p++q):=by
 have f: ∀j,some j∈k->some j∈l2:=fun j d=>by rw [h.eq];exact X4.2 (.inl d)
 refine ⟨by rw [h.eq,m.eq,J9,Q4],?_,?_⟩
 ·intro j d;rcases X4.1 d with d|d
  ·exact f j (m.ids j d)
  ·exact h.ids j d
 ·intro i g;rcases X4.1 g with g|g
  ·obtain ⟨e,a,b,c⟩:=m.ents i g;exact ⟨e,a,b,fun j d=>f j (c j d)⟩
  ·exact h.ents i g
def RdOk.blk {H l l' i e cs b} (c:H[i]?=some (.blk e cs)) (h:RdOk T H (v5 cs) (l++ [some i]) l' b):RdOk T H [i] l l' (i::b):=by
 refine ⟨by rw [h.eq];simp,?_,?_⟩
 ·intro j a;simp at a;subst a;rw [h.eq];simp
 ·intro j a;rcases Z0.1 a with rfl|a
  ·exact ⟨_,c,rfl,h.ids⟩
  ·exact h.ents j a
def RdOk.map {H l l' i k a cs c} (d:H[i]?=some (.map k (yk0 a cs))) (e: ∀j∈idsM (yk0 a cs),j∈v5 cs) (h:RdOk T H (v5 cs) (l++ [some i]) l' c):RdOk T H [i] l l' (i::c):=by
 refine ⟨by rw [h.eq];simp,?_,?_⟩
 ·intro j b;simp at b;subst b;rw [h.eq];simp
 ·intro j b;rcases Z0.1 b with rfl|b
  ·exact ⟨_,d,rfl,fun j b=>h.ids j (e j b)⟩
  ·exact h.ents j b
def Places.last {ρ l m i} (h:Places ρ (l++ [some i]++m)):ρ i=l.length:=h l.length i (by simp)
def zj3 {H ρ i e} (b:H[i]?=some e) (r):ze9 T H ρ (i::r)=e.ren ρ::ze9 T H ρ r:=by
 rw [ze9];split
 ·rename_i d a;rw [b] at a;simp only [X0] at a;subst a;rfl
 ·rename_i c;rw [b] at c;cases c
def vd6 (t x ρ):(zq2 T t x).ren ρ=zq2 T t x:=by
 cases t with
 |user i=>
  show (AV.agg _).ren ρ=_;rw [AV.ren];show AV.agg (zk1 ρ ((T.cells i x).map .cell))=AV.agg ((T.cells i x).map .cell);congr 1;induction T.cells i x with
  |nil=>rfl
  |cons c r a=>rw [U3,zk1,a,AV.ren]
 |int k=>exact AV.ren.eq_1 ..
 |bool=>exact AV.ren.eq_1 ..
 |str=>exact AV.ren.eq_1 ..
 |list e=>exact AV.ren.eq_1 ..
def vv1 {t:Ty} {a:AV T.U} {x:den T.U t} (h:jx4 T t a=some x) (hn:a≠.raw (.slice none 0 0)):a=zq2 T t x:=by
 have one: ∀ {t:Ty} {c:Cell T.U} {x:den T.U t},(∀i,t≠.user i)->c.as t=some x->AV.cell c=zq2 T t x:=by
  intro t c x hn h;have:=Cell.as_eq h;subst this;cases t<;>first|rfl|exact absurd rfl (hn _)
 cases t with
 |user i=>
  cases a<;>simp only [jx4,reduceCtorEq] at h;rename_i cs;split at h
  ·rename_i l hl;have:=T.packed _ _ _ h;rw [zt2 hl,<-this];rfl
  ·cases h
 |list e=>
  cases a with
  |cell c=>exact one (by intro i hi;cases hi) h
  |raw u=>
   cases u with
   |slice ad n c=>
    cases ad with
    |some _=>cases h
    |none=>
     cases n with
     |succ _=>cases h
     |zero=>
      cases c with
      |succ _=>cases h
      |zero=>exact absurd rfl hn
   |_=>cases h
  |_=>cases h
 |int k=>cases a<;>first|(cases h;done)|exact one (by intro i hi;cases hi) h
 |bool=>cases a<;>first|(cases h;done)|exact one (by intro i hi;cases hi) h
 |str=>cases a<;>first|(cases h;done)|exact one (by intro i hi;cases hi) h
def Imp (T:Tab) (a b:AV T.U):Prop:=b.ids=a.ids/\(b=a\/(za7 T a=true/\za7 T b=true))/\ ∀(w:World) (S:List Nat) (φ:Nat->RA) (v:Value),VR T w S φ a v->VR T w S φ b v
inductive ImpL (T:Tab):List (AV T.U)->List (AV T.U)->Prop
 |nil:ImpL T [] []
 |cons {a b:AV T.U} {as c:List (AV T.U)}:Imp T a b->ImpL T as c->ImpL T (a::as) (b::c)
inductive ImpE (T:Tab):Ent T.U->Ent T.U->Prop
 |same (e:Ent T.U):ImpE T e e
 |blk {e:TypeId} {as b:List (AV T.U)}:ImpL T as b->ImpE T (.blk e as) (.blk e b)
 |map {k:IntKind} {a:List Int} {as b:List (AV T.U)}:ImpL T as b->ImpE T (.map k (yk0 a as)) (.map k (yk0 a b))
inductive ImpH (T:Tab):List (Ent T.U)->List (Ent T.U)->Prop
 |nil:ImpH T [] []
 |cons {e f:Ent T.U} {es a:List (Ent T.U)}:ImpE T e f->ImpH T es a->ImpH T (e::es) (f::a)
def Imp.refl (a):Imp T a a:=⟨rfl,.inl rfl,fun _ _ _ _ h=>h⟩
def Imp.of_eq {a b} (h:a=b):Imp T a b:=h▸.refl a
def ImpL.vrl {as b} (h:ImpL T as b): ∀ {w S φ vs},VRL T w S φ as vs->VRL T w S φ b vs:=by
 induction h with
 |nil=>exact fun h=>h
 |cons c _ d=>
  intro w S φ vs a
  match vs,a with
  |v::vs,a=>exact ⟨c.2.2 _ _ _ _ a.1,d a.2⟩
def ImpL.ids {as a} (h:ImpL T as a):v5 a=v5 as:=by
 induction h with
 |nil=>rfl
 |cons b _ c=>rw [v5,v5,c,b.1]
def ImpL.agg {as a} (h:ImpL T as a):Imp T (.agg as) (.agg a):=⟨by rw [AV.ids,AV.ids,h.ids],.inr ⟨rfl,rfl⟩,fun w S φ v b=>by obtain ⟨vs,c,d⟩:=b;exact ⟨vs,c,h.vrl d⟩⟩
def ImpL.fn {f as c a b} (h:ImpL T as c) (d:ImpL T a b):Imp T (.fn f as a) (.fn f c b):=⟨by rw [AV.ids,AV.ids,h.ids,d.ids],.inr ⟨rfl,rfl⟩,fun w S φ v e=>by obtain ⟨g,i,j,k,l⟩:=e;exact ⟨g,i,j,h.vrl k,d.vrl l⟩⟩
def Imp.ifc {t a b} (h:Imp T a b):Imp T (.ifc t a) (.ifc t b):=⟨by rw [AV.ids,AV.ids,h.1],.inr ⟨rfl,rfl⟩,fun w S φ v c=>by obtain ⟨u,d,e⟩:=c;exact ⟨u,d,h.2.2 _ _ _ _ e⟩⟩
def ImpL.app {as c a b} (h:ImpL T as c) (d:ImpL T a b):ImpL T (as++a) (c++b):=by
 induction h with
 |nil=>exact d
 |cons e _ f=>exact .cons e f
def Imp.exp {a b} (h:Imp T a b):ImpL T (jo2 T a) (jo2 T b)/\(qa2 T a->qa2 T b):=by
 rcases h.2.1 with rfl|⟨d,c⟩
 ·refine ⟨?_,id⟩;generalize jo2 T b=l;induction l with
  |nil=>exact .nil
  |cons a r e=>exact .cons (.refl a) e
 ·rw [zq6 T d,zq6 T c];exact ⟨.cons h .nil,fun _=>yf6 T c⟩
def ImpL.exp {as a} (h:ImpL T as a):ImpL T (zi0 T as) (zi0 T a)/\(yc1 T as->yc1 T a):=by
 induction h with
 |nil=>exact ⟨.nil,id⟩
 |cons b _ c=>exact ⟨b.exp.1.app c.1,fun d=>⟨b.exp.2 d.1,c.2 d.2⟩⟩
def ImpL.br {as a} (h:ImpL T as a) {w S φ vs} (b:BR T w S φ as vs):BR T w S φ a vs:=⟨h.exp.1.vrl b.1,h.exp.2 b.2⟩
def ImpL.mr {k as c} (h:ImpL T as c): ∀ {a w S φ l},MR T w S φ k (yk0 a as) l->MR T w S φ k (yk0 a c) l:=by
 induction h with
 |nil=>exact fun h=>h
 |cons d _ f=>
  intro a w S φ l b
  match a,l,b with
  | [],_,b=>exact b
  |_::_,[],b=>exact b
  |x::r,e::l,b=>exact ⟨b.1,d.2.2 _ _ _ _ b.2.1,f b.2.2⟩
def ImpL.idsM {as b} (h:ImpL T as b): ∀(a),idsM (yk0 a b)=idsM (yk0 a as):=by
 induction h with
 |nil=>exact fun _=>rfl
 |cons c _ d=>
  intro a;cases a with
  |nil=>rfl
  |cons x r=>rw [yk0,yk0,Go.X.idsM,Go.X.idsM,c.1,d r]
def jw2 {U}: ∀(c:List Int) (as:List (AV U)),∀i∈idsM (yk0 c as),i∈v5 as
 | [],_,i,b=>by cases b
 |_::_,[],i,b=>by cases b
 |x::r,a::s,i,b=>by
  rcases X4.1 (show i∈a.ids++idsM (yk0 r s) from b) with b|b
  ·exact X4.2 (.inl b)
  ·exact X4.2 (.inr (jw2 r s i b))
def yo2 {U} (ρ:Nat->Nat): ∀(b:List Int) (as:List (AV U)),ql7 ρ (yk0 b as)=yk0 b (zk1 ρ as)
 | [],_=>rfl
 |_::_,[]=>rfl
 |x::r,a::s=>congrArg ((x,a.ren ρ):: ·) (yo2 ρ r s)
def ImpH.app {as c a b} (h:ImpH T as c) (d:ImpH T a b):ImpH T (as++a) (c++b):=by
 induction h with
 |nil=>exact d
 |cons e _ f=>exact .cons e f
def ImpH.get {es b:List (Ent T.U)} (h:ImpH T es b): ∀ {i:Nat} {f:Ent T.U},b[i]?=some f-> ∃e,es[i]?=some e/\ImpE T e f:=by
 induction h with
 |nil=>intro i f h;simp at h
 |cons c _ d=>
  intro i f a;cases i with
  |zero=>simp at a;subst a;exact ⟨_,rfl,c⟩
  |succ i=>exact d (by simpa using a)
def ImpH.len {es a} (h:ImpH T es a):a.length=es.length:=by
 induction h with
 |nil=>rfl
 |cons _ _ b=>simp [b]
def ImpE.live {e f} (h:ImpE T e f):f.live=e.live:=by cases h<;>rfl
def ImpE.cellIds {e f} (h:ImpE T e f):f.cellIds=e.cellIds:=by
 cases h with
 |same e=>rfl
 |blk h=>exact h.ids
 |map h=>exact h.idsM _
def ImpE.entR {e f} (h:ImpE T e f) {w S φ i} (a:EntR T w S φ i e):EntR T w S φ i f:=by
 cases h with
 |same e=>exact a
 |blk h=>obtain ⟨g,c,b,d,j,k⟩:=a;exact ⟨g,c,b,d,j,h.br k⟩
 |map h=>obtain ⟨g,l,c,b,d,j,k⟩:=a;exact ⟨g,l,c,b,d,j,h.mr k⟩
def Sim.imp {w0:World} {S0:Ow} {F:AF T} {H H1:List (Ent T.U)} {z:PF} {w:World} {S:List Nat} {φ:Nat->RA} (h:Sim T w0 S0 ⟨F,H⟩ z w S φ) (d:ImpH T H H1):Sim T w0 S0 ⟨F,H1⟩ z w S φ:=by
 refine ⟨h.fr,?_,h.chg,h.own,h.ex,?_,fun k r A=>⟨(h.pins k r A).1,by have:=(h.pins k r A).2;simp only [d.len] at this⊢;exact this⟩,?_,?_,?_⟩
 ·intro i a n;obtain ⟨B,C⟩:=h.ids i a n;refine ⟨fun j o=>by have:=B j o;simp only [d.len] at this⊢;exact this,?_⟩;cases a with
  |eptr j sz k c=>
   intro e t xs D;obtain ⟨e0,g,l⟩:=d.get D;cases l with
   |same=>exact C e t xs g
  |_=>trivial
 ·intro i f m p a n;obtain ⟨e0,g,l⟩:=d.get m;exact h.lives i e0 g (by rw [<-l.live];exact p) a n
 ·intro i f m;obtain ⟨e0,g,l⟩:=d.get m;exact l.entR (h.ents i e0 g)
 ·intro i f m j o;obtain ⟨e0,g,l⟩:=d.get m;rw [l.cellIds] at o;have:=h.eids i e0 g j o;simp only [d.len] at this⊢;exact this
 ·intro i j f G m q p s u a b n E;obtain ⟨e0,g,l⟩:=d.get m;obtain ⟨v,x,y⟩:=d.get q;exact h.apart i j e0 v g x (by rw [<-l.live];exact p) (by rw [<-y.live];exact s) u a b n E
def qy7 {t a x} (h:jx4 T t a=some x) (ρ):Imp T (a.ren ρ) (zq2 T t x)/\a.ids= []:=by
 by_cases b:a=.raw (.slice none 0 0)
 ·subst b;cases t<;>try (cases h;done)
  rename_i e;have h:([]:List (den T.U e))=x:=X5 h;subst h;refine ⟨⟨rfl,.inr ⟨rfl,rfl⟩,fun w S φ v c=>?_⟩,rfl⟩;rw [AV.ren,VR] at c;subst c;exact CR.nilS
 ·have:=vv1 h b;subst this;rw [vd6];exact ⟨.refl _,yo1 t x⟩
def ys7 {U:Nat->Type} {a:AV U} {i:Nat} (h:wi7 a=some i):a=.own i:=by cases a<;>simp_all [wi7]
def vr6 {U:Nat->Type} {a:AV U} {i sz o n:Nat} (h:slI a=some (i,sz,o,n)):a=.sl i sz o n:=by cases a<;>simp_all [slI]
def jc2 {U:Nat->Type} {a:AV U} {i o:Nat} (h:ws6 a=some (i,o)):a=.ptr i o:=by cases a<;>simp_all [ws6]
def uh4 {U:Nat->Type} {a:AV U} {f:FuncId} {as b:List (AV U)} (h:fnI a=some (f,as,b)):a=.fn (.func f) as b:=by
 cases a<;>try (cases h;done)
 rename_i c _ _;cases c<;>try (cases h;done)
 simp only [fnI,X0,X7] at h;obtain ⟨rfl,rfl,rfl⟩:=h;rfl
def wd9 {U:Nat->Type} {a:AV U} {as:List (AV U)} (h:aggI a=some as):a=.agg as:=by cases a<;>simp_all [aggI]
def wg7 {U:Nat->Type} {a b:AV U} {t:TypeId} (h:ifcI a=some (t,b)):a=.ifc t b:=by cases a<;>simp_all [ifcI]
def kx8 {U:Nat->Type} {a:AV U} (h:gw9 a=true):a=.raw (.slice none 0 0):=by
 unfold gw9 at h;split at h
 ·rfl
 ·cases h
def qy6 {U:Nat->Type} {a:AV U} (h:gw8 a=true):a=.raw (.pointer none):=by
 unfold gw8 at h;split at h
 ·rfl
 ·cases h
def qv6 {U:Nat->Type} {t:Ty} {n:Nat} {a:AV U} {xs:List (den U t)} (h:gw1 t n a=some xs):a=.arr t n xs:=by
 unfold gw1 at h;split at h
 ·split at h
  ·rename_i b;have:=X1 b;subst this;split at h
   ·rename_i c;subst c;simp only [X0] at h;subst h;rfl
   ·cases h
  ·cases h
 ·cases h
def gj7 {U:Nat->Type} {e:Ty} {o k:Nat} {a:AV U} {xs:List (den U e)} (h:lpI e o a=some (xs,k)):a=.lptr e xs k o:=by
 unfold lpI at h;split at h
 ·split at h
  ·rename_i b;have:=X1 b;subst this;split at h
   ·rename_i c;subst c;simp only [X0,X7] at h;obtain ⟨rfl,rfl⟩:=h;rfl
   ·cases h
  ·cases h
 ·cases h
def vs7 {U:Nat->Type} {a:AV U} {i o sz n b m:Nat} (h:wp1 a=some (i,o,sz,n,b,m)):a=.asl i o sz n b m:=by cases a<;>simp_all [wp1]
def qv4 {U:Nat->Type} {a:AV U} {i o sz n k c:Nat} (h:gv8 a=some (i,o,sz,n,k,c)):a=.aptr i o sz n k c:=by cases a<;>simp_all [gv8]
def vn1 {U:Nat->Type} {a:AV U} {i:Nat} (h:mpI a=some i):a=.mp i:=by cases a<;>simp_all [mpI]
def vx3 {U:Nat->Type} {a:AV U} {n:Nat} (h:rawI n a=true):a=.raw (rawV n):=by
 unfold rawI at h;split at h<;>first|(have:=X1 h;subst this;rfl)|cases h
mutual
def vb8 {H}: ∀(s a l l' x),rdS T H s a l=some (x,l')->
  ∃u,RdOk T H a.ids l l' u/\u.length=s.cnt/\ ∀ρ,Places ρ l'->Imp T (a.ren ρ) (mkA T id s x l.length)/\ImpH T (ze9 T H ρ u) (mkE T id s x l.length)
 | .val t,a,l,l',x,h=>by
  unfold rdS at h;split at h
  ·rename_i y K;simp only [X0,X7] at h;obtain ⟨rfl,rfl⟩:=h;refine ⟨[],.nil (by rw [(qy7 K id).2];intro j v;cases v),rfl,fun ρ g=>⟨?_,.nil⟩⟩;exact (qy7 K ρ).1
  ·cases h
 | .row e t,a,l,l',x,h=>by
  unfold rdS at h;split at h<;>try (cases h;done)
  rename_i i r;have:=ys7 r;subst this;split at h
  ·rename_i xs w;simp only [X0,X7] at h;obtain ⟨rfl,rfl⟩:=h;have w:=ya3 w;refine ⟨[i],.one w rfl rfl,rfl,fun ρ g=>⟨.of_eq ?_,?_⟩⟩
   ·show AV.own (ρ i)=AV.own l.length;rw [show ρ i=l.length from g l.length i (by simp)]
   ·rw [zj3 w];exact .cons (.same _) .nil
  ·cases h
 | .slr e t,a,l,l',x,h=>by
  unfold rdS at h;split at h<;>try (cases h;done)
  rename_i i sz o n r;have:=vr6 r;subst this;split at h<;>try (cases h;done)
  rename_i xs w;split at h<;>try (cases h;done)
  rename_i N;simp only [X0,X7] at h;obtain ⟨rfl,rfl⟩:=h;have:=X1 N;subst this;have w:=ya3 w;refine ⟨[i],.one w rfl rfl,rfl,fun ρ g=>⟨.of_eq ?_,?_⟩⟩
  ·show AV.sl (ρ i) _ o n=AV.sl l.length _ o n;rw [show ρ i=l.length from g l.length i (by simp)]
  ·rw [zj3 w];exact .cons (.same _) .nil
 | .ptr o e cs,a,l,l',x,h=>by
  unfold rdS at h;split at h<;>try (cases h;done)
  rename_i i o' r;have:=jc2 r;subst this;split at h<;>try (cases h;done)
  rename_i as q;split at h<;>try (cases h;done)
  rename_i I;have:=X1 I;subst this;have q:=zr6 q;obtain ⟨u,A,F,G⟩:=zd7 cs as _ _ x h;refine ⟨i::u,.blk q A,by rw [U9,F,Sh.cnt];omega,fun ρ g=>?_⟩;obtain ⟨B,C⟩:=G ρ g;rw [show (l++ [some i]).length=l.length+1 by simp] at B C;refine ⟨.of_eq ?_,?_⟩
  ·rw [A.eq] at g;show AV.ptr (ρ i) o'=AV.ptr l.length o';rw [g.last]
  ·rw [zj3 q];exact .cons (.blk B) C
 | .slb sz n e cs,a,l,l',x,h=>by
  unfold rdS at h;split at h<;>try (cases h;done)
  rename_i i D o L r;have:=vr6 r;subst this;split at h<;>try (cases h;done)
  rename_i as q;split at h<;>try (cases h;done)
  rename_i I;simp only [X3] at I;have:=X1 I.1;subst this;have:=X1 I.2.1;subst this;have:=X1 I.2.2;subst this;have q:=zr6 q;obtain ⟨u,A,F,G⟩:=zd7 cs as _ _ x h;refine ⟨i::u,.blk q A,by rw [U9,F,Sh.cnt];omega,fun ρ g=>?_⟩;obtain ⟨B,C⟩:=G ρ g;rw [show (l++ [some i]).length=l.length+1 by simp] at B C;refine ⟨.of_eq ?_,?_⟩
  ·rw [A.eq] at g;show AV.sl (ρ i) D 0 L=AV.sl l.length D 0 L;rw [g.last]
  ·rw [zj3 q];exact .cons (.blk B) C
 | .at_ p o,a,l,l',x,h=>by
  unfold rdS at h;split at h<;>try (cases h;done)
  rename_i i o' r;have:=jc2 r;subst this;split at h
  ·rename_i q;simp only [X0,X7] at h;obtain ⟨_,rfl⟩:=h;simp only [X3] at q;have:=X1 q.1;subst this;have E:=zh6 q.2;refine ⟨[],.nil (by intro j v;simp [AV.ids] at v;subst v;exact X6 E),rfl,fun ρ g=>⟨.of_eq ?_,.nil⟩⟩;show AV.ptr (ρ i) o'=AV.ptr p o';rw [g p i E]
  ·cases h
 | .own p,a,l,l',x,h=>by
  unfold rdS at h;split at h<;>try (cases h;done)
  rename_i i r;have:=ys7 r;subst this;split at h
  ·rename_i q;simp only [X0,X7] at h;obtain ⟨_,rfl⟩:=h;have E:=zh6 q;refine ⟨[],.nil (by intro j v;simp [AV.ids] at v;subst v;exact X6 E),rfl,fun ρ g=>⟨.of_eq ?_,.nil⟩⟩;show AV.own (ρ i)=AV.own p;rw [g p i E]
  ·cases h
 | .part p sz,a,l,l',x,h=>by
  unfold rdS at h;split at h<;>try (cases h;done)
  rename_i i D o n r;have:=vr6 r;subst this;split at h
  ·rename_i q;simp only [X0,X7] at h;obtain ⟨rfl,rfl⟩:=h;simp only [X3] at q;have:=X1 q.1;subst this;have E:=zh6 q.2;refine ⟨[],.nil (by intro j v;simp [AV.ids] at v;subst v;exact X6 E),rfl,fun ρ g=>⟨.of_eq ?_,.nil⟩⟩;show AV.sl (ρ i) D o n=AV.sl p D o n;rw [g p i E]
  ·cases h
 | .fn f a b,c,l,l',x,h=>by
  unfold rdS at h;split at h<;>try (cases h;done)
  rename_i P as Q r;have:=uh4 r;subst this;split at h<;>try (cases h;done)
  rename_i y Y K;split at h<;>try (cases h;done)
  rename_i Z;have:=X1 Z;subst this;obtain ⟨z,hz,rfl⟩:=zl8 h;obtain ⟨n1,A,F,G⟩:=zd7 a as _ _ y K;obtain ⟨n2,R,k2,k3⟩:=zd7 b Q _ _ z hz;refine ⟨n1++n2,by rw [AV.ids];exact A.app R,by rw [X9,F,k2,Sh.cnt],fun ρ g=>?_⟩;obtain ⟨B,C⟩:=G ρ (by rw [R.eq] at g;exact g.pre);obtain ⟨S,U⟩:=k3 ρ g;have M:Y.length=l.length+za2 a:=by rw [A.eq,X9,V9,F]
  rw [M] at S U;refine ⟨?_,?_⟩
  ·show Imp T (.fn (.func P) (zk1 ρ as) (zk1 ρ Q)) (.fn (.func P) (zc0 T id a y l.length) (zc0 T id b z (l.length+za2 a)));exact B.fn S
  ·rw [zr7];exact C.app U
 | .agg cs,a,l,l',x,h=>by
  unfold rdS at h;split at h<;>try (cases h;done)
  rename_i as r;have:=wd9 r;subst this;obtain ⟨u,A,F,G⟩:=zd7 cs as _ _ x h;refine ⟨u,by rw [AV.ids];exact A,by rw [F,Sh.cnt],fun ρ g=>?_⟩;obtain ⟨B,C⟩:=G ρ g;exact ⟨(show Imp T (.agg (zk1 ρ as)) (.agg (zc0 T id cs x l.length)) from B.agg),C⟩
 | .ifc t s,a,l,l',x,h=>by
  unfold rdS at h;split at h<;>try (cases h;done)
  rename_i V a r;have:=wg7 r;subst this;split at h
  ·rename_i ht;have:=X1 ht;subst this;obtain ⟨u,A,F,G⟩:=vb8 s a _ _ x h;refine ⟨u,by rw [AV.ids];exact A,by rw [F,Sh.cnt],fun ρ g=>?_⟩;obtain ⟨B,C⟩:=G ρ g;exact ⟨(show Imp T (.ifc V (a.ren ρ)) (.ifc V (mkA T id s x l.length)) from B.ifc),C⟩
  ·cases h
 | .nils,a,l,l',x,h=>by
  unfold rdS at h;split at h<;>try (cases h;done)
  rename_i r;have:=kx8 r;subst this;simp only [X0,X7] at h;obtain ⟨_,rfl⟩:=h;exact ⟨[],.nil (by intro j v;cases v),rfl,fun ρ g=>⟨.of_eq rfl,.nil⟩⟩
 | .nilp,a,l,l',x,h=>by
  unfold rdS at h;split at h<;>try (cases h;done)
  rename_i r;have:=qy6 r;subst this;simp only [X0,X7] at h;obtain ⟨_,rfl⟩:=h;exact ⟨[],.nil (by intro j v;cases v),rfl,fun ρ g=>⟨.of_eq rfl,.nil⟩⟩
 | .arr t n,a,l,l',x,h=>by
  unfold rdS at h;split at h
  ·rename_i xs w;simp only [X0,X7] at h;obtain ⟨rfl,rfl⟩:=h;have:=qv6 w;subst this;exact ⟨[],.nil (by intro j v;cases v),rfl,fun ρ g=>⟨.of_eq rfl,.nil⟩⟩
  ·cases h
 | .lp e o,a,l,l',x,h=>by
  unfold rdS at h;split at h
  ·rename_i y w;obtain ⟨xs,k⟩:=y;simp only [X0,X7] at h;obtain ⟨rfl,rfl⟩:=h;have:=gj7 w;subst this;exact ⟨[],.nil (by intro j v;cases v),rfl,fun ρ g=>⟨.of_eq rfl,.nil⟩⟩
  ·cases h
 | .lpk e k o,a,l,l',x,h=>by
  unfold rdS at h;split at h<;>try (cases h;done)
  rename_i y w;split at h<;>try (cases h;done)
  rename_i hk;obtain ⟨xs,k'⟩:=y;have:=X1 hk;subst this;simp only [X0,X7] at h;obtain ⟨rfl,rfl⟩:=h;have:=gj7 w;subst this;exact ⟨[],.nil (by intro j v;cases v),rfl,fun ρ g=>⟨.of_eq rfl,.nil⟩⟩
 | .asp p o sz n,a,l,l',x,h=>by
  unfold rdS at h;split at h<;>try (cases h;done)
  rename_i i o' D L O m r;have:=vs7 r;subst this;split at h
  ·rename_i q;simp only [X0,X7] at h;obtain ⟨rfl,rfl⟩:=h;simp only [X3] at q;have E:=zh6 q.1;have:=X1 q.2.1;subst this;have:=X1 q.2.2.1;subst this;have:=X1 q.2.2.2;subst this;refine ⟨[],.nil (by intro j v;simp [AV.ids] at v;subst v;exact X6 E),rfl,fun ρ g=>⟨.of_eq ?_,.nil⟩⟩;show AV.asl (ρ i) _ _ _ _ _=AV.asl p _ _ _ _ _;rw [g p i E]
  ·cases h
 | .asn e cs o sz n,a,l,l',x,h=>by
  unfold rdS at h;split at h<;>try (cases h;done)
  rename_i i o' D L O m r;have:=vs7 r;subst this;split at h<;>try (cases h;done)
  rename_i as q;split at h<;>try (cases h;done)
  rename_i I;simp only [X3] at I;have:=X1 I.1;subst this;have:=X1 I.2.1;subst this;have:=X1 I.2.2;subst this;have q:=zr6 q;obtain ⟨y,K,rfl⟩:=zl8 h;obtain ⟨u,A,F,G⟩:=zd7 cs as _ _ y K;refine ⟨i::u,.blk q A,by rw [U9,F,Sh.cnt];omega,fun ρ g=>?_⟩;obtain ⟨B,C⟩:=G ρ g;rw [show (l++ [some i]).length=l.length+1 by simp] at B C;refine ⟨.of_eq ?_,?_⟩
  ·rw [A.eq] at g;show AV.asl (ρ i) _ _ _ O m=AV.asl l.length _ _ _ O m;rw [g.last]
  ·rw [zj3 q];exact .cons (.blk B) C
 | .ap p o sz n c,a,l,l',x,h=>by
  unfold rdS at h;split at h<;>try (cases h;done)
  rename_i i o' D L k c' r;have:=qv4 r;subst this;split at h
  ·rename_i q;simp only [X0,X7] at h;obtain ⟨rfl,rfl⟩:=h;simp only [X3] at q;have E:=zh6 q.1;have:=X1 q.2.1;subst this;have:=X1 q.2.2.1;subst this;have:=X1 q.2.2.2.1;subst this;have:=X1 q.2.2.2.2;subst this;refine ⟨[],.nil (by intro j v;simp [AV.ids] at v;subst v;exact X6 E),rfl,fun ρ g=>⟨.of_eq ?_,.nil⟩⟩;show AV.aptr (ρ i) _ _ _ _ _=AV.aptr p _ _ _ _ _;rw [g p i E]
  ·cases h
 | .mp X J cs,a,l,l',x,h=>by
  unfold rdS at h;split at h<;>try (cases h;done)
  rename_i i r;have:=vn1 r;subst this;split at h<;>try (cases h;done)
  rename_i as q;have q:=jp2 q;obtain ⟨u,A,F,G⟩:=zd7 cs as _ _ x h;refine ⟨i::u,.map q (jw2 J as) A,by rw [U9,F,Sh.cnt];omega,fun ρ g=>?_⟩;obtain ⟨B,C⟩:=G ρ g;rw [show (l++ [some i]).length=l.length+1 by simp] at B C;refine ⟨.of_eq ?_,?_⟩
  ·rw [A.eq] at g;show AV.mp (ρ i)=AV.mp l.length;rw [g.last]
  ·rw [zj3 q];refine .cons ?_ C;show ImpE T (.map X (ql7 ρ (yk0 J as))) _;rw [yo2];exact .map B
 | .mpo p,a,l,l',x,h=>by
  unfold rdS at h;split at h<;>try (cases h;done)
  rename_i i r;have:=vn1 r;subst this;split at h
  ·rename_i q;simp only [X0,X7] at h;obtain ⟨_,rfl⟩:=h;have E:=zh6 q;refine ⟨[],.nil (by intro j v;simp [AV.ids] at v;subst v;exact X6 E),rfl,fun ρ g=>⟨.of_eq ?_,.nil⟩⟩;show AV.mp (ρ i)=AV.mp p;rw [g p i E]
  ·cases h
 | .rw n,a,l,l',x,h=>by
  unfold rdS at h;split at h<;>try (cases h;done)
  rename_i r;have:=vx3 r;subst this;simp only [X0,X7] at h;obtain ⟨_,rfl⟩:=h;exact ⟨[],.nil (by intro j v;cases v),rfl,fun ρ g=>⟨.of_eq (by rw [AV.ren];rfl),.nil⟩⟩
 | .tm X t,a,l,l',x,h=>by
  unfold rdS at h;split at h<;>try (cases h;done)
  rename_i i r;have:=vn1 r;subst this;split at h
  ·rename_i xs w;simp only [X0,X7] at h;obtain ⟨rfl,rfl⟩:=h;have w:=qh4 w;refine ⟨[i],.one w rfl rfl,rfl,fun ρ g=>⟨.of_eq ?_,?_⟩⟩
   ·show AV.mp (ρ i)=AV.mp l.length;rw [show ρ i=l.length from g l.length i (by simp)]
   ·rw [zj3 w];exact .cons (.same _) .nil
  ·cases h
 | .dr e d fe,a,l,l',x,h=>by
  unfold rdS at h;split at h<;>try (cases h;done)
  rename_i i r;have:=ys7 r;subst this;split at h
  ·rename_i xs w;simp only [X0,X7] at h;obtain ⟨rfl,rfl⟩:=h;have w:=jd2 w;refine ⟨[i],.one w rfl rfl,rfl,fun ρ g=>⟨.of_eq ?_,?_⟩⟩
   ·show AV.own (ρ i)=AV.own l.length;rw [show ρ i=l.length from g l.length i (by simp)]
   ·rw [zj3 w];exact .cons (.same _) .nil
  ·cases h
def zd7 {H}: ∀(ss as l l' x),zm8 T H ss as l=some (x,l')->
  ∃c,RdOk T H (v5 as) l l' c/\c.length=za2 ss/\ ∀ρ,Places ρ l'->ImpL T (zk1 ρ as) (zc0 T id ss x l.length)/\ImpH T (ze9 T H ρ c) (zg6 T id ss x l.length)
 | [],as,l,l',x,h=>by
  cases as with
  |cons _ _=>unfold zm8 at h;cases h
  |nil=>
   unfold zm8 at h;simp only [X0,X7] at h;obtain ⟨_,rfl⟩:=h;exact ⟨[],.nil (by intro j m;cases m),rfl,fun ρ b=>⟨.nil,.nil⟩⟩
 |s::r,as,l,l',x,h=>by
  cases as with
  |nil=>unfold zm8 at h;cases h
  |cons a as=>
   unfold zm8 at h;simp only at h;split at h<;>try (cases h;done)
   rename_i y n o;obtain ⟨z,p,rfl⟩:=zl8 h;obtain ⟨q,e,f,t⟩:=vb8 s a _ _ y o;obtain ⟨u,g,v,w⟩:=zd7 r as _ _ z p;refine ⟨q++u,by rw [v5];exact e.app g,by rw [X9,f,v,za2],fun ρ b=>?_⟩;obtain ⟨A,B⟩:=t ρ (by rw [g.eq] at b;exact b.pre);obtain ⟨i,k⟩:=w ρ b;have d:n.length=l.length+s.cnt:=by rw [e.eq,X9,V9,f]
   rw [d] at i k;exact ⟨(.cons A i),by rw [zr7];exact B.app k⟩
end
end
end Go.X
namespace Go.X
open Go.RowKit Go.V
section
variable {T:Tab} {P:Program} {w w':World} {S S':List Nat} {φ φ':Nat->RA} {w0:World} {S0:Ow} {F:AF T} {H:List (Ent T.U)} {F' F'':PF}
def yp1 (H ρ): ∀l:Src,(zj0 T H ρ l).length=l.length
 | []=>rfl
 |some i::r=>by simp [zj0,yp1 H ρ r]
 |none::r=>by simp [zj0,yp1 H ρ r]
def yp0 (H ρ): ∀l m:Src,zj0 T H ρ (l++m)=zj0 T H ρ l++zj0 T H ρ m
 | [],_=>rfl
 |some i::r,m=>by simp [zj0,yp0 H ρ r m]
 |none::r,m=>by simp [zj0,yp0 H ρ r m]
def zy1 (H ρ): ∀l:List Nat,zj0 T H ρ (l.map some)=ze9 T H ρ l
 | []=>rfl
 |i::r=>by
  rw [U3,zj0,zy1 H ρ r];cases hi:H[i]? with
  |none=>simp only [ze9,hi]
  |some e=>simp only [ze9,hi]
def zs8 {H:List (Ent T.U)} {ρ:Nat->Nat} {f:Ent T.U}: ∀ {l:Src} {j:Nat},(zj0 T H ρ l)[j]?=some f->f=.gone\/ ∃i e,l[j]?=some (some i)/\H[i]?=some e/\f=e.ren ρ
 | [],j,h=>by simp [zj0] at h
 |some i::r,0,h=>by
  simp only [zj0,Y4,X0] at h;split at h
  ·rename_i e d;exact .inr ⟨i,e,rfl,d,h.symm⟩
  ·exact .inl h.symm
 |none::r,0,h=>by simp only [zj0,Y4,X0] at h;exact .inl h.symm
 |some i::r,j+1,h=>by
  rcases zs8 (l:=r) (j:=j) (by simpa [zj0] using h) with h|⟨i,e,a,b,c⟩
  ·exact .inl h
  ·exact .inr ⟨i,e,by simpa using a,b,c⟩
 |none::r,j+1,h=>by
  rcases zs8 (l:=r) (j:=j) (by simpa [zj0] using h) with h|⟨i,e,a,b,c⟩
  ·exact .inl h
  ·exact .inr ⟨i,e,by simpa using a,b,c⟩
def φO (l:Src) (φ:Nat->RA) (j:Nat):RA:=match l[j]? with|some (some i)=>φ i|_=>φ j
def φO_at {l j i} (h:l[j]?=some (some i)):φO l φ j=φ i:=by unfold φO;rw [h]
def φO_idx {l i} (h:some i∈l):φO l φ (yv0 i l)=φ i:=φO_at (zm5 h)
def Sim.src (h:Sim T w0 S0 ⟨F,H⟩ F' w S φ) {l} (B:zn4 l=true) (C: ∀k,k<S0.pin.length->l[k]?=some (some k)\/l[k]?=some none)
  (z: ∀i e,some i∈l->H[i]?=some e-> ∀j∈e.cellIds,some j∈l):Sim T w0 S0 ⟨[],zj0 T H (fun i=>yv0 i l) l⟩ [] w S (φO l φ):=by
 refine ⟨fun i a c=>by simp [AF.get] at c,fun i a c=>by simp [AF.get] at c,h.chg,h.own,h.ex,?_,fun k r g=>?_,?_,?_,?_⟩
 ·intro j f o p a c;rcases zs8 o with rfl|⟨i,e,d,n,rfl⟩
  ·cases p
  ·rw [φO_at d] at c;exact h.lives i e n (by rw [Ent.ren_live] at p;exact p) a c
 ·have s:=C k (X2.1 g).1;have u:φO l φ k=φ k:=by
   rcases s with h|h
   ·exact φO_at h
   ·unfold φO;rw [h]
  refine ⟨by rw [u];exact (h.pins k r g).1,?_⟩;simp only [yp1];rcases s with h|h<;>exact (X2.1 h).1
 ·intro j f o;rcases zs8 o with rfl|⟨i,e,d,n,rfl⟩
  ·trivial
  ·exact (h.ents i e n).ren (φO_at d) fun k g=>φO_idx (z i e (X6 d) n k g)
 ·intro j f o k g;rcases zs8 o with rfl|⟨i,e,d,n,rfl⟩
  ·cases g
  ·rw [Ent.ren_cellIds] at g;obtain ⟨m,D,rfl⟩:=U7.1 g;simp only [yp1];exact (X2.1 (zm5 (z i e (X6 d) n m D))).1
 ·intro j k f I o v p q x a b c A;rcases zs8 o with rfl|⟨i,e,d,n,rfl⟩
  ·cases p
  ·rcases zs8 v with rfl|⟨E,G,t,y,rfl⟩
   ·cases q
   ·rw [φO_at d] at c;rw [φO_at t] at A;rw [Ent.ren_live] at p q;exact h.apart i E e G n y p q (fun e=>x (by subst e;exact yj2 B d t)) a b c A
def Sim.unpin {c x p} (h:Sim T w0 ⟨c,x,p⟩ ⟨F,H⟩ F' w S φ):Sim T w0 ⟨c,x,[]⟩ ⟨F,H⟩ F' w S φ:=
 ⟨h.fr,h.ids,h.chg,h.own,h.ex,h.lives,fun k r a=>by simp at a,h.ents,h.eids,h.apart⟩
def Sim.start (h:Sim T w0 S0 ⟨F,H⟩ F' w S φ):Sim T w ⟨zd5 φ H.length,S,(List.range H.length).map φ⟩ ⟨[],H⟩ [] w S φ:=by
 refine ⟨fun i a d=>by simp [AF.get] at d,fun i a d=>by simp [AF.get] at d,Chg.refl _ _,fun b f=>⟨.inl f,(h.own b f).2⟩,fun b f _ _=>f,fun i e j l a d=>⟨(h.lives i e j l a d).1,.inl ?_⟩,fun k r g=>?_,h.ents,h.eids,h.apart⟩
 ·unfold zd5;exact K4.2 ⟨i,K1.2 (X2.1 j).1,zu0.2 ⟨a,d,rfl⟩⟩
 ·have c:=(X2.1 g).1;simp at c;simp [c] at g;exact ⟨.of g,c⟩
def Sim.slots (h:Sim T w0 S0 ⟨[],H⟩ F'' w S φ) {as vs} (c:VRL T w S φ as vs) (d: ∀a∈as,okA H a):Sim T w0 S0 ⟨yb6 T as 0,H⟩ (jf8 vs 0) w S φ:=
 ⟨fun i a b=>jc7 c b,fun i a b=>d a (jc8 b),h.chg,h.own,h.ex,h.lives,h.pins,h.ents,h.eids,h.apart⟩
def σJ (ids:List Nat) (n:Nat) (j:Nat):Nat:=match Nat.blt j ids.length with|true=>ids.getD j 0|false=>n+(j-ids.length)
def σJ_lo {ids n j} (h:j<ids.length):ids[j]?=some (σJ ids n j):=by
 unfold σJ;rw [show Nat.blt j ids.length=true by rw [V2];exact h];simp [Y0 h]
def σJ_hi {ids n j} (h:ids.length<=j):σJ ids n j=n+(j-ids.length):=by
 unfold σJ;rw [show Nat.blt j ids.length=false by cases hb:Nat.blt j ids.length;rfl;rw [V2] at hb;omega]
def Sim.join (h:Sim T w0 S0 ⟨F,H⟩ F' w S φ) {ids} (hn:zd6 ids=true) (V: ∀i∈ids,∃e,H[i]?=some e/\e.live=true) {J u} (hφc: ∀k i,ids[k]?=some i->J k=φ i) {F1 S1 K Z}
  (D:Sim T w ⟨zd5 J ids.length,S,(List.range ids.length).map J⟩ ⟨[],K++Z⟩ F1 w' S1 u) (hP:K.length=ids.length)
  (hty: ∀(k i:Nat) (e:TypeId) (t:Ty) (ys:List (den T.U t)),ids[k]?=some i->K[k]?=some (.row e t ys)-> ∃xs,H[i]?=some (.row e t xs)):
  ∃B,Sim T w0 S0 ⟨F,ze1 T H ids (K.map (Ent.ren (σJ ids H.length)))++Z.map (Ent.ren (σJ ids H.length))⟩ F' w' S1 B/\
   ∀a v,VR T w' S1 u a v->(∀i∈a.ids,i<K.length+Z.length)->VR T w' S1 B (a.ren (σJ ids H.length)) v:=by
 generalize X:σJ ids H.length=σ
 let B:Nat->RA:=fun i=>if i<H.length then (if i∈ids then u (ids.idxOf i) else φ i) else u (ids.length+(i-H.length))
 have hidl: ∀k i,ids[k]?=some i->i<H.length:=fun k i p=>by
  obtain ⟨e,he,_⟩:=V i (X6 p);exact (X2.1 he).1
 have z: ∀m,B (H.length+m)=u (ids.length+m):=fun m=>by
  show (if H.length+m<H.length then _ else _)=_;rw [if_neg (by omega),N2]
 have hpin: ∀k i,ids[k]?=some i->RSame (u k) (φ i):=by
  intro k i p;have Y:=(X2.1 p).1;rw [<-hφc k i p];exact (D.pins k (J k) (by simp [Y])).1
 have L: ∀k i,ids[k]?=some i->B i=u k:=by
  intro k i p;have N:=X6 p;show (if i<H.length then (if i∈ids then u (ids.idxOf i) else φ i) else _)=_;rw [if_pos (hidl k i p),if_pos N];have h1:ids[ids.idxOf i]?=some i:=by
   have Y:=List.idxOf_lt_length_of_mem N;rw [Y0 Y,List.getElem_idxOf Y]
  rw [yj1 hn h1 p]
 have E: ∀i,i∉ids->i<H.length->B i=φ i:=fun i hi o=>by
  show (if i<H.length then (if i∈ids then u (ids.idxOf i) else φ i) else _)=_;rw [if_pos o,if_neg hi]
 have hold: ∀i,i<H.length->RSame (B i) (φ i):=fun i o=>by
  by_cases hi:i∈ids
  ·obtain ⟨k,p⟩:=Y9.1 hi;rw [L k i p];exact hpin k i p
  ·exact .of (E i hi o)
 have O: ∀j,B (σ j)=u j:=by
  intro j;by_cases C:j<ids.length
  ·have hs:=σJ_lo (n:=H.length) C;rw [X] at hs;exact L j _ hs
  ·rw [<-X,σJ_hi (by omega),z];congr 1;omega
 have hσlt: ∀j,j<K.length+Z.length->σ j<(ze1 T H ids (K.map (Ent.ren σ))++Z.map (Ent.ren σ)).length:=by
  intro j C;rw [X9,w7,V9];by_cases Y:j<ids.length
  ·have hs:=σJ_lo (n:=H.length) Y;rw [X] at hs;have:=hidl j _ hs;omega
  ·rw [<-X,σJ_hi (by omega)];omega
 have M: ∀b∈zd5 J ids.length,∃(k i:Nat) (a:Addr),ids[k]?=some i/\At (φ i) a/\a.block=b:=by
  intro b s;obtain ⟨k,p,a,l,rfl⟩:=jc9 s;have hg:=Y0 p;exact ⟨k,_,a,hg,by rw [<-hφc k _ hg];exact l,rfl⟩
 have hTS: ∀b∈zd5 J ids.length,b∈S:=by
  intro b s;obtain ⟨k,i,a,p,l,rfl⟩:=M b s;obtain ⟨e,he,o⟩:=V i (X6 p);exact zh2 h he o l
 have hTc: ∀b∈zd5 J ids.length,b∈S0.chg\/w0.heap.size<=b:=by
  intro b s;obtain ⟨k,i,a,p,l,rfl⟩:=M b s;obtain ⟨e,he,o⟩:=V i (X6 p);exact (h.lives i e he o a l).2
 have hS1: ∀b∈S1,b∈S\/w.heap.size<=b:=fun b s=>(D.own b s).1;have hlen:(K.map (Ent.ren σ)).length=ids.length:=by rw [V9,hP]
 have get: ∀(j:Nat) (f:Ent T.U),(ze1 T H ids (K.map (Ent.ren σ))++Z.map (Ent.ren σ))[j]?=some f->
   (∃(k:Nat) (g:Ent T.U),ids[k]?=some j/\K[k]?=some g/\f=g.ren σ/\j<H.length)\/(j∉ids/\H[j]?=some f/\j<H.length)\/(∃(m:Nat) (g:Ent T.U),j=H.length+m/\(K++Z)[ids.length+m]?=some g/\f=g.ren σ):=by
  intro j f I;by_cases C:j<H.length
  ·rw [X8 (by rw [w7];exact C)] at I;rcases ze4 ids _ H hlen I with ⟨k,A,d⟩|⟨A,d⟩
   ·rw [W4] at d;cases hp:K[k]? with
    |none=>rw [hp] at d;cases d
    |some g=>rw [hp] at d;simp only [Z8,X0] at d;exact .inl ⟨k,g,A,hp,d.symm,C⟩
   ·exact .inr (.inl ⟨A,d,C⟩)
  ·rw [Z2 (by rw [w7];omega),w7,W4] at I;cases hp:Z[j-H.length]? with
   |none=>rw [hp] at I;cases I
   |some g=>
    rw [hp] at I;simp only [Z8,X0] at I;refine .inr (.inr ⟨j-H.length,g,by omega,?_,I.symm⟩);rw [Z2 (by omega),hP,N2];exact hp
 have getP: ∀ {k:Nat} {g:Ent T.U},K[k]?=some g->(K++Z)[k]?=some g:=fun p=>by
  rw [X8 (X2.1 p).1];exact p
 refine ⟨B,⟨?_,?_,h.chg.step D.chg hTc,fun b s=>⟨?_,(D.own b s).2⟩,fun b s q1 q2=>D.ex b (h.ex b s q1 q2) (fun N=>(hTc b N).elim q1 fun N=>by omega) (h.own b (h.ex b s q1 q2)).2,?_,fun k r p=>?_,?_,?_,?_⟩,fun a v hv hi=>hv.ren T fun i _=>O i⟩
 ·intro i a l;obtain ⟨v,h1,h2⟩:=h.fr i a l;exact ⟨v,h1,(h2.chg T D.chg hTS hS1).phiS fun j C=>hold j ((h.ids i a l).1 j C)⟩
 ·intro i a l;obtain ⟨h1,h2⟩:=h.ids i a l;refine ⟨fun j C=>by have:=h1 j C;simp only [X9,w7] at this⊢;omega,?_⟩;cases a with
  |eptr y sz k c=>
   have hy:=h1 y (by simp [AV.ids]);intro e t xs hx;rcases get y _ hx with ⟨k',g,A,d,g3,_⟩|⟨_,d,_⟩|⟨m,_,A,_⟩
   ·cases g with
    |row e1 t1 ys=>
     simp only [Ent.ren,Ent.row.injEq] at g3;obtain ⟨rfl,rfl,g3⟩:=g3;have:=eq_of_heq g3;subst this;obtain ⟨zs,g4⟩:=hty k' y _ _ _ A d;obtain ⟨q4,q5⟩:=h2 _ _ _ g4;obtain ⟨_,_,_,n1,_⟩:=h.ents y _ g4;obtain ⟨_,_,_,n2,_⟩:=D.ents k' _ (getP d);rw [(hpin k' y A).2.1] at n2;exact ⟨by omega,q5⟩
    |blk _ _=>cases g3
    |drow _ _ _ _ _=>cases g3
    |map _ _=>cases g3
    |tmap _ _ _=>cases g3
    |gone=>cases g3
   ·exact h2 e t xs d
   ·simp only at hy;omega
  |_=>trivial
 ·rcases (D.own b s).1 with s|s
  ·exact (h.own b s).1
  ·exact .inr (U5 h.chg.size s)
 ·intro j f I o a l;rcases get j f I with ⟨k,g,A,d,rfl,C⟩|⟨Q,d,C⟩|⟨m,g,rfl,d,rfl⟩
  ·rw [L k j A] at l;have R:g.live=true:=by rw [Ent.ren_live] at o;exact o
   refine ⟨(D.lives _ g (getP d) R a l).1,?_⟩;rcases (D.lives _ g (getP d) R a l).2 with N|N
   ·exact hTc _ N
   ·exact .inr (U5 h.chg.size N)
  ·rw [E j Q C] at l;have q:=h.lives j f d o a l;refine ⟨D.ex _ q.1 (fun s=>?_) (h.own _ q.1).2,q.2⟩;obtain ⟨k,i,a',p,ha',hbe⟩:=M _ s;obtain ⟨e,he,G⟩:=V i (X6 p);exact h.apart j i f e d he o G (fun e=>Q (e▸X6 p)) a a' l ha' hbe.symm
  ·rw [z] at l;have R:g.live=true:=by rw [Ent.ren_live] at o;exact o
   refine ⟨(D.lives _ g d R a l).1,?_⟩;rcases (D.lives _ g d R a l).2 with N|N
   ·exact hTc _ N
   ·exact .inr (U5 h.chg.size N)
 ·obtain ⟨A,d⟩:=h.pins k r p;simp only at d;exact ⟨(hold k d).trans A,by simp only [X9,w7];omega⟩
 ·intro j f I;rcases get j f I with ⟨k,g,A,d,rfl,C⟩|⟨C,d,hjl⟩|⟨m,g,rfl,d,rfl⟩
  ·exact (D.ents k g (getP d)).ren (L k j A) fun x _=>O x
  ·have hnot:f.live=true-> ∀a,At (φ j) a->a.block∉zd5 J ids.length:=fun o a l s=>by
    obtain ⟨k,i,a',p,ha',hbe⟩:=M _ s;obtain ⟨e,he,G⟩:=V i (X6 p);exact h.apart j i f e d he o G (fun e=>C (e▸X6 p)) a a' l ha' hbe.symm
   have h1:=(h.ents j f d).chg T D.chg hTS hS1 fun o a l=>⟨hnot o a l,D.ex _ (zh2 h d o l) (hnot o a l) (h.own _ (zh2 h d o l)).2⟩;exact h1.phiE (E j C hjl) fun x hx=>hold x (h.eids j f d x hx)
  ·exact (D.ents _ g d).ren (z m) fun x _=>O x
 ·intro j f I x hx;rcases get j f I with ⟨k,g,A,d,rfl,C⟩|⟨C,d,hjl⟩|⟨m,g,rfl,d,rfl⟩
  ·rw [Ent.ren_cellIds] at hx;obtain ⟨y,hy,rfl⟩:=U7.1 hx;exact hσlt y (by have:=D.eids k g (getP d) y hy;simp only [X9] at this;exact this)
  ·have:=h.eids j f d x hx;simp only [X9,w7] at this⊢;omega
  ·rw [Ent.ren_cellIds] at hx;obtain ⟨y,hy,rfl⟩:=U7.1 hx;exact hσlt y (by have:=D.eids _ g d y hy;simp only [X9] at this;exact this)
 ·
  have cross: ∀(j:Nat) (f:Ent T.U),j∉ids->H[j]?=some f->f.live=true-> ∀(m:Nat) (g:Ent T.U),(K++Z)[m]?=some g->g.live=true-> ∀a b,At (φ j) a->At (u m) b->a.block≠b.block:=by
   intro j f Q d o m g N R a b l s;rcases (D.lives _ g N R b s).2 with hb'|hb'
   ·obtain ⟨k,i,a',p,ha',hbe⟩:=M _ hb';obtain ⟨e,he,G⟩:=V i (X6 p);rw [<-hbe];exact h.apart j i f e d he o G (fun e=>Q (e▸X6 p)) a a' l ha'
   ·have:=(h.own _ (zh2 h d o l)).2;omega
  have side: ∀(j:Nat) (f:Ent T.U),(ze1 T H ids (K.map (Ent.ren σ))++Z.map (Ent.ren σ))[j]?=some f->f.live=true->
    (∃(k:Nat) (g:Ent T.U),(K++Z)[k]?=some g/\g.live=true/\B j=u k/\j=σ k)\/(j∉ids/\H[j]?=some f/\B j=φ j):=by
   intro j f I o;rcases get j f I with ⟨k,g,A,d,rfl,C⟩|⟨Q,d,C⟩|⟨m,g,rfl,d,rfl⟩
   ·refine .inl ⟨k,g,getP d,by rw [Ent.ren_live] at o;exact o,L k j A,?_⟩;have hs:=σJ_lo (n:=H.length) (X2.1 A).1;rw [X,A] at hs;exact X5 hs
   ·exact .inr ⟨Q,d,E j Q C⟩
   ·refine .inl ⟨ids.length+m,g,d,by rw [Ent.ren_live] at o;exact o,z m,?_⟩;rw [<-X,σJ_hi (by omega)];omega
  intro i j f f' I hf' o G hij a b l s;rcases side i f I o with ⟨k,g,A,d,g3,g4⟩|⟨g0,A,g3⟩<;>rcases side j f' hf' G with ⟨k',f0',k1,k2,k3,k4⟩|⟨k0,k1,k3⟩<;>rw [g3] at l<;>rw [k3] at s
  ·exact D.apart k k' g f0' A k1 d k2 (fun e=>hij (by rw [g4,k4,e])) a b l s
  ·exact (cross j f' k0 k1 G k g A d b a s l).symm
  ·exact cross i f g0 A o k' f0' k1 k2 a b l s
  ·exact h.apart i j f f' A k1 o G hij a b l s
end
end Go.X
namespace Go.X
open Go.RowKit Go.V
structure GSpec (T:Tab) where
 ps:List Sh
 post:List PE
 rs:List Sh
 g:zd9 T ps->Option (zq1 T post×zd9 T rs)
section
variable (T:Tab) (P:Program)
def zb0:Src->List Nat
 | []=> []
 |some i::r=>i::zb0 r
 |none::r=>zb0 r
def yh8 (H:List (Ent T.U)):List Nat->List PE->Bool
 | [],a=>match a with| []=>true|_::_=>false
 |i::r,a=>match a with
  | []=>false
  |p::q=>(match p with| .row e t=>(qr4 T H e t i).isSome|_=>true)&&yh8 H r q
def GOk (f:FuncId) (b:GSpec T):Prop:= ∀x y,b.g x=some y-> ∀(w:World) (S:List Nat) (φ:Nat->RA),Sim T w ⟨zd5 φ (za2 b.ps),S,(List.range (za2 b.ps)).map φ⟩ ⟨[],zg6 T id b.ps x 0⟩ [] w S φ->
 ∀vs:List Value,VRL T w S φ (zc0 T id b.ps x 0) vs->(∀a∈zc0 T id b.ps x 0,okA (zg6 T id b.ps x 0) a)->
 Calls P f vs.toArray w fun e w'=>match e with
  | .returned v=> ∃(d:PF) (S1:List Nat) (c:Nat->RA) (us:List Value),Sim T w ⟨zd5 φ (za2 b.ps),S,(List.range (za2 b.ps)).map φ⟩ ⟨[],mkP T id b.post y.1 b.post.length++(yd1 T id b.post y.1 b.post.length++zg6 T id b.rs y.2 (b.post.length+zf0 b.post))⟩ d w' S1 c/\
    VRL T w' S1 c (zc0 T id b.rs y.2 (b.post.length+zf0 b.post)) us/\v=yf2 us/\ ∀i∈v5 (zc0 T id b.rs y.2 (b.post.length+zf0 b.post)),i<b.post.length+(zf0 b.post+za2 b.rs)
  |_=>False
def GSpec.toCall {T:Tab} (a:GSpec T) (b:CallSpec T):CallSpec T where
 call:=fun as H K c=>match zm8 T H a.ps as [] with
  |some (x,l)=>match zd6 (zb0 l)&&yh8 T H (zb0 l) a.post with
   |true=>z6 (a.g x) fun y=>K (zk3 T (zc0 T (σJ (zb0 l) H.length) a.rs y.2 (a.post.length+zf0 a.post))) (ze1 T H (zb0 l) (mkP T (σJ (zb0 l) H.length) a.post y.1 a.post.length)++(yd1 T (σJ (zb0 l) H.length) a.post y.1 a.post.length++zg6 T (σJ (zb0 l) H.length) a.rs y.2 (a.post.length+zf0 a.post)))
   |false=>none
  |none=>b.call as H K c
 q:=b.q
 isq:=b.isq
 wr:=fun as H=>match zm8 T H a.ps as [] with|some (_,l)=>zb0 l|none=>b.wr as H
def za8:CallSpec T where
 call:=fun _ _ _ _=>none
 q:=fun _ _ _=>none
 isq:=false
 wr:=fun _ _=> []
def ks3:List (Nat×TypeId×Ty×Bool)->List (AV T.U)->List (Ent T.U)->List (AV T.U)×List (Ent T.U)
 | [],as,H=>(as,H)
 |(j,e,t,b)::r,as,H=>match as[j]? with
  |some (.raw (.slice none 0 0))=>ks3 r (as.set j (match b with|true=>.own H.length|false=>.sl H.length (szT T t) 0 0)) (H++ [.row e t []])
  |_=>ks3 r as H
def ks2:List Nat->List (AV T.U)->List (Ent T.U)->List (AV T.U)
 | [],as,_=>as
 |j::r,as,H=>match as[j]? with
  |some (.own i)=>match H[i]? with
   |some (.row _ t xs)=>ks2 r (as.set j (.sl i (szT T t) 0 xs.length)) H
   |_=>ks2 r as H
  |_=>ks2 r as H
structure Nl where
 rs:List (Nat×TypeId×Ty×Bool)
 ow:List Nat
 bn:List (Nat×Nat×TypeId×Ty)
 z:List (Nat×Ty)
 w:List Nat
def wr1 (a:List PE) (rs:List Sh) (as:List (AV T.U)) (H:List (Ent T.U)):Option (zq1 T a×zd9 T rs):=
 match rdP T H a 0 (zv3 a 0) with
 |some (y,l)=>match zm8 T H rs as l with
  |some (z,l')=>match zn4 l' with|true=>some (y,z)|false=>none
  |none=>none
 |none=>none
def yc0 (fn:Func) (b:Nl) (a:List PE) (rs:List Sh) (c:St T):Option (zq1 T a×zd9 T rs):=
 match jy9 T P c fn.results.toList with
 |some d=>match ks4 T a.length b.w d c.H with
  |some (e,H1)=>
   let p:=ks3 T b.rs e (zf2 T b.bn H1)
   wg5 T b.z (ks2 T b.ow p.1 p.2) p.2 (wr1 T a rs)
  |none=>none
 |none=>none
def jk5 (fn:Func) (b:Nl) (a:List PE) (rs:List Sh):Ks T (zq1 T a×zd9 T rs):=⟨yc0 T P fn b a rs,fun _ _=>none,yc0 T P fn b a rs,fun _ _=>none⟩
noncomputable def topG (C:Ctx T) (b:List (Pos×Cut)) (fn:Func) (c:Code) (e:Nl) (d:List Sh) (a:List PE) (rs:List Sh) (m:Nat) (x:zd9 T d):Option (zq1 T a×zd9 T rs):=
 evC P C fn.ntmps b (run P C fn.ntmps b c (jk5 T P fn e a rs) m) c [] (jk5 T P fn e a rs) ⟨yb6 T (zc0 T id d x 0) 0,zg6 T id d x 0⟩
noncomputable def cutG (C:Ctx T) (b:List (Pos×Cut)) (fn:Func) (c:Code) (d:Nl) (a:List PE) (rs:List Sh) (m:Nat) (q:Pos) (st:St T):Option (zq1 T a×zd9 T rs):=
 run P C fn.ntmps b c (jk5 T P fn d a rs) m q st
end
section
variable {T:Tab} {P:Program} {w w':World} {S S':List Nat} {φ φ':Nat->RA} {w0:World} {S0:Ow} {F:AF T} {H:List (Ent T.U)} {F':PF}
def yb1: ∀l:List Nat,zb0 (l.map some)=l
 | []=>rfl
 |i::r=>by rw [U3,zb0,yb1 r]
mutual
def vu7 (σ): ∀(s x k),(mkE T σ s x k).length=s.cnt
 | .row e t,x,k=>rfl
 | .slr e t,x,k=>rfl
 | .ptr o e cs,x,k=>(congrArg (· +1) (zc8 σ cs x (k+1))).trans (J8 _ _)
 | .slb sz n e cs,x,k=>(congrArg (· +1) (zc8 σ cs x (k+1))).trans (J8 _ _)
 | .fn f a b,x,k=>by show (zg6 T σ a x.1 k++zg6 T σ b x.2 (k+za2 a)).length=za2 a+za2 b;rw [X9,zc8 σ a,zc8 σ b]
 | .agg cs,x,k=>zc8 σ cs x k
 | .ifc t s,x,k=>vu7 σ s x k
 | .val _,x,k=>rfl
 | .at_ _ _,x,k=>rfl
 | .own _,x,k=>rfl
 | .part _ _,x,k=>rfl
 | .nils,x,k=>rfl
 | .nilp,x,k=>rfl
 | .arr _ _,x,k=>rfl
 | .lp _ _,x,k=>rfl
 | .asp _ _ _ _,x,k=>rfl
 | .asn e cs o sz n,x,k=>(congrArg (· +1) (zc8 σ cs x.1 (k+1))).trans (J8 _ _)
 | .ap _ _ _ _ _,x,k=>rfl
 | .mp d c cs,x,k=>(congrArg (· +1) (zc8 σ cs x (k+1))).trans (J8 _ _)
 | .mpo _,x,k=>rfl
 | .rw _,x,k=>rfl
 | .lpk _ _ _,x,k=>rfl
 | .tm _ _,x,k=>rfl
 | .dr _ _ _,x,k=>rfl
def zc8 (σ): ∀(l x k),(zg6 T σ l x k).length=za2 l
 | [],x,k=>rfl
 |s::r,x,k=>by show (mkE T σ s x.1 k++zg6 T σ r x.2 (k+s.cnt)).length=s.cnt+za2 r;rw [X9,vu7 σ s,zc8 σ r]
end
def zu1 (σ): ∀(ps x k),(mkP T σ ps x k).length=ps.length
 | [],x,k=>rfl
 |p::r,x,k=>by show (mkP T σ r x.2 (k+p.cnt)).length+1=r.length+1;rw [zu1 σ r]
def yb2 (σ): ∀(ps x k),(yd1 T σ ps x k).length=zf0 ps
 | [],x,k=>rfl
 |p::r,x,k=>by
  show (kn0 T σ p x.1 k++yd1 T σ r x.2 (k+p.cnt)).length=p.cnt+zf0 r;rw [X9,yb2 σ r];cases p with
  |gone=>rfl
  |row e t=>rfl
  |tmap k t=>rfl
  |dr e d fe=>rfl
  |blk e cs=>exact congrArg (· +zf0 r) (zc8 σ cs x.1 k)
  |map b a cs=>exact congrArg (· +zf0 r) (zc8 σ cs x.1 k)
mutual
def vu6 (τ): ∀(s x k),(mkA T id s x k).ren τ=mkA T τ s x k
 | .val t,x,k=>vd6 t x τ
 | .row e t,x,k=>rfl
 | .slr e t,x,k=>rfl
 | .ptr o e cs,x,k=>rfl
 | .slb sz n e cs,x,k=>rfl
 | .fn f a b,x,k=>by
  show AV.fn (.func f) (zk1 τ (zc0 T id a x.1 k)) (zk1 τ (zc0 T id b x.2 (k+za2 a)))=.fn (.func f) (zc0 T τ a x.1 k) (zc0 T τ b x.2 (k+za2 a));rw [zg4 τ a,zg4 τ b]
 | .agg cs,x,k=>congrArg AV.agg (zg4 τ cs x k)
 | .ifc t s,x,k=>congrArg (AV.ifc t) (vu6 τ s x k)
 | .at_ _ _,x,k=>rfl
 | .own _,x,k=>rfl
 | .part _ _,x,k=>rfl
 | .nils,x,k=>rfl
 | .nilp,x,k=>rfl
 | .arr _ _,x,k=>rfl
 | .lp _ _,x,k=>rfl
 | .asp _ _ _ _,x,k=>rfl
 | .asn _ _ _ _ _,x,k=>rfl
 | .ap _ _ _ _ _,x,k=>rfl
 | .mp _ _ _,x,k=>rfl
 | .mpo _,x,k=>rfl
 | .rw _,x,k=>rfl
 | .lpk _ _ _,x,k=>rfl
 | .tm _ _,x,k=>rfl
 | .dr _ _ _,x,k=>rfl
def zg4 (τ): ∀(l x k),zk1 τ (zc0 T id l x k)=zc0 T τ l x k
 | [],x,k=>rfl
 |s::r,x,k=>by
  show (mkA T id s x.1 k).ren τ::zk1 τ (zc0 T id r x.2 (k+s.cnt))=mkA T τ s x.1 k::zc0 T τ r x.2 (k+s.cnt);rw [vu6 τ s,zg4 τ r]
end
def ys0 {α:Type} {a b:α} {l m:List α} (h:a=b) (c:l=m):a::l=b::m:=by rw [h,c]
def gg4 {α:Type} {a b l m:List α} (h:a=b) (c:l=m):a++l=b++m:=by rw [h,c]
mutual
def vu8 (τ): ∀(s x k),(mkE T id s x k).map (Ent.ren τ)=mkE T τ s x k
 | .row e t,x,k=>rfl
 | .slr e t,x,k=>rfl
 | .ptr o e cs,x,k=>ys0 (congrArg (Ent.blk e) (zg4 τ cs x (k+1))) (zj1 τ cs x (k+1))
 | .slb sz n e cs,x,k=>ys0 (congrArg (Ent.blk e) (zg4 τ cs x (k+1))) (zj1 τ cs x (k+1))
 | .fn f a b,x,k=>by
  show (zg6 T id a x.1 k++zg6 T id b x.2 (k+za2 a)).map (Ent.ren τ)=zg6 T τ a x.1 k++zg6 T τ b x.2 (k+za2 a);rw [J9,zj1 τ a,zj1 τ b]
 | .agg cs,x,k=>zj1 τ cs x k
 | .ifc t s,x,k=>vu8 τ s x k
 | .val _,x,k=>rfl
 | .at_ _ _,x,k=>rfl
 | .own _,x,k=>rfl
 | .part _ _,x,k=>rfl
 | .nils,x,k=>rfl
 | .nilp,x,k=>rfl
 | .arr _ _,x,k=>rfl
 | .lp _ _,x,k=>rfl
 | .asp _ _ _ _,x,k=>rfl
 | .asn e cs _ _ _,x,k=>ys0 (congrArg (Ent.blk e) (zg4 τ cs x.1 (k+1))) (zj1 τ cs x.1 (k+1))
 | .ap _ _ _ _ _,x,k=>rfl
 | .mp d c cs,x,k=>ys0 (congrArg (Ent.map d) ((yo2 τ c _).trans (congrArg (yk0 c) (zg4 τ cs x (k+1))))) (zj1 τ cs x (k+1))
 | .mpo _,x,k=>rfl
 | .rw _,x,k=>rfl
 | .lpk _ _ _,x,k=>rfl
 | .tm _ _,x,k=>rfl
 | .dr _ _ _,x,k=>rfl
def zj1 (τ): ∀(l x k),(zg6 T id l x k).map (Ent.ren τ)=zg6 T τ l x k
 | [],x,k=>rfl
 |s::r,x,k=>by
  show (mkE T id s x.1 k++zg6 T id r x.2 (k+s.cnt)).map (Ent.ren τ)=mkE T τ s x.1 k++zg6 T τ r x.2 (k+s.cnt);rw [J9,vu8 τ s,zj1 τ r]
end
def jp3 (τ): ∀(ps x k),(mkP T id ps x k).map (Ent.ren τ)=mkP T τ ps x k
 | [],x,k=>rfl
 |p::r,x,k=>by
  show (ks6 T id p x.1 k).ren τ::(mkP T id r x.2 (k+p.cnt)).map (Ent.ren τ)=ks6 T τ p x.1 k::mkP T τ r x.2 (k+p.cnt);rw [jp3 τ r];cases p with
  |gone=>rfl
  |row e t=>rfl
  |tmap k t=>rfl
  |dr e d fe=>rfl
  |blk e cs=>exact ys0 (congrArg (Ent.blk e) (zg4 τ cs x.1 k)) rfl
  |map b a cs=>exact ys0 (congrArg (Ent.map b) ((yo2 τ a _).trans (congrArg (yk0 a) (zg4 τ cs x.1 k)))) rfl
def yz6 (τ): ∀(ps x k),(yd1 T id ps x k).map (Ent.ren τ)=yd1 T τ ps x k
 | [],x,k=>rfl
 |p::r,x,k=>by
  show (kn0 T id p x.1 k++yd1 T id r x.2 (k+p.cnt)).map (Ent.ren τ)=kn0 T τ p x.1 k++yd1 T τ r x.2 (k+p.cnt);rw [J9,yz6 τ r];cases p with
  |gone=>rfl
  |row e t=>rfl
  |tmap k t=>rfl
  |dr e d fe=>rfl
  |blk e cs=>exact gg4 (zj1 τ cs x.1 k) rfl
  |map b a cs=>exact gg4 (zj1 τ cs x.1 k) rfl
def kx4 (σ s x k):zh4 (mkA T σ s x k)=true:=by
 cases s with
 |val t=>exact yv8 t x
 |_=>rfl
def zt0 (σ): ∀(l x k),∀a∈zc0 T σ l x k,zh4 a=true
 | [],x,k,a,h=>by cases h
 |s::r,x,k,a,h=>by
  have h:a∈mkA T σ s x.1 k::zc0 T σ r x.2 (k+s.cnt):=h;rcases Z0.1 h with rfl|h
  ·exact kx4 σ s x.1 k
  ·exact zt0 σ r x.2 _ a h
def zl5 {ρ:Nat->Nat} {n:Nat} {as:List (AV T.U)} (h: ∀i∈v5 as,ρ i<n): ∀i∈v5 (zk1 ρ as),i<n:=by
 intro i a;rw [zv2] at a;obtain ⟨j,b,rfl⟩:=U7.1 a;exact h j b
def zp2 {ids}: ∀ {a},yh8 T H ids a=true->ids.length=a.length/\ ∀(k i:Nat) (e:TypeId) (t:Ty),ids[k]?=some i->a[k]?=some (.row e t)-> ∃xs,H[i]?=some (.row e t xs):=by
 induction ids with
 |nil=>
  intro a h;cases a with
  |nil=>exact ⟨rfl,fun k i e t h=>by simp at h⟩
  |cons _ _=>cases h
 |cons j r d=>
  intro a h;cases a with
  |nil=>cases h
  |cons p q=>
   unfold yh8 at h;simp only [X3] at h;obtain ⟨f,g⟩:=d h.2;refine ⟨by simp [f],fun k i e t b c=>?_⟩;cases k with
   |zero=>
    simp at b c;subst b;subst c;obtain ⟨xs,l⟩:=R5.1 h.1;exact ⟨xs,ya3 l⟩
   |succ k=>exact g k i e t (by simpa using b) (by simpa using c)
def yk8 {a:Nat->Nat}: ∀ {b:List PE} {x:zq1 T b} {k j:Nat} {e:TypeId} {t:Ty} {ys:List (den T.U t)},(mkP T a b x k)[j]?=some (.row e t ys)->b[j]?=some (.row e t)
 | [],x,k,j,e,t,ys,h=>by simp [mkP] at h
 |p::r,x,k,j,e,t,ys,h=>by
  have h:(ks6 T a p x.1 k::mkP T a r x.2 (k+p.cnt))[j]?=some (.row e t ys):=h;cases j with
  |succ j=>simp only [List.getElem?_cons_succ] at h⊢;exact yk8 h
  |zero=>
   simp only [Y4,X0] at h⊢;cases p with
   |gone=>cases h
   |row c d=>
    simp only [ks6,Ent.row.injEq] at h;obtain ⟨rfl,rfl,_⟩:=h;rfl
   |blk _ _=>cases h
   |map _ _ _=>cases h
   |tmap _ _=>cases h
   |dr _ _ _=>cases h
def ym4 {f:FuncId} {sp:GSpec T} {alt:CallSpec T} (hok:GOk T P f sp) (ha:u0 T P f alt):u0 T P f (sp.toCall alt):=by
 intro R as H K Kp r hr w0 S0 F F' w S φ h vs hvs has;simp only [GSpec.toCall] at hr;split at hr
 ·rename_i x l hx;split at hr
  ·rename_i hb;simp only [X3] at hb;obtain ⟨hn,hro⟩:=hb;obtain ⟨y,hy,hK⟩:=za0 hr;obtain ⟨new,g1,g2,g3⟩:=zd7 sp.ps as [] l x hx;have hl:l=new.map some:=by rw [g1.eq];rfl
   have hids:zb0 l=new:=by rw [hl,yb1]
   rw [hids] at hn hro hK;have hno:zn4 l=true:=by
    rw [hl];clear hK hro hids hx g1 g2 g3 hl;induction new with
    |nil=>rfl
    |cons i r ih=>
     rw [zd6,X3,V4] at hn;rw [U3,zn4,ih hn.2,Bool.and_true,V4];cases hm:qy2 i (r.map some) with
     |false=>rfl
     |true=>
      have:=yh4.1 hm;obtain ⟨j,hj,e⟩:=U7.1 this;simp only [X0] at e;subst e;rw [zb9.2 hj] at hn;exact absurd hn.1 (by simp)
   obtain ⟨q1,q2⟩:=g3 _ (yj4 hno);obtain ⟨hlen,hrow⟩:=zp2 hro;have hnewlen:new.length=za2 sp.ps:=g2;obtain ⟨c0,x0,p0⟩:=S0;have hs:=(h.unpin.src (l:=l) hno (fun k hk=>by simp at hk) (fun i e hi he j hj=>by
    rw [hl] at hi;obtain ⟨i',hi',e'⟩:=U7.1 hi;simp only [X0] at e';subst e';obtain ⟨e0,h1,_,h3⟩:=g1.ents i' hi';rw [he] at h1;simp only [X0] at h1;subst h1;exact h3 j hj))
   rw [show zj0 T H (fun i=>yv0 i l) l=ze9 T H (fun i=>yv0 i l) new by rw [hl,zy1]] at hs;have hs:=(hs.imp q2).start;rw [zc8,<-hnewlen] at hs;have hφc: ∀k i,new[k]?=some i->φO l φ k=φ i:=fun k i hk=>φO_at (by rw [hl,W4,hk];rfl);have hvs':VRL T w S (φO l φ) (zc0 T id sp.ps x 0) vs:=q1.vrl (VRL.ren T (fun i hi=>φO_idx (g1.ids i hi)) hvs);have hoks: ∀a∈zc0 T id sp.ps x 0,okA (zg6 T id sp.ps x 0) a:=fun a ha=>zd3 (zt0 id _ _ _ a ha) fun i hi=>by
    have hi:=zh0 ha i hi;rw [show v5 (zc0 T id sp.ps x 0)=_ from q1.ids] at hi;rw [zc8,<-hnewlen];refine zl5 (fun j hj=>?_) i hi;have:=(X2.1 (zm5 (g1.ids j hj))).1;rw [hl,V9] at this;rw [hl];exact this
   refine (hok x y hy w S (φO l φ) (by rw [<-hnewlen];exact hs) vs hvs' hoks).mono fun e w' hR=>?_;cases e with
   |returned v=>
    obtain ⟨F1,S1,φ1,us,k1,k2,rfl,k3⟩:=hR;rw [<-hnewlen] at k1;obtain ⟨φ2,m1,m2⟩:=h.join hn (fun i hi=>by obtain ⟨e,a,b,_⟩:=g1.ents i hi;exact ⟨e,a,b⟩) hφc k1 (by rw [zu1,hlen]) (fun k i e t ys hk hp=>hrow k i e t hk (yk8 hp));rw [jp3,J9,yz6,zj1] at m1;have hv2:VRL T w' S1 φ2 (zc0 T (σJ new H.length) sp.rs y.2 (sp.post.length+zf0 sp.post)) us:=by
     rw [<-zg4];rw [zu1,X9,yb2,zc8] at m2;generalize zc0 T id sp.rs y.2 (sp.post.length+zf0 sp.post)=rs at k2 k3;clear hK m1 k1;induction rs generalizing us with
     |nil=>cases us<;>exact k2
     |cons a r ih=>
      match us,k2 with
      |u::us,k2=>
       rw [zk1];exact ⟨m2 a u k2.1 fun i hi=>k3 i (by rw [v5];exact X4.2 (.inl hi)),ih _ k2.2 fun i hi=>k3 i (by rw [v5];exact X4.2 (.inr hi))⟩
    refine ⟨_,_,hK,S1,φ2,m1,yh7 hv2,?_⟩;have hlt: ∀i∈v5 (zc0 T (σJ new H.length) sp.rs y.2 (sp.post.length+zf0 sp.post)),i<(ze1 T H new (mkP T (σJ new H.length) sp.post y.1 sp.post.length)++(yd1 T (σJ new H.length) sp.post y.1 sp.post.length++zg6 T (σJ new H.length) sp.rs y.2 (sp.post.length+zf0 sp.post))).length:=by
     rw [<-zg4];refine zl5 fun j hj=>?_;have hj:=k3 j hj;rw [X9,X9,w7,yb2,zc8];by_cases hlt:j<new.length
     ·have hs:=σJ_lo (n:=H.length) hlt;obtain ⟨e,h1,_,_⟩:=g1.ents _ (X6 hs);have:=(X2.1 h1).1;omega
     ·rw [σJ_hi (by omega)];omega
    have hne:zh4 (zk3 T (zc0 T (σJ new H.length) sp.rs y.2 (sp.post.length+zf0 sp.post)))=true:=by
     unfold zk3;split
     ·rename_i a hl;exact zt0 (σJ new H.length) sp.rs y.2 _ a (by rw [hl];simp)
     ·rfl
    refine zd3 hne fun i hi=>hlt i ?_;unfold zk3 at hi;split at hi
    ·rename_i a hl;rw [hl,v5];exact X4.2 (.inl hi)
    ·rw [AV.ids] at hi;exact hi
   |panicked ch=>exact hR.elim
   |outgrown=>exact hR.elim
  ·cases hr
 ·exact ha as H K Kp r hr w0 S0 F F' w S φ h vs hvs has
def ug9 {c:GSpec T} {b} (D:yb4 b):yb4 (c.toCall b):=by
 intro R as H K E r d;simp only [GSpec.toCall] at d;split at d
 ·rename_i x l g;split at d
  ·rename_i o;obtain ⟨y,G,I⟩:=za0 d;simp only [X3] at o;obtain ⟨i,j⟩:=zp2 o.2;refine .inl ⟨_,_,I,?_,fun A m=>by simp only [GSpec.toCall,g,o.1,o.2,M6,G,z6]⟩;have p:(GSpec.toCall c b).wr as H=zb0 l:=by simp only [GSpec.toCall,g]
   rw [p];have B:(mkP T (σJ (zb0 l) H.length) c.post y.1 c.post.length).length=(zb0 l).length:=by rw [zu1,i]
   refine ⟨by rw [X9,w7];omega,fun e q J=>?_,fun e ty t ys q h=>?_⟩
   ·rw [X8 (by rw [w7];exact q)];obtain ⟨f,C⟩: ∃f,(ze1 T H (zb0 l) (mkP T (σJ (zb0 l) H.length) c.post y.1 c.post.length))[e]?=some f:=⟨_,Y0 (by rw [w7];exact q)⟩;rcases ze4 _ _ H B C with ⟨k,s,_⟩|⟨_,n⟩
    ·exact absurd (X6 s) J
    ·rw [C,n]
   ·rw [X8 (by rw [w7];exact q)] at h;rcases ze4 _ _ H B h with ⟨k,s,n⟩|⟨_,n⟩
    ·exact j k e ty t s (yk8 n)
    ·exact ⟨ys,n⟩
  ·cases d
 ·rename_i g;have p:(GSpec.toCall c b).wr as H=b.wr as H:=by simp only [GSpec.toCall,g]
  rcases D as H K E r d with ⟨a,H1,u,v,z⟩|⟨a,H1,u,v,z⟩
  ·exact .inl ⟨a,H1,u,by rw [p];exact v,fun A m=>by simp only [GSpec.toCall,g,z]⟩
  ·exact .inr ⟨a,H1,u,by rw [p];exact v,fun A m=>by simp only [GSpec.toCall,g,z]⟩
def yu5 {w0 S0 F F' w S}: ∀(l) {as us H φ},Sim T w0 S0 ⟨F,H⟩ F' w S φ->(∀i∈v5 as,i<H.length)->VRL T w S φ as us->
  ∃φ',Sim T w0 S0 ⟨F,(ks3 T l as H).2⟩ F' w S φ'/\VRL T w S φ' (ks3 T l as H).1 us
 | [],as,us,H,φ,h,m,f=>⟨φ,h,f⟩
 |(j,e,t,b)::r,as,us,H,φ,h,m,f=>by
  unfold ks3;split
  ·rename_i q;obtain ⟨v,s,g⟩:=f.get T q;rw [VR] at g;subst g;have u:=h.addNil e t;have n:VRL T w S (setR φ H.length ⟨none,0,0,[]⟩) as us:=f.phi fun i o=>zi5 (by have:=m i o;omega);have k:VR T w S (setR φ H.length ⟨none,0,0,[]⟩) (match b with|true=>AV.own H.length|false=>.sl H.length (szT T t) 0 0) (.slice none 0 0):=by
    cases b with
    |true=>rw [VR,w4]
    |false=>rw [VR,w4];exact ⟨none,rfl,W8 _,.inl rfl,fun _=>⟨rfl,rfl⟩,fun _=>rfl⟩
   have p:=n.set T j k;rw [show us.set j (.slice none 0 0)=us by
    obtain ⟨x,y⟩:=X2.1 s;rw [<-y,M3]] at p
   refine yu5 r u (fun i o=>?_) p;obtain ⟨a,c,d⟩:=zt9 o;rcases M0 c with c|c
   ·have:=m i (zh0 c i d);simp;omega
   ·subst c;cases b<;>simp [AV.ids] at d<;>subst d<;>simp
  ·exact yu5 r h m f
def yi7 {w0 S0 F F' w S H φ} (h:Sim T w0 S0 ⟨F,H⟩ F' w S φ): ∀(l) {as us},VRL T w S φ as us->VRL T w S φ (ks2 T l as H) us
 | [],as,us,a=>a
 |j::r,as,us,a=>by
  unfold ks2;split
  ·rename_i i p;split
   ·rename_i e t xs q;refine yi7 h r ?_;obtain ⟨v,s,b⟩:=a.get T p;obtain ⟨B,m,g,o,z,A,C⟩:=h.ents i _ q;rw [VR] at b;subst b;rw [o] at g;have d:VR T w S φ (.sl i (szT T t) 0 xs.length) (.slice (φ i).ad (φ i).n (φ i).cap):=by
     refine ⟨(φ i).ad,?_,?_,?_,fun k=>g.nil0 k,fun _=>rfl⟩
     ·show Value.slice (φ i).ad (φ i).n (φ i).cap=Value.slice (φ i).ad xs.length ((φ i).cap-0);rw [o];rfl
     ·show 0+xs.length<=(φ i).cap;rw [U2];exact g.le.1
     rcases g.cases with ⟨_,k,_⟩|⟨c,f,_⟩
     ·exact .inl k
     ·refine .inr ⟨_,f,f.trans ?_⟩;show some (⟨_,0,none⟩:Addr)=some ⟨_,0+0*_,none⟩;rw [M5]
    have u:=a.set T j d;rwa [show us.set j (.slice (φ i).ad (φ i).n (φ i).cap)=us by
     obtain ⟨x,y⟩:=X2.1 s;rw [<-y,M3]] at u
   ·exact yi7 h r a
  ·exact yi7 h r a
end
end Go.X
namespace Go.X
open Go.RowKit Go.V
section
variable {T:Tab} {P:Program} {w w':World} {S S':List Nat} {φ φ':Nat->RA} {w0:World} {S0:Ow} {F:AF T} {H:List (Ent T.U)} {F':PF}
def vb5 {H}: ∀(ps j l l' x),rdP T H ps j l=some (x,l')->
  ∃v,l'=l++v.map some/\v.length=zf0 ps/\(∀i∈v,∃e,H[i]?=some e/\e.live=true/\ ∀j∈e.cellIds,some j∈l')/\(∀i,some i∈zv3 ps j-> ∃e,H[i]?=some e/\ ∀j∈e.cellIds,some j∈l')/\
   ∀ρ,Places ρ l'->ImpH T (zj0 T H ρ (zv3 ps j)) (mkP T id ps x l.length)/\ImpH T (ze9 T H ρ v) (yd1 T id ps x l.length)
 | [],j,l,l',x,h=>by
  simp only [rdP,X0,X7] at h;obtain ⟨_,rfl⟩:=h;exact ⟨[],by simp,rfl,(by intro i f;cases f),(by intro i f;cases f),fun ρ g=>⟨.nil,.nil⟩⟩
 |p::r,j,l,l',x,h=>by
  unfold rdP at h;split at h<;>try (cases h;done)
  rename_i y E k;obtain ⟨z,V,rfl⟩:=zl8 h;obtain ⟨G,A,I,J,K,L⟩:=vb5 r (j+1) E l' z V;have m: ∀i,some i∈E->some i∈l':=fun i f=>by rw [A];exact X4.2 (.inl f)
  cases p with
  |gone=>
   simp only [ks7,X0,X7] at k;obtain ⟨_,rfl⟩:=k;refine ⟨G,A,by rw [I];show _=0+zf0 r;omega,J,fun i f=>?_,fun ρ g=>?_⟩
   ·have f:some i∈none::zv3 r (j+1):=f;exact K i (by simpa using f)
   ·obtain ⟨o,q⟩:=L ρ g;exact ⟨.cons (.same _) o,q⟩
  |row e t=>
   simp only [ks7] at k;split at k<;>try (cases k;done)
   rename_i xs n;simp only [X0,X7] at k;obtain ⟨rfl,rfl⟩:=k;have n:=ya3 n;refine ⟨G,A,by rw [I];show _=0+zf0 r;omega,J,fun i f=>?_,fun ρ g=>?_⟩
   ·have f:some i∈some j::zv3 r (j+1):=f;rcases Z0.1 f with f|f
    ·simp only [X0] at f;subst f;exact ⟨_,n,by intro j s;cases s⟩
    ·exact K i f
   ·obtain ⟨o,q⟩:=L ρ g;refine ⟨?_,q⟩;show ImpH T ((match H[j]? with|some e=>e.ren ρ|none=>.gone)::zj0 T H ρ (zv3 r (j+1))) _;rw [n];exact .cons (.same _) o
  |tmap U t=>
   simp only [ks7] at k;split at k<;>try (cases k;done)
   rename_i xs n;simp only [X0,X7] at k;obtain ⟨rfl,rfl⟩:=k;have n:=qh4 n;refine ⟨G,A,by rw [I];show _=0+zf0 r;omega,J,fun i f=>?_,fun ρ g=>?_⟩
   ·have f:some i∈some j::zv3 r (j+1):=f;rcases Z0.1 f with f|f
    ·simp only [X0] at f;subst f;exact ⟨_,n,by intro j s;cases s⟩
    ·exact K i f
   ·obtain ⟨o,q⟩:=L ρ g;refine ⟨?_,q⟩;show ImpH T ((match H[j]? with|some e=>e.ren ρ|none=>.gone)::zj0 T H ρ (zv3 r (j+1))) _;rw [n];exact .cons (.same _) o
  |dr e d fe=>
   simp only [ks7] at k;split at k<;>try (cases k;done)
   rename_i xs n;simp only [X0,X7] at k;obtain ⟨rfl,rfl⟩:=k;have n:=jd2 n;refine ⟨G,A,by rw [I];show _=0+zf0 r;omega,J,fun i f=>?_,fun ρ g=>?_⟩
   ·have f:some i∈some j::zv3 r (j+1):=f;rcases Z0.1 f with f|f
    ·simp only [X0] at f;subst f;exact ⟨_,n,by intro j s;cases s⟩
    ·exact K i f
   ·obtain ⟨o,q⟩:=L ρ g;refine ⟨?_,q⟩;show ImpH T ((match H[j]? with|some e=>e.ren ρ|none=>.gone)::zj0 T H ρ (zv3 r (j+1))) _;rw [n];exact .cons (.same _) o
  |blk e cs=>
   simp only [ks7] at k;split at k<;>try (cases k;done)
   rename_i as B;have B:=zr6 B;obtain ⟨N,C,M,O⟩:=zd7 cs as l E y k;have u:E.length=l.length+za2 cs:=by rw [C.eq,X9,V9,M]
   refine ⟨N++G,by rw [A,C.eq,J9,Q4],by rw [X9,M,I];rfl,fun i f=>?_,fun i f=>?_,fun ρ g=>?_⟩
   ·rcases X4.1 f with f|f
    ·obtain ⟨e,a,b,c⟩:=C.ents i f;exact ⟨e,a,b,fun j s=>m j (c j s)⟩
    ·exact J i f
   ·have f:some i∈some j::zv3 r (j+1):=f;rcases Z0.1 f with f|f
    ·simp only [X0] at f;subst f;exact ⟨_,B,fun j s=>m j (C.ids j s)⟩
    ·exact K i f
   ·obtain ⟨o,q⟩:=L ρ g;obtain ⟨Q,R⟩:=O ρ (by rw [A] at g;exact g.pre);rw [u] at o q;refine ⟨?_,by rw [zr7];exact R.app q⟩;show ImpH T ((match H[j]? with|some e=>e.ren ρ|none=>.gone)::zj0 T H ρ (zv3 r (j+1))) _;rw [B];exact .cons (.blk Q) o
  |map U D cs=>
   simp only [ks7] at k;split at k<;>try (cases k;done)
   rename_i as B;have B:=jp2 B;obtain ⟨N,C,M,O⟩:=zd7 cs as l E y k;have u:E.length=l.length+za2 cs:=by rw [C.eq,X9,V9,M]
   refine ⟨N++G,by rw [A,C.eq,J9,Q4],by rw [X9,M,I];rfl,fun i f=>?_,fun i f=>?_,fun ρ g=>?_⟩
   ·rcases X4.1 f with f|f
    ·obtain ⟨e,a,b,c⟩:=C.ents i f;exact ⟨e,a,b,fun j s=>m j (c j s)⟩
    ·exact J i f
   ·have f:some i∈some j::zv3 r (j+1):=f;rcases Z0.1 f with f|f
    ·simp only [X0] at f;subst f;exact ⟨_,B,fun j s=>m j (C.ids j (jw2 D as j s))⟩
    ·exact K i f
   ·obtain ⟨o,q⟩:=L ρ g;obtain ⟨Q,R⟩:=O ρ (by rw [A] at g;exact g.pre);rw [u] at o q;refine ⟨?_,by rw [zr7];exact R.app q⟩;show ImpH T ((match H[j]? with|some e=>e.ren ρ|none=>.gone)::zj0 T H ρ (zv3 r (j+1))) _;rw [B];refine .cons ?_ o;show ImpE T (.map U (ql7 ρ (yk0 D as))) _;rw [yo2];exact .map Q
def zq8: ∀(ps j),(zv3 ps j).length=ps.length
 | [],j=>rfl
 | .gone::r,j=>by simp [zv3,zq8 r]
 | .row _ _::r,j=>by simp [zv3,zq8 r]
 | .tmap _ _::r,j=>by simp [zv3,zq8 r]
 | .dr _ _ _::r,j=>by simp [zv3,zq8 r]
 | .blk _ _::r,j=>by simp [zv3,zq8 r]
 | .map _ _ _::r,j=>by simp [zv3,zq8 r]
def vy9: ∀(ps j k),k<ps.length->(zv3 ps j)[k]?=some (some (j+k))\/(zv3 ps j)[k]?=some none
 | [],j,k,h=>by simp at h
 |p::r,j,0,h=>by cases p<;>simp [zv3]
 |p::r,j,k+1,h=>by
  have:=vy9 r (j+1) k (by simpa using h);rw [show j+1+k=j+(k+1) by omega] at this;cases p<;>simpa [zv3] using this
def zg5 {w0 S0 F F' w S}: ∀(l) {as us H φ},Sim T w0 S0 ⟨F,H⟩ F' w S φ->VRL T w S φ as us->(∀i∈v5 as,i<H.length)->
  ∃φ',Sim T w0 S0 ⟨F,zf2 T l H⟩ F' w S φ'/\VRL T w S φ' as us/\ ∀i∈v5 as,i<(zf2 T l H).length
 | [],as,us,H,φ,h,d,f=>⟨φ,h,d,f⟩
 |(i,c,e,t)::r,as,us,H,φ,h,d,a=>by
  unfold zf2;split
  ·obtain ⟨z,s,u,A⟩:=h.closeL (List.range H.length);exact zg5 r s (d.phiS fun i _=>u i) fun i m=>by rw [A];exact a i m
  split
  ·rename_i e0 cs f;split
   ·rename_i x;have s:=h.addNil e t;have n:=(X2.1 f).1;obtain ⟨g,B,C,D,E,G⟩:=s.ents i _ (by rw [X8 n];exact f);have u:=s.upd (i:=i) (e0:=.blk e0 cs) (e:=.blk e0 (cs.set c (.own H.length))) (Tc:= []) (w':=w) (by rw [X8 n];exact f) rfl (Chg.refl [] w) (by simp)
     ⟨g,B,C,D,E,BR.swap (b:=.own H.length) rfl rfl (fun v d=>by rw [VR] at d;subst d;rw [VR,w4]) G x⟩
     (by
      intro j y;rw [Ent.cellIds] at y;obtain ⟨b,p,o⟩:=zt9 y;rcases M0 p with p|p
      ·have:=h.eids i _ f j (by rw [Ent.cellIds];exact zh0 p j o);simp at this⊢;omega
      ·subst p;simp [AV.ids] at o;subst o;simp) (by intro _ _ _ h;cases h)
    have q:(H++ [Ent.row e t []]).set i (.blk e0 (cs.set c (.own H.length)))=H.set i (.blk e0 (cs.set c (.own H.length)))++ [.row e t []]:=by
     rw [List.set_append_left _ _ n]
    rw [q] at u;exact zg5 r u (d.phi fun i m=>zi5 (by have:=a i m;omega)) fun i m=>by have:=a i m;simp;omega
   ·rename_i k x;split
    ·split
     ·rename_i J K xs I;exact zg5 r (h.cellSl f x I) d fun i m=>by have:=a i m;simpa using this
     ·exact zg5 r h d a
    ·exact zg5 r h d a
   ·exact zg5 r h d a
  ·exact zg5 r h d a
end
section
variable (T:Tab)
def jn2 (a:List PE) (rs:List Sh) (y:zq1 T a) (z:zd9 T rs) (w:World) (S:List Nat) (φ:Nat->RA) (b:Nat) (w':World) (us:List Value):Prop:=
 ∃(d:PF) (S1:List Nat) (c:Nat->RA),Sim T w ⟨zd5 φ b,S,(List.range b).map φ⟩ ⟨[],mkP T id a y a.length++(yd1 T id a y a.length++zg6 T id rs z (a.length+zf0 a))⟩ d w' S1 c/\
  VRL T w' S1 c (zc0 T id rs z (a.length+zf0 a)) us/\ ∀i∈v5 (zc0 T id rs z (a.length+zf0 a)),i<a.length+(zf0 a+za2 rs)
end
section
variable {T:Tab} {P:Program} {w w':World} {S S':List Nat} {φ φ':Nat->RA} {w0:World} {S0:Ow} {F:AF T} {H:List (Ent T.U)} {F':PF}
def qm5 {c a} (u:a.length=c) {rs as st v z t l2 O x S1 p us}
  (Q:rdP T st.H a 0 (zv3 a 0)=some (v,t)) (R:zm8 T st.H rs as t=some (z,l2)) (G:zn4 l2=true)
  (y:Sim T w ⟨zd5 φ c,S,(List.range c).map φ⟩ st O x S1 p) (A:VRL T x S1 p as us):jn2 T a rs v z w S φ c x us:=by
 obtain ⟨I,J,U,V,X,Y⟩:=vb5 a 0 _ _ v Q;obtain ⟨B,d,Z,k3⟩:=zd7 rs as _ _ z R;have f: ∀i,some i∈t->some i∈l2:=fun i b=>by rw [d.eq];exact X4.2 (.inl b)
 have h:l2=zv3 a 0++(I.map some++B.map some):=by rw [d.eq,J,Q4]
 have q:t.length=a.length+zf0 a:=by rw [J,X9,V9,U,zq8]
 have r:=yj4 G;obtain ⟨K,L⟩:=Y (fun i=>yv0 i l2) (Places.pre (m:=B.map some) (by rw [<-d.eq];exact r));obtain ⟨C,M⟩:=k3 _ r;rw [zq8] at K L;rw [q] at C M;have N:=y.src (l:=l2) G (fun k hk=>by
  simp at hk;rw [h,X8 (by rw [zq8];omega)];have:=vy9 a 0 k (by omega);rwa [U2] at this) (fun i e b D j s=>by
  rw [h] at b;rcases X4.1 b with b|b
  ·obtain ⟨g,p1,p2⟩:=X i b;rw [D] at p1;simp only [X0] at p1;subst p1;exact f j (p2 j s)
  ·rcases X4.1 b with b|b
   ·obtain ⟨E,n,g⟩:=U7.1 b;simp only [X0] at g;subst g;obtain ⟨g,p1,_,p2⟩:=V E n;rw [D] at p1;simp only [X0] at p1;subst p1;exact f j (p2 j s)
   ·obtain ⟨E,n,g⟩:=U7.1 b;simp only [X0] at g;subst g;obtain ⟨g,p1,_,p2⟩:=d.ents E n;rw [D] at p1;simp only [X0] at p1;subst p1;exact p2 j s)
 have o:zj0 T st.H (fun i=>yv0 i l2) l2=zj0 T st.H (fun i=>yv0 i l2) (zv3 a 0)++(ze9 T st.H (fun i=>yv0 i l2) I++ze9 T st.H (fun i=>yv0 i l2) B):=by
  conv=>lhs;arg 4;rw [h]
  rw [yp0,yp0,zy1,zy1]
 rw [o] at N;refine ⟨[],S1,_,N.imp (K.app (L.app M)),C.vrl (VRL.ren T (fun i b=>φO_idx (d.ids i b)) A),?_⟩;intro i b;rw [C.ids] at b;refine zl5 (fun j s=>?_) i b;have:=(X2.1 (zm5 (d.ids j s))).1;rw [d.eq,X9,V9,Z,q] at this;rw [d.eq];omega
def yn4 {f n ds fn g d rs} (e:d.length=f) {k u} (b:yc0 T P fn g d rs k=some u) {I t}
  (l:zc4 T w ⟨zd5 φ f,S,(List.range f).map φ⟩ k I t) {a} (J:Fr n ds I a): ∃v,(results fn a.tmps).run P t=.ok v t/\ ∃us,jn2 T d rs u.1 u.2 w S φ f t us/\v=yf2 us:=by
 unfold yc0 at b;split at b<;>try (cases b;done)
 rename_i K m;obtain ⟨S1,L,c⟩:=l;obtain ⟨us,x,y⟩:=jg8 c J m;split at b<;>try (cases b;done)
 rename_i A M N;obtain ⟨O,o,B,p⟩:=yi8 (by simp [e]) g.w N c.noF y (yz0 (P:=P) c m);obtain ⟨Q,q,C,D⟩:=zg5 g.bn o B p;obtain ⟨R,j,r⟩:=yu5 g.rs q D C;have h:=yi7 j g.ow r;simp only at b;generalize U:ks3 T g.rs A (zf2 T g.bn M)=pr at b j h;obtain ⟨E,V⟩:=pr;simp only at h b;generalize ks2 T g.ow E V=as at b h;obtain ⟨X,H2,S2,i,s,G⟩:=yu6 g.z b j h;unfold wr1 at i;split at i<;>try (cases i;done)
 rename_i y1 l1 Y;split at i<;>try (cases i;done)
 rename_i z l2 Z;split at i<;>try (cases i;done)
 rename_i hn;simp only [X0] at i;subst i;exact ⟨_,x,us,qm5 (st:=⟨[],H2⟩) e Y Z hn s G,rfl⟩
def uh5 {C f fn c D d rs V b g} (Z:P.follows .mixedOrders=true) (hE:zb4 T P C.E)
  (hf:P.funcs[f]?=some fn) (hb:fn.body=some c) (hs:Nat.ble d.length fn.ntmps=true) (G:Nat.ble (za2 d) C.pin=true) (j:Nat.beq b.length (za2 d)=true)
  (hg: ∀x y,g x=some y-> ∃m,topG T P C D fn c V d b rs m x=some y):GOk T P f ⟨d,b,rs,g⟩:=by
 intro x y hy w S φ I vs J K;obtain ⟨N,hN⟩:=hg x y hy;have j:=X1 j;have L:(zc0 T id d x 0).length=d.length:=by
  have: ∀(l:List Sh) (x:zd9 T l) (k:Nat),(zc0 T id l x k).length=l.length:=by
   intro l;induction l with
   |nil=>intro x k;rfl
   |cons s r ih=>intro x k;exact congrArg (· +1) (ih x.2 _)
  exact this d x 0
 have M:vs.length=d.length:=by rw [<-J.len T];exact L
 have hsz:vs.length<=fn.ntmps:=by rw [M];exact Y1 hs
 have X:Fr fn.ntmps [] (jf8 vs 0) {tmps:=vs.toArray++Array.replicate (fn.ntmps-vs.toArray.size) undef,defers:= []}:=by
  refine ⟨by simp;omega,rfl,fun i v hv=>?_⟩;obtain ⟨_,z⟩:=ya5 vs 0 i v hv;simp only [M1] at z;have hi:=(X2.1 z).1;refine ⟨?_,by omega⟩;rw [Y7,Array.getElem?_append_left (by simpa using hi)];simp [z]
 have u:=I.slots J K;have n:((List.range (za2 d)).map φ).length<=C.pin:=by simpa using Y1 G
 have O: ∀st,yc0 T P fn V b rs st=some y-> ∀o t,zc4 T w ⟨zd5 φ (za2 d),S,(List.range (za2 d)).map φ⟩ st o t-> ∀a,Fr fn.ntmps [] o a-> ∃v,(results fn a.tmps).run P t=.ok v t/\
   ∃(o:PF) (S1:List Nat) (p:Nat->RA) (us:List Value),Sim T w ⟨zd5 φ (za2 d),S,(List.range (za2 d)).map φ⟩ ⟨[],mkP T id b y.1 b.length++(yd1 T id b y.1 b.length++zg6 T id rs y.2 (b.length+zf0 b))⟩ o t S1 p/\
    VRL T t S1 p (zc0 T id rs y.2 (b.length+zf0 b)) us/\v=yf2 us/\ ∀i∈v5 (zc0 T id rs y.2 (b.length+zf0 b)),i<b.length+(zf0 b+za2 rs):=by
  intro st0 q o t Q a A;obtain ⟨v,R,us,⟨F2,S2,Y,k1,k2,k3⟩,h3⟩:=yn4 j q Q A;exact ⟨v,R,F2,S2,Y,us,k1,k2,h3,k3⟩
 have U:KsOk (bodyPost P fn fun e w'=>match e with
   | .returned v=> ∃(o:PF) (S1:List Nat) (p:Nat->RA) (us:List Value),Sim T w ⟨zd5 φ (za2 d),S,(List.range (za2 d)).map φ⟩ ⟨[],mkP T id b y.1 b.length++(yd1 T id b y.1 b.length++zg6 T id rs y.2 (b.length+zf0 b))⟩ o w' S1 p/\
    VRL T w' S1 p (zc0 T id rs y.2 (b.length+zf0 b)) us/\v=yf2 us/\ ∀i∈v5 (zc0 T id rs y.2 (b.length+zf0 b)),i<b.length+(zf0 b+za2 rs)
   |_=>False) fn.ntmps [] w ⟨zd5 φ (za2 d),S,(List.range (za2 d)).map φ⟩ y (jk5 T P fn V b rs):=by
  refine ⟨?_,fun i st h=>(by cases h),?_,fun a st h=>(by cases h)⟩
  ·intro st q o t B a A;obtain ⟨v,R,z⟩:=O st q o t B a A;exact ⟨A.defers,v,R,z⟩
  ·intro st q o t B a A;obtain ⟨v,R,z⟩:=O st q o t B a A;exact ⟨A.defers,v,R,z⟩
 exact calls_of_wp hf hb (zf7 Z n hE c [] _ _ _ _ w hN U (JOk.run Z n hE U N) ⟨S,φ,u⟩ _ X)
def q7 (f):u0 T P f (za8 T)/\zi6 T P f (za8 T)/\yb4 (za8 T):=
 ⟨fun _ _ _ _ _ h=>(by cases h),fun _ _ _ _ h=>(by cases h),fun _ _ _ _ _ h=>(by cases h)⟩
def zd2 {f a} (h:kr8 T P f a):u0 T P f a.toCall/\zi6 T P f a.toCall/\yb4 a.toCall:=⟨qi6 h,kk4 h,wf7 a⟩
def v9 {f b a} (h:GOk T P f b) (c:u0 T P f a/\zi6 T P f a/\yb4 a):u0 T P f (b.toCall a)/\zi6 T P f (b.toCall a)/\yb4 (b.toCall a):=⟨ym4 h c.1,c.2.1,ug9 c.2.2⟩
def zn0 {f cs E} (h:u0 T P f cs/\zi6 T P f cs/\yb4 cs) (c:zb4 T P E):zb4 T P ((f,cs)::E):=by
 intro g b a;unfold qn3 at a;split at a
 ·rename_i d;have:=X1 d;subst this;simp only [X0] at a;subst a;exact h
 ·exact c g b a
end
end Go.X
