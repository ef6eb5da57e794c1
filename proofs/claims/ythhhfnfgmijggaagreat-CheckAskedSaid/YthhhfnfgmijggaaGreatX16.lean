import Derived.Test.YthhhfnfgmijggaaGreatX15
namespace Go.X
open Go.RowKit Go.V
inductive Sh where
 |val (t:Ty)
 |row (e:TypeId) (t:Ty)
 |slr (e:TypeId) (t:Ty)
 |ptr (o:Nat) (e:TypeId) (cs:List Sh)
 |slb (sz n:Nat) (e:TypeId) (cs:List Sh)
 |at_ (i o:Nat)
 |own (i:Nat)
 |part (i sz:Nat)
 |fn (f:FuncId) (a b:List Sh)
 |agg (cs:List Sh)
 |ifc (t:TypeId) (s:Sh)
 |nils
 |nilp
 |arr (t:Ty) (n:Nat)
 |lp (e:Ty) (o:Nat)
 |asp (i o sz n:Nat)
 |asn (e:TypeId) (cs:List Sh) (o sz n:Nat)
 |ap (i o sz n c:Nat)
 |mp (k:IntKind) (keys:List Int) (cs:List Sh)
 |mpo (i:Nat)
 |rw (n:Nat)
 |lpk (e:Ty) (k o:Nat)
 |tm (k:IntKind) (t:Ty)
 |dr (e:TypeId) (d:Nat) (fe:List TypeId)
section
variable (T:Tab)
mutual
def Sh.den:Sh->Type
 | .val t=>den T.U t
 | .row _ t=>List (den T.U t)
 | .slr _ t=>List (den T.U t)×Nat×Nat
 | .ptr _ _ cs=>zd5 cs
 | .slb _ _ _ cs=>zd5 cs
 | .at_ _ _=>Unit
 | .own _=>Unit
 | .part _ _=>Nat×Nat
 | .fn _ a b=>zd5 a×zd5 b
 | .agg cs=>zd5 cs
 | .ifc _ s=>s.den
 | .nils=>Unit
 | .nilp=>Unit
 | .arr t _=>List (den T.U t)
 | .lp e _=>List (den T.U e)×Nat
 | .asp _ _ _ _=>Nat×Nat
 | .asn _ cs _ _ _=>zd5 cs×Nat×Nat
 | .ap _ _ _ _ _=>Nat
 | .mp _ _ cs=>zd5 cs
 | .mpo _=>Unit
 | .rw _=>Unit
 | .lpk e _ _=>List (den T.U e)
 | .tm _ t=>List (Int×den T.U t)
 | .dr _ d _=>List (T.U d)
def zd5:List Sh->Type
 | []=>Unit
 |s::r=>s.den×zd5 r
end
mutual
def Sh.cnt:Sh->Nat
 | .row _ _=>1
 | .slr _ _=>1
 | .ptr _ _ cs=>1+zb3 cs
 | .slb _ _ _ cs=>1+zb3 cs
 | .fn _ a b=>zb3 a+zb3 b
 | .agg cs=>zb3 cs
 | .ifc _ s=>s.cnt
 | .asn _ cs _ _ _=>1+zb3 cs
 | .mp _ _ cs=>1+zb3 cs
 | .tm _ _=>1
 | .dr _ _ _=>1
 |_=>0
def zb3:List Sh->Nat
 | []=>0
 |s::r=>s.cnt+zb3 r
end
def uv0:Nat->Value
 |0=>.nilFunc
 |1=>.nilIface
 |2=>.map none
 |_=>.pointer none
def yf3 {U:Nat->Type}:List Int->List (AV U)->List (Int×AV U)
 |x::r,a::s=>(x,a)::yf3 r s
 |_,_=> []
mutual
def mkA (σ:Nat->Nat):(s:Sh)->s.den T->Nat->AV T.U
 | .val t,x,_=>zn1 T t x
 | .row _ _,_,k=>.own (σ k)
 | .slr _ t,x,k=>.sl (σ k) (szT T t) x.2.1 x.2.2
 | .ptr o _ _,_,k=>.ptr (σ k) o
 | .slb sz n _ _,_,k=>.sl (σ k) sz 0 n
 | .at_ i o,_,_=>.ptr (σ i) o
 | .own i,_,_=>.own (σ i)
 | .part i sz,x,_=>.sl (σ i) sz x.1 x.2
 | .fn f a b,x,k=>.fn (.func f) (zc4 σ a x.1 k) (zc4 σ b x.2 (k+zb3 a))
 | .agg cs,x,k=>.agg (zc4 σ cs x k)
 | .ifc t s,x,k=>.ifc t (mkA σ s x k)
 | .nils,_,_=>.raw (.slice none 0 0)
 | .nilp,_,_=>.raw (.pointer none)
 | .arr t n,x,_=>.arr t n x
 | .lp e o,x,_=>.lptr e x.1 x.2 o
 | .asp i o sz n,x,_=>.asl (σ i) o sz n x.1 x.2
 | .asn _ _ o sz n,x,k=>.asl (σ k) o sz n x.2.1 x.2.2
 | .ap i o sz n c,x,_=>.aptr (σ i) o sz n x c
 | .mp _ _ _,_,k=>.mp (σ k)
 | .mpo i,_,_=>.mp (σ i)
 | .rw n,_,_=>.raw (uv0 n)
 | .lpk e k o,x,_=>.lptr e x k o
 | .tm _ _,_,k=>.mp (σ k)
 | .dr _ _ _,_,k=>.own (σ k)
def zc4 (σ:Nat->Nat):(l:List Sh)->zd5 T l->Nat->List (AV T.U)
 | [],_,_=> []
 |s::r,x,k=>mkA σ s x.1 k::zc4 σ r x.2 (k+s.cnt)
end
mutual
def mkE (σ:Nat->Nat):(s:Sh)->s.den T->Nat->List (Ent T.U)
 | .row e t,x,_=> [.row e t x]
 | .slr e t,x,_=> [.row e t x.1]
 | .ptr _ e cs,x,k=>.blk e (zc4 T σ cs x (k+1))::zg5 σ cs x (k+1)
 | .slb _ _ e cs,x,k=>.blk e (zc4 T σ cs x (k+1))::zg5 σ cs x (k+1)
 | .fn _ a b,x,k=>zg5 σ a x.1 k++zg5 σ b x.2 (k+zb3 a)
 | .agg cs,x,k=>zg5 σ cs x k
 | .ifc _ s,x,k=>mkE σ s x k
 | .val _,_,_=> []
 | .at_ _ _,_,_=> []
 | .own _,_,_=> []
 | .part _ _,_,_=> []
 | .nils,_,_=> []
 | .nilp,_,_=> []
 | .arr _ _,_,_=> []
 | .lp _ _,_,_=> []
 | .asp _ _ _ _,_,_=> []
 | .asn e cs _ _ _,x,k=>.blk e (zc4 T σ cs x.1 (k+1))::zg5 σ cs x.1 (k+1)
 | .ap _ _ _ _ _,_,_=> []
 | .mp kd keys cs,x,k=>.map kd (yf3 keys (zc4 T σ cs x (k+1)))::zg5 σ cs x (k+1)
 | .mpo _,_,_=> []
 | .rw _,_,_=> []
 | .lpk _ _ _,_,_=> []
 | .tm kd t,x,_=> [.tmap kd t x]
 | .dr e d fe,x,_=> [.drow e d fe x none]
def zg5 (σ:Nat->Nat):(l:List Sh)->zd5 T l->Nat->List (Ent T.U)
 | [],_,_=> []
 |s::r,x,k=>mkE σ s x.1 k++zg5 σ r x.2 (k+s.cnt)
end
abbrev Src:=List (Option Nat)
def qc7 (H:List (Ent T.U)) (e:TypeId) (t:Ty) (i:Nat):Option (List (den T.U t)):=
 match H[i]? with
 |some (.row e' t' xs)=>match Nat.beq e' e with|true=>(if h:t'=t then some (h▸xs) else none)|false=>none
 |_=>none
def qd0 (H:List (Ent T.U)) (e:TypeId) (i:Nat):Option (List (AV T.U)):=
 match H[i]? with
 |some (.blk e' cs)=>match Nat.beq e' e with|true=>some cs|false=>none
 |_=>none
def yn4 (l:Src) (p i:Nat):Bool:=match l[p]? with|some (some j)=>Nat.beq j i|_=>false
def qf7 {α β γ:Type} (f:α->β):Option (α×γ)->Option (β×γ)
 |some (x,l)=>some (f x,l)
 |none=>none
def gq9 {U:Nat->Type}:AV U->Option Nat| .own i=>some i|_=>none
def slI {U:Nat->Type}:AV U->Option (Nat×Nat×Nat×Nat)| .sl i sz o n=>some (i,sz,o,n)|_=>none
def wc8 {U:Nat->Type}:AV U->Option (Nat×Nat)| .ptr i o=>some (i,o)|_=>none
def fnI {U:Nat->Type}:AV U->Option (FuncId×List (AV U)×List (AV U))| .fn (.func f) a b=>some (f,a,b)|_=>none
def uh8 {U:Nat->Type}:AV U->Option (List (AV U))| .agg cs=>some cs|_=>none
def ui6 {U:Nat->Type}:AV U->Option (TypeId×AV U)| .ifc t a=>some (t,a)|_=>none
def gc3 {U:Nat->Type}:AV U->Bool| .raw (.slice none 0 0)=>true|_=>false
def gc4 {U:Nat->Type} (t:Ty) (n:Nat):AV U->Option (List (den U t))
 | .arr t' n' xs=>match Nat.beq n' n with|true=>(if h:t'=t then some (h▸xs) else none)|false=>none
 |_=>none
def lpI {U:Nat->Type} (e:Ty) (o:Nat):AV U->Option (List (den U e)×Nat)
 | .lptr e' xs k o'=>match Nat.beq o' o with|true=>(if h:e'=e then some (h▸xs,k) else none)|false=>none
 |_=>none
def we4 {U:Nat->Type}:AV U->Option (Nat×Nat×Nat×Nat×Nat×Nat)| .asl i o sz n lo m=>some (i,o,sz,n,lo,m)|_=>none
def gf4 {U:Nat->Type}:AV U->Option (Nat×Nat×Nat×Nat×Nat×Nat)| .aptr i o sz n k c=>some (i,o,sz,n,k,c)|_=>none
def mpI {U:Nat->Type}:AV U->Option Nat| .mp i=>some i|_=>none
def ui8 {U:Nat->Type} (n:Nat):AV U->Bool
 | .raw .nilFunc=>Nat.beq n 0
 | .raw .nilIface=>Nat.beq n 1
 | .raw (.map none)=>Nat.beq n 2
 |_=>false
def qe6 {U:Nat->Type}:List Int->List (Int×AV U)->Bool
 | [],[]=>true
 |x::r,(y,_)::s=>match gs6 x y with|true=>qe6 r s|false=>false
 |_,_=>false
def kd0 (H:List (Ent T.U)) (k:IntKind) (keys:List Int) (i:Nat):Option (List (AV T.U)):=
 match H[i]? with
 |some (.map k' es)=>match zi0 k' k&&qe6 keys es with|true=>some (es.map Prod.snd)|false=>none
 |_=>none
def wd8 (H:List (Ent T.U)) (k:IntKind) (t:Ty) (i:Nat):Option (List (Int×den T.U t)):=
 match H[i]? with
 |some (.tmap k' t' xs)=>match zi0 k' k with|true=>(if h:t'=t then some (h▸xs) else none)|false=>none
 |_=>none
def wf5 (H:List (Ent T.U)) (e:TypeId) (d:Nat) (fe:List TypeId) (i:Nat):Option (List (T.U d)):=
 match H[i]? with
 |some (.drow e' d' fe' xs none)=>match Nat.beq e' e with|true=>(if h:d'=d then (if fe'=fe then some (h▸xs) else none) else none)|false=>none
 |_=>none
def ge5 {U:Nat->Type}:AV U->Bool| .raw (.pointer none)=>true|_=>false
mutual
def rdS (H:List (Ent T.U)):(s:Sh)->AV T.U->Src->Option (s.den T×Src)
 | .val t,a,l=>match jr8 T t a with|some x=>some (x,l)|none=>none
 | .row e t,a,l=>match gq9 a with
  |some i=>(match qc7 T H e t i with|some xs=>some (xs,l++ [some i])|none=>none)
  |none=>none
 | .slr e t,a,l=>match slI a with
  |some (i,sz,o,n)=>(match qc7 T H e t i with|some xs=>(match Nat.beq sz (szT T t) with|true=>some ((xs,o,n),l++ [some i])|false=>none)|none=>none)
  |none=>none
 | .ptr o e cs,a,l=>match wc8 a with
  |some (i,o')=>(match qd0 T H e i with|some as=>(match Nat.beq o' o with|true=>zo2 H cs as (l++ [some i])|false=>none)|none=>none)
  |none=>none
 | .slb sz n e cs,a,l=>match slI a with
  |some (i,sz',o,n')=>(match qd0 T H e i with|some as=>(match Nat.beq sz' sz&&(Nat.beq n' n&&Nat.beq o 0) with|true=>zo2 H cs as (l++ [some i])|false=>none)|none=>none)
  |none=>none
 | .at_ p o,a,l=>match wc8 a with
  |some (i,o')=>(match Nat.beq o' o&&yn4 l p i with|true=>some ((),l)|false=>none)
  |none=>none
 | .own p,a,l=>match gq9 a with
  |some i=>(match yn4 l p i with|true=>some ((),l)|false=>none)
  |none=>none
 | .part p sz,a,l=>match slI a with
  |some (i,sz',o,n)=>(match Nat.beq sz' sz&&yn4 l p i with|true=>some ((o,n),l)|false=>none)
  |none=>none
 | .fn f a b,c,l=>match fnI c with
  |some (f',as,bs)=>(match zo2 H a as l with
   |some (x,l1)=>(match Nat.beq f' f with|true=>qf7 (fun y=>(x,y)) (zo2 H b bs l1)|false=>none)
   |none=>none)
  |none=>none
 | .agg cs,a,l=>match uh8 a with|some as=>zo2 H cs as l|none=>none
 | .ifc t s,a,l=>match ui6 a with
  |some (t',b)=>(match Nat.beq t' t with|true=>rdS H s b l|false=>none)
  |none=>none
 | .nils,a,l=>match gc3 a with|true=>some ((),l)|false=>none
 | .nilp,a,l=>match ge5 a with|true=>some ((),l)|false=>none
 | .arr t n,a,l=>match gc4 t n a with|some xs=>some (xs,l)|none=>none
 | .lp e o,a,l=>match lpI e o a with|some x=>some (x,l)|none=>none
 | .asp p o sz n,a,l=>match we4 a with
  |some (i,o',sz',n',lo,m)=>(match yn4 l p i&&(Nat.beq o' o&&(Nat.beq sz' sz&&Nat.beq n' n)) with|true=>some ((lo,m),l)|false=>none)
  |none=>none
 | .asn e cs o sz n,a,l=>match we4 a with
  |some (i,o',sz',n',lo,m)=>(match qd0 T H e i with|some as=>(match Nat.beq o' o&&(Nat.beq sz' sz&&Nat.beq n' n) with|true=>qf7 (fun x=>(x,lo,m)) (zo2 H cs as (l++ [some i]))|false=>none)|none=>none)
  |none=>none
 | .ap p o sz n c,a,l=>match gf4 a with
  |some (i,o',sz',n',k,c')=>(match yn4 l p i&&(Nat.beq o' o&&(Nat.beq sz' sz&&(Nat.beq n' n&&Nat.beq c' c))) with|true=>some (k,l)|false=>none)
  |none=>none
 | .mp kd keys cs,a,l=>match mpI a with
  |some i=>(match kd0 T H kd keys i with|some as=>zo2 H cs as (l++ [some i])|none=>none)
  |none=>none
 | .mpo p,a,l=>match mpI a with
  |some i=>(match yn4 l p i with|true=>some ((),l)|false=>none)
  |none=>none
 | .rw n,a,l=>match ui8 n a with|true=>some ((),l)|false=>none
 | .lpk e k o,a,l=>match lpI e o a with|some x=>(match Nat.beq x.2 k with|true=>some (x.1,l)|false=>none)|none=>none
 | .tm kd t,a,l=>match mpI a with
  |some i=>(match wd8 T H kd t i with|some xs=>some (xs,l++ [some i])|none=>none)
  |none=>none
 | .dr e d fe,a,l=>match gq9 a with
  |some i=>(match wf5 T H e d fe i with|some xs=>some (xs,l++ [some i])|none=>none)
  |none=>none
def zo2 (H:List (Ent T.U)):(ss:List Sh)->List (AV T.U)->Src->Option (zd5 T ss×Src)
 | [],as,l=>match as with| []=>some ((),l)|_::_=>none
 |s::r,as,l=>match as with
  |a::as=>(match rdS H s a l with|some (x,l1)=>qf7 (fun y=>(x,y)) (zo2 H r as l1)|none=>none)
  | []=>none
end
inductive PE where
 |gone
 |row (e:TypeId) (t:Ty)
 |blk (e:TypeId) (cs:List Sh)
 |map (k:IntKind) (keys:List Int) (cs:List Sh)
 |tmap (k:IntKind) (t:Ty)
 |dr (e:TypeId) (d:Nat) (fe:List TypeId)
def PE.den:PE->Type
 | .gone=>Unit
 | .row _ t=>List (Go.X.den T.U t)
 | .blk _ cs=>zd5 T cs
 | .map _ _ cs=>zd5 T cs
 | .tmap _ t=>List (Int×Go.X.den T.U t)
 | .dr _ d _=>List (T.U d)
def zk9:List PE->Type
 | []=>Unit
 |p::r=>p.den T×zk9 r
def PE.cnt:PE->Nat| .blk _ cs=>zb3 cs| .map _ _ cs=>zb3 cs|_=>0
def zf0:List PE->Nat
 | []=>0
 |p::r=>p.cnt+zf0 r
def zs3:List PE->Nat->Src
 | [],_=> []
 | .gone::r,j=>none::zs3 r (j+1)
 |_::r,j=>some j::zs3 r (j+1)
def gj7 (σ:Nat->Nat):(p:PE)->p.den T->Nat->Ent T.U
 | .gone,_,_=>.gone
 | .row e t,x,_=>.row e t x
 | .blk e cs,x,k=>.blk e (zc4 T σ cs x k)
 | .map kd keys cs,x,k=>.map kd (yf3 keys (zc4 T σ cs x k))
 | .tmap kd t,x,_=>.tmap kd t x
 | .dr e d fe,x,_=>.drow e d fe x none
def kd3 (σ:Nat->Nat):(p:PE)->p.den T->Nat->List (Ent T.U)
 | .blk _ cs,x,k=>zg5 T σ cs x k
 | .map _ _ cs,x,k=>zg5 T σ cs x k
 | .gone,_,_=> []
 | .row _ _,_,_=> []
 | .tmap _ _,_,_=> []
 | .dr _ _ _,_,_=> []
def mkP (σ:Nat->Nat):(ps:List PE)->zk9 T ps->Nat->List (Ent T.U)
 | [],_,_=> []
 |p::r,x,k=>gj7 T σ p x.1 k::mkP σ r x.2 (k+p.cnt)
def ya3 (σ:Nat->Nat):(ps:List PE)->zk9 T ps->Nat->List (Ent T.U)
 | [],_,_=> []
 |p::r,x,k=>kd3 T σ p x.1 k++ya3 σ r x.2 (k+p.cnt)
def kh0 (H:List (Ent T.U)) (j:Nat):(p:PE)->Src->Option (p.den T×Src)
 | .gone,l=>some ((),l)
 | .row e t,l=>match qc7 T H e t j with|some xs=>some (xs,l)|none=>none
 | .blk e cs,l=>match qd0 T H e j with|some as=>zo2 T H cs as l|none=>none
 | .map kd keys cs,l=>match kd0 T H kd keys j with|some as=>zo2 T H cs as l|none=>none
 | .tmap kd t,l=>match wd8 T H kd t j with|some xs=>some (xs,l)|none=>none
 | .dr e d fe,l=>match wf5 T H e d fe j with|some xs=>some (xs,l)|none=>none
def rdP (H:List (Ent T.U)):(ps:List PE)->Nat->Src->Option (zk9 T ps×Src)
 | [],_,l=>some ((),l)
 |p::r,j,l=>match kh0 T H j p l with|some (x,l1)=>qf7 (fun y=>(x,y)) (rdP H r (j+1) l1)|none=>none
def zi2 (H:List (Ent T.U)) (ρ:Nat->Nat):Src->List (Ent T.U)
 | []=> []
 |some i::r=>(match H[i]? with|some e=>e.ren ρ|none=>.gone)::zi2 H ρ r
 |none::r=>.gone::zi2 H ρ r
def yp6 (i:Nat):Src->Nat
 | []=>0
 |some j::r=>match Nat.beq j i with|true=>0|false=>yp6 i r+1
 |none::r=>yp6 i r+1
def qw8 (i:Nat):Src->Bool| []=>false|some j::r=>(match Nat.beq j i with|true=>true|false=>qw8 i r)|none::r=>qw8 i r
def zk8:Src->Bool| []=>true|some i::r=> !qw8 i r&&zk8 r|none::r=>zk8 r
end
section
variable {T:Tab}
theorem yc5 {i:Nat}: ∀ {l:Src},qw8 i l=true↔some i∈l
 | []=>by simp [qw8]
 |none::r=>by simp [qw8,yc5 (l:=r)]
 |some j::r=>by
  unfold qw8;split
  ·rename_i h;have:=Nat.eq_of_beq_eq_true h;subst this;simp
  ·rename_i h;rw [yc5 (l:=r)];have:j≠i:=fun e=>by subst e;simp at h
   simp [Ne.symm this]
theorem ye8: ∀ {l:Src},zk8 l=true-> ∀ {a b x:Nat},l[a]?=some (some x)->l[b]?=some (some x)->a=b
 | [],_,_,_,_,h,_=>by simp at h
 |none::r,hn,a,b,x,ha,hb=>by
  unfold zk8 at hn;cases a with
  |zero=>simp at ha
  |succ a=>
   cases b with
   |zero=>simp at hb
   |succ b=>have:=ye8 hn (a:=a) (b:=b) (by simpa using ha) (by simpa using hb);omega
 |some j::r,hn,a,b,x,ha,hb=>by
  unfold zk8 at hn;simp only [Bool.and_eq_true,Bool.not_eq_true'] at hn;have no: ∀ {c:Nat},r[c]?=some (some j)->False:=fun hc=>by
   have:=yc5.2 (List.mem_of_getElem? hc);rw [hn.1] at this;cases this
  cases a with
  |zero=>
   simp at ha;subst ha;cases b with
   |zero=>rfl
   |succ b=>exact (no (by simpa using hb)).elim
  |succ a=>
   cases b with
   |zero=>simp at hb;subst hb;exact (no (by simpa using ha)).elim
   |succ b=>have:=ye8 hn.2 (a:=a) (b:=b) (by simpa using ha) (by simpa using hb);omega
theorem zk7 {i:Nat}: ∀ {l:Src},some i∈l->l[yp6 i l]?=some (some i)
 | [],h=>by cases h
 |none::r,h=>by
  have h:some i∈r:=by simpa using h
  show (none::r)[yp6 i r+1]?=_;simpa using zk7 h
 |some j::r,h=>by
  unfold yp6;split
  ·rename_i hb;have:=Nat.eq_of_beq_eq_true hb;subst this;rfl
  ·rename_i hb;rcases List.mem_cons.1 h with h|h
   ·cases h;simp at hb
   ·simpa using zk7 h
def Places (ρ:Nat->Nat) (l:Src):Prop:= ∀(p i:Nat),l[p]?=some (some i)->ρ i=p
theorem Places.pre {ρ:Nat->Nat} {l m:Src} (h:Places ρ (l++m)):Places ρ l:=fun p i hp=>h p i (by
 rw [List.getElem?_append_left (List.getElem?_eq_some_iff.1 hp).1];exact hp)
theorem yf5 {l:Src} (h:zk8 l=true):Places (fun i=>yp6 i l) l:=fun p i hp=>ye8 h (zk7 (List.mem_of_getElem? hp)) hp
theorem zw3 {H:List (Ent T.U)} {e:TypeId} {t:Ty} {i:Nat} {xs:List (den T.U t)} (h:qc7 T H e t i=some xs):H[i]?=some (.row e t xs):=by
 unfold qc7 at h;split at h
 ·rename_i e' t' ys hi;split at h
  ·rename_i hb;have:=Nat.eq_of_beq_eq_true hb;subst this;split at h
   ·rename_i ht;subst ht;have h:ys=xs:=Option.some.inj h;subst h;exact hi
   ·cases h
  ·cases h
 ·cases h
theorem jw1 {H:List (Ent T.U)} {k:IntKind} {t:Ty} {i:Nat} {xs:List (Int×den T.U t)} (h:wd8 T H k t i=some xs):H[i]?=some (.tmap k t xs):=by
 unfold wd8 at h;split at h
 ·rename_i k' t' ys hi;split at h
  ·rename_i hb;have:=zb9 hb;subst this;split at h
   ·rename_i ht;subst ht;have h:ys=xs:=Option.some.inj h;subst h;exact hi
   ·cases h
  ·cases h
 ·cases h
theorem yx5 {H:List (Ent T.U)} {e:TypeId} {d:Nat} {fe:List TypeId} {i:Nat} {xs:List (T.U d)} (h:wf5 T H e d fe i=some xs):H[i]?=some (.drow e d fe xs none):=by
 unfold wf5 at h;split at h
 ·rename_i e' d' fe' ys hi;split at h
  ·rename_i hb;have:=Nat.eq_of_beq_eq_true hb;subst this;split at h
   ·rename_i ht;subst ht;split at h
    ·rename_i hf;subst hf;have h:ys=xs:=Option.some.inj h;subst h;exact hi
    ·cases h
   ·cases h
  ·cases h
 ·cases h
theorem zw5 {H:List (Ent T.U)} {e:TypeId} {i:Nat} {cs:List (AV T.U)} (h:qd0 T H e i=some cs):H[i]?=some (.blk e cs):=by
 unfold qd0 at h;split at h
 ·rename_i e' cs' hi;split at h
  ·rename_i hb;have:=Nat.eq_of_beq_eq_true hb;subst this;simp only [Option.some.injEq] at h;subst h;exact hi
  ·cases h
 ·cases h
theorem jf5 {H:List (Ent T.U)} {k:IntKind} {keys:List Int} {i:Nat} {as:List (AV T.U)} (h:kd0 T H k keys i=some as):H[i]?=some (.map k (yf3 keys as)):=by
 unfold kd0 at h;split at h
 ·rename_i k' es hi;split at h
  ·rename_i hb;rw [Bool.and_eq_true] at hb;have:=zb9 hb.1;subst this;simp only [Option.some.injEq] at h;subst h;rw [hi];have key: ∀(keys:List Int) (es:List (Int×AV T.U)),qe6 keys es=true->es=yf3 keys (es.map Prod.snd):=by
    intro keys;induction keys with
    |nil=>intro es h;cases es with|nil=>rfl|cons _ _=>cases h
    |cons x r ih=>
     intro es h
     match es,h with
     |(y,a)::s,h=>
      unfold qe6 at h;split at h
      ·rename_i he;have:x=y:=by simpa [gs6] using he
       subst this;rw [List.map_cons,yf3,<-ih s h]
      ·cases h
   rw [<-key keys es hb.2]
  ·cases h
 ·cases h
theorem zh2 {l:Src} {p i:Nat} (h:yn4 l p i=true):l[p]?=some (some i):=by
 unfold yn4 at h;split at h
 ·rename_i j hj;rw [Nat.eq_of_beq_eq_true h] at hj;exact hj
 ·cases h
theorem zp7 (H:List (Ent T.U)) (ρ:Nat->Nat): ∀(l m:List Nat),ze2 T H ρ (l++m)=ze2 T H ρ l++ze2 T H ρ m
 | [],_=>rfl
 |i::r,m=>by
  rw [List.cons_append,ze2,ze2];split
  ·rw [zp7 H ρ r m];rfl
  ·rw [zp7 H ρ r m];rfl
theorem zp0 {α β γ:Type} {f:α->β} {o:Option (α×γ)} {y:β} {l:γ} (h:qf7 f o=some (y,l)): ∃x,o=some (x,l)/\f x=y:=by
 unfold qf7 at h;split at h
 ·simp only [Option.some.injEq,Prod.mk.injEq] at h;obtain ⟨h1,rfl⟩:=h;exact ⟨_,rfl,h1⟩
 ·cases h
structure RdOk (T:Tab) (H:List (Ent T.U)) (ids:List Nat) (l l':Src) (new:List Nat):Prop where
 eq:l'=l++new.map some
 ids: ∀j∈ids,some j∈l'
 ents: ∀i∈new,∃e,H[i]?=some e/\e.live=true/\ ∀j∈e.cellIds,some j∈l'
end
end Go.X
