import Derived.Test.YthhhfnfgmijggaaGreatX15
namespace Go.X
open Go.RowKit Go.V
inductive Sh where
 |val (t:Ty)
 |row (e:TypeId) (t:Ty)
 |slr (e:TypeId) (t:Ty)
 |ptr (o:Nat) (e:TypeId) (cs:List Sh)
 |slb (sz n:Nat) (e:TypeId) (cs:List Sh)
 |at_ (i o:Nat)
 |own (i:Nat)
 |part (i sz:Nat)
 |fn (f:FuncId) (a b:List Sh)
 |agg (cs:List Sh)
 |ifc (t:TypeId) (s:Sh)
 |nils
 |nilp
 |arr (t:Ty) (n:Nat)
 |lp (e:Ty) (o:Nat)
 |asp (i o sz n:Nat)
 |asn (e:TypeId) (cs:List Sh) (o sz n:Nat)
 |ap (i o sz n c:Nat)
 |mp (k:IntKind) (keys:List Int) (cs:List Sh)
 |mpo (i:Nat)
 |rw (n:Nat)
 |lpk (e:Ty) (k o:Nat)
 |tm (k:IntKind) (t:Ty)
 |dr (e:TypeId) (d:Nat) (fe:List TypeId)
section
variable (T:Tab)
mutual
def Sh.den:Sh->Type
 | .val t=>den T.U t
 | .row _ t=>List (den T.U t)
 | .slr _ t=>List (den T.U t)×Nat×Nat
 | .ptr _ _ cs=>zd8 cs
 | .slb _ _ _ cs=>zd8 cs
 | .at_ _ _=>Unit
 | .own _=>Unit
 | .part _ _=>Nat×Nat
 | .fn _ a b=>zd8 a×zd8 b
 | .agg cs=>zd8 cs
 | .ifc _ s=>s.den
 | .nils=>Unit
 | .nilp=>Unit
 | .arr t _=>List (den T.U t)
 | .lp e _=>List (den T.U e)×Nat
 | .asp _ _ _ _=>Nat×Nat
 | .asn _ cs _ _ _=>zd8 cs×Nat×Nat
 | .ap _ _ _ _ _=>Nat
 | .mp _ _ cs=>zd8 cs
 | .mpo _=>Unit
 | .rw _=>Unit
 | .lpk e _ _=>List (den T.U e)
 | .tm _ t=>List (Int×den T.U t)
 | .dr _ d _=>List (T.U d)
def zd8:List Sh->Type
 | []=>Unit
 |s::r=>s.den×zd8 r
end
mutual
def Sh.cnt:Sh->Nat
 | .row _ _=>1
 | .slr _ _=>1
 | .ptr _ _ cs=>1+zb5 cs
 | .slb _ _ _ cs=>1+zb5 cs
 | .fn _ a b=>zb5 a+zb5 b
 | .agg cs=>zb5 cs
 | .ifc _ s=>s.cnt
 | .asn _ cs _ _ _=>1+zb5 cs
 | .mp _ _ cs=>1+zb5 cs
 | .tm _ _=>1
 | .dr _ _ _=>1
 |_=>0
def zb5:List Sh->Nat
 | []=>0
 |s::r=>s.cnt+zb5 r
end
def uz1:Nat->Value
 |0=>.nilFunc
 |1=>.nilIface
 |2=>.map none
 |_=>.pointer none
def yf1 {U:Nat->Type}:List Int->List (AV U)->List (Int×AV U)
 |x::r,a::s=>(x,a)::yf1 r s
 |_,_=> []
mutual
def mkA (σ:Nat->Nat):(s:Sh)->s.den T->Nat->AV T.U
 | .val t,x,_=>zn7 T t x
 | .row _ _,_,k=>.own (σ k)
 | .slr _ t,x,k=>.sl (σ k) (szT T t) x.2.1 x.2.2
 | .ptr o _ _,_,k=>.ptr (σ k) o
 | .slb sz n _ _,_,k=>.sl (σ k) sz 0 n
 | .at_ i o,_,_=>.ptr (σ i) o
 | .own i,_,_=>.own (σ i)
 | .part i sz,x,_=>.sl (σ i) sz x.1 x.2
 | .fn f a b,x,k=>.fn (.func f) (zc6 σ a x.1 k) (zc6 σ b x.2 (k+zb5 a))
 | .agg cs,x,k=>.agg (zc6 σ cs x k)
 | .ifc t s,x,k=>.ifc t (mkA σ s x k)
 | .nils,_,_=>.raw (.slice none 0 0)
 | .nilp,_,_=>.raw (.pointer none)
 | .arr t n,x,_=>.arr t n x
 | .lp e o,x,_=>.lptr e x.1 x.2 o
 | .asp i o sz n,x,_=>.asl (σ i) o sz n x.1 x.2
 | .asn _ _ o sz n,x,k=>.asl (σ k) o sz n x.2.1 x.2.2
 | .ap i o sz n c,x,_=>.aptr (σ i) o sz n x c
 | .mp _ _ _,_,k=>.mp (σ k)
 | .mpo i,_,_=>.mp (σ i)
 | .rw n,_,_=>.raw (uz1 n)
 | .lpk e k o,x,_=>.lptr e x k o
 | .tm _ _,_,k=>.mp (σ k)
 | .dr _ _ _,_,k=>.own (σ k)
def zc6 (σ:Nat->Nat):(l:List Sh)->zd8 T l->Nat->List (AV T.U)
 | [],_,_=> []
 |s::r,x,k=>mkA σ s x.1 k::zc6 σ r x.2 (k+s.cnt)
end
mutual
def mkE (σ:Nat->Nat):(s:Sh)->s.den T->Nat->List (Ent T.U)
 | .row e t,x,_=> [.row e t x]
 | .slr e t,x,_=> [.row e t x.1]
 | .ptr _ e cs,x,k=>.blk e (zc6 T σ cs x (k+1))::zh0 σ cs x (k+1)
 | .slb _ _ e cs,x,k=>.blk e (zc6 T σ cs x (k+1))::zh0 σ cs x (k+1)
 | .fn _ a b,x,k=>zh0 σ a x.1 k++zh0 σ b x.2 (k+zb5 a)
 | .agg cs,x,k=>zh0 σ cs x k
 | .ifc _ s,x,k=>mkE σ s x k
 | .val _,_,_=> []
 | .at_ _ _,_,_=> []
 | .own _,_,_=> []
 | .part _ _,_,_=> []
 | .nils,_,_=> []
 | .nilp,_,_=> []
 | .arr _ _,_,_=> []
 | .lp _ _,_,_=> []
 | .asp _ _ _ _,_,_=> []
 | .asn e cs _ _ _,x,k=>.blk e (zc6 T σ cs x.1 (k+1))::zh0 σ cs x.1 (k+1)
 | .ap _ _ _ _ _,_,_=> []
 | .mp kd keys cs,x,k=>.map kd (yf1 keys (zc6 T σ cs x (k+1)))::zh0 σ cs x (k+1)
 | .mpo _,_,_=> []
 | .rw _,_,_=> []
 | .lpk _ _ _,_,_=> []
 | .tm kd t,x,_=> [.tmap kd t x]
 | .dr e d fe,x,_=> [.drow e d fe x none]
def zh0 (σ:Nat->Nat):(l:List Sh)->zd8 T l->Nat->List (Ent T.U)
 | [],_,_=> []
 |s::r,x,k=>mkE σ s x.1 k++zh0 σ r x.2 (k+s.cnt)
end
abbrev Src:=List (Option Nat)
def qi1 (H:List (Ent T.U)) (e:TypeId) (t:Ty) (i:Nat):Option (List (den T.U t)):=
 match H[i]? with
 |some (.row e' t' xs)=>match Nat.beq e' e with|true=>(if h:t'=t then some (h▸xs) else none)|false=>none
 |_=>none
def qf7 (H:List (Ent T.U)) (e:TypeId) (i:Nat):Option (List (AV T.U)):=
 match H[i]? with
 |some (.blk e' cs)=>match Nat.beq e' e with|true=>some cs|false=>none
 |_=>none
def yo3 (l:Src) (p i:Nat):Bool:=match l[p]? with|some (some j)=>Nat.beq j i|_=>false
def qf5 {α β γ:Type} (f:α->β):Option (α×γ)->Option (β×γ)
 |some (x,l)=>some (f x,l)
 |none=>none
def gk7 {U:Nat->Type}:AV U->Option Nat| .own i=>some i|_=>none
def slI {U:Nat->Type}:AV U->Option (Nat×Nat×Nat×Nat)| .sl i sz o n=>some (i,sz,o,n)|_=>none
def wi2 {U:Nat->Type}:AV U->Option (Nat×Nat)| .ptr i o=>some (i,o)|_=>none
def fnI {U:Nat->Type}:AV U->Option (FuncId×List (AV U)×List (AV U))| .fn (.func f) a b=>some (f,a,b)|_=>none
def um2 {U:Nat->Type}:AV U->Option (List (AV U))| .agg cs=>some cs|_=>none
def um3 {U:Nat->Type}:AV U->Option (TypeId×AV U)| .ifc t a=>some (t,a)|_=>none
def gf9 {U:Nat->Type}:AV U->Bool| .raw (.slice none 0 0)=>true|_=>false
def gh8 {U:Nat->Type} (t:Ty) (n:Nat):AV U->Option (List (den U t))
 | .arr t' n' xs=>match Nat.beq n' n with|true=>(if h:t'=t then some (h▸xs) else none)|false=>none
 |_=>none
def lpI {U:Nat->Type} (e:Ty) (o:Nat):AV U->Option (List (den U e)×Nat)
 | .lptr e' xs k o'=>match Nat.beq o' o with|true=>(if h:e'=e then some (h▸xs,k) else none)|false=>none
 |_=>none
def wk7 {U:Nat->Type}:AV U->Option (Nat×Nat×Nat×Nat×Nat×Nat)| .asl i o sz n lo m=>some (i,o,sz,n,lo,m)|_=>none
def gf4 {U:Nat->Type}:AV U->Option (Nat×Nat×Nat×Nat×Nat×Nat)| .aptr i o sz n k c=>some (i,o,sz,n,k,c)|_=>none
def mpI {U:Nat->Type}:AV U->Option Nat| .mp i=>some i|_=>none
def um1 {U:Nat->Type} (n:Nat):AV U->Bool
 | .raw .nilFunc=>Nat.beq n 0
 | .raw .nilIface=>Nat.beq n 1
 | .raw (.map none)=>Nat.beq n 2
 |_=>false
def qg9 {U:Nat->Type}:List Int->List (Int×AV U)->Bool
 | [],[]=>true
 |x::r,(y,_)::s=>match wd9 x y with|true=>qg9 r s|false=>false
 |_,_=>false
def kh4 (H:List (Ent T.U)) (k:IntKind) (keys:List Int) (i:Nat):Option (List (AV T.U)):=
 match H[i]? with
 |some (.map k' es)=>match zi4 k' k&&qg9 keys es with|true=>some (es.map Prod.snd)|false=>none
 |_=>none
def wg7 (H:List (Ent T.U)) (k:IntKind) (t:Ty) (i:Nat):Option (List (Int×den T.U t)):=
 match H[i]? with
 |some (.tmap k' t' xs)=>match zi4 k' k with|true=>(if h:t'=t then some (h▸xs) else none)|false=>none
 |_=>none
def wk6 (H:List (Ent T.U)) (e:TypeId) (d:Nat) (fe:List TypeId) (i:Nat):Option (List (T.U d)):=
 match H[i]? with
 |some (.drow e' d' fe' xs none)=>match Nat.beq e' e with|true=>(if h:d'=d then (if fe'=fe then some (h▸xs) else none) else none)|false=>none
 |_=>none
def gh4 {U:Nat->Type}:AV U->Bool| .raw (.pointer none)=>true|_=>false
mutual
def rdS (H:List (Ent T.U)):(s:Sh)->AV T.U->Src->Option (s.den T×Src)
 | .val t,a,l=>match jr8 T t a with|some x=>some (x,l)|none=>none
 | .row e t,a,l=>match gk7 a with
  |some i=>(match qi1 T H e t i with|some xs=>some (xs,l++ [some i])|none=>none)
  |none=>none
 | .slr e t,a,l=>match slI a with
  |some (i,sz,o,n)=>(match qi1 T H e t i with|some xs=>(match Nat.beq sz (szT T t) with|true=>some ((xs,o,n),l++ [some i])|false=>none)|none=>none)
  |none=>none
 | .ptr o e cs,a,l=>match wi2 a with
  |some (i,o')=>(match qf7 T H e i with|some as=>(match Nat.beq o' o with|true=>zp0 H cs as (l++ [some i])|false=>none)|none=>none)
  |none=>none
 | .slb sz n e cs,a,l=>match slI a with
  |some (i,sz',o,n')=>(match qf7 T H e i with|some as=>(match Nat.beq sz' sz&&(Nat.beq n' n&&Nat.beq o 0) with|true=>zp0 H cs as (l++ [some i])|false=>none)|none=>none)
  |none=>none
 | .at_ p o,a,l=>match wi2 a with
  |some (i,o')=>(match Nat.beq o' o&&yo3 l p i with|true=>some ((),l)|false=>none)
  |none=>none
 | .own p,a,l=>match gk7 a with
  |some i=>(match yo3 l p i with|true=>some ((),l)|false=>none)
  |none=>none
 | .part p sz,a,l=>match slI a with
  |some (i,sz',o,n)=>(match Nat.beq sz' sz&&yo3 l p i with|true=>some ((o,n),l)|false=>none)
  |none=>none
 | .fn f a b,c,l=>match fnI c with
  |some (f',as,bs)=>(match zp0 H a as l with
   |some (x,l1)=>(match Nat.beq f' f with|true=>qf5 (fun y=>(x,y)) (zp0 H b bs l1)|false=>none)
   |none=>none)
  |none=>none
 | .agg cs,a,l=>match um2 a with|some as=>zp0 H cs as l|none=>none
 | .ifc t s,a,l=>match um3 a with
  |some (t',b)=>(match Nat.beq t' t with|true=>rdS H s b l|false=>none)
  |none=>none
 | .nils,a,l=>match gf9 a with|true=>some ((),l)|false=>none
 | .nilp,a,l=>match gh4 a with|true=>some ((),l)|false=>none
 | .arr t n,a,l=>match gh8 t n a with|some xs=>some (xs,l)|none=>none
 | .lp e o,a,l=>match lpI e o a with|some x=>some (x,l)|none=>none
 | .asp p o sz n,a,l=>match wk7 a with
  |some (i,o',sz',n',lo,m)=>(match yo3 l p i&&(Nat.beq o' o&&(Nat.beq sz' sz&&Nat.beq n' n)) with|true=>some ((lo,m),l)|false=>none)
  |none=>none
 | .asn e cs o sz n,a,l=>match wk7 a with
  |some (i,o',sz',n',lo,m)=>(match qf7 T H e i with|some as=>(match Nat.beq o' o&&(Nat.beq sz' sz&&Nat.beq n' n) with|true=>qf5 (fun x=>(x,lo,m)) (zp0 H cs as (l++ [some i]))|false=>none)|none=>none)
  |none=>none
 | .ap p o sz n c,a,l=>match gf4 a with
  |some (i,o',sz',n',k,c')=>(match yo3 l p i&&(Nat.beq o' o&&(Nat.beq sz' sz&&(Nat.beq n' n&&Nat.beq c' c))) with|true=>some (k,l)|false=>none)
  |none=>none
 | .mp kd keys cs,a,l=>match mpI a with
  |some i=>(match kh4 T H kd keys i with|some as=>zp0 H cs as (l++ [some i])|none=>none)
  |none=>none
 | .mpo p,a,l=>match mpI a with
  |some i=>(match yo3 l p i with|true=>some ((),l)|false=>none)
  |none=>none
 | .rw n,a,l=>match um1 n a with|true=>some ((),l)|false=>none
 | .lpk e k o,a,l=>match lpI e o a with|some x=>(match Nat.beq x.2 k with|true=>some (x.1,l)|false=>none)|none=>none
 | .tm kd t,a,l=>match mpI a with
  |some i=>(match wg7 T H kd t i with|some xs=>some (xs,l++ [some i])|none=>none)
  |none=>none
 | .dr e d fe,a,l=>match gk7 a with
  |some i=>(match wk6 T H e d fe i with|some xs=>some (xs,l++ [some i])|none=>none)
  |none=>none
def zp0 (H:List (Ent T.U)):(ss:List Sh)->List (AV T.U)->Src->Option (zd8 T ss×Src)
 | [],as,l=>match as with| []=>some ((),l)|_::_=>none
 |s::r,as,l=>match as with
  |a::as=>(match rdS H s a l with|some (x,l1)=>qf5 (fun y=>(x,y)) (zp0 H r as l1)|none=>none)
  | []=>none
end
inductive PE where
 |gone
 |row (e:TypeId) (t:Ty)
 |blk (e:TypeId) (cs:List Sh)
 |map (k:IntKind) (keys:List Int) (cs:List Sh)
 |tmap (k:IntKind) (t:Ty)
 |dr (e:TypeId) (d:Nat) (fe:List TypeId)
def PE.den:PE->Type
 | .gone=>Unit
 | .row _ t=>List (Go.X.den T.U t)
 | .blk _ cs=>zd8 T cs
 | .map _ _ cs=>zd8 T cs
 | .tmap _ t=>List (Int×Go.X.den T.U t)
 | .dr _ d _=>List (T.U d)
def zl5:List PE->Type
 | []=>Unit
 |p::r=>p.den T×zl5 r
def PE.cnt:PE->Nat| .blk _ cs=>zb5 cs| .map _ _ cs=>zb5 cs|_=>0
def zf5:List PE->Nat
 | []=>0
 |p::r=>p.cnt+zf5 r
def zt1:List PE->Nat->Src
 | [],_=> []
 | .gone::r,j=>none::zt1 r (j+1)
 |_::r,j=>some j::zt1 r (j+1)
def wd7 (σ:Nat->Nat):(p:PE)->p.den T->Nat->Ent T.U
 | .gone,_,_=>.gone
 | .row e t,x,_=>.row e t x
 | .blk e cs,x,k=>.blk e (zc6 T σ cs x k)
 | .map kd keys cs,x,k=>.map kd (yf1 keys (zc6 T σ cs x k))
 | .tmap kd t,x,_=>.tmap kd t x
 | .dr e d fe,x,_=>.drow e d fe x none
def ke8 (σ:Nat->Nat):(p:PE)->p.den T->Nat->List (Ent T.U)
 | .blk _ cs,x,k=>zh0 T σ cs x k
 | .map _ _ cs,x,k=>zh0 T σ cs x k
 | .gone,_,_=> []
 | .row _ _,_,_=> []
 | .tmap _ _,_,_=> []
 | .dr _ _ _,_,_=> []
def mkP (σ:Nat->Nat):(ps:List PE)->zl5 T ps->Nat->List (Ent T.U)
 | [],_,_=> []
 |p::r,x,k=>wd7 T σ p x.1 k::mkP σ r x.2 (k+p.cnt)
def ya1 (σ:Nat->Nat):(ps:List PE)->zl5 T ps->Nat->List (Ent T.U)
 | [],_,_=> []
 |p::r,x,k=>ke8 T σ p x.1 k++ya1 σ r x.2 (k+p.cnt)
def ki9 (H:List (Ent T.U)) (j:Nat):(p:PE)->Src->Option (p.den T×Src)
 | .gone,l=>some ((),l)
 | .row e t,l=>match qi1 T H e t j with|some xs=>some (xs,l)|none=>none
 | .blk e cs,l=>match qf7 T H e j with|some as=>zp0 T H cs as l|none=>none
 | .map kd keys cs,l=>match kh4 T H kd keys j with|some as=>zp0 T H cs as l|none=>none
 | .tmap kd t,l=>match wg7 T H kd t j with|some xs=>some (xs,l)|none=>none
 | .dr e d fe,l=>match wk6 T H e d fe j with|some xs=>some (xs,l)|none=>none
def rdP (H:List (Ent T.U)):(ps:List PE)->Nat->Src->Option (zl5 T ps×Src)
 | [],_,l=>some ((),l)
 |p::r,j,l=>match ki9 T H j p l with|some (x,l1)=>qf5 (fun y=>(x,y)) (rdP H r (j+1) l1)|none=>none
def zi7 (H:List (Ent T.U)) (ρ:Nat->Nat):Src->List (Ent T.U)
 | []=> []
 |some i::r=>(match H[i]? with|some e=>e.ren ρ|none=>.gone)::zi7 H ρ r
 |none::r=>.gone::zi7 H ρ r
def yq6 (i:Nat):Src->Nat
 | []=>0
 |some j::r=>match Nat.beq j i with|true=>0|false=>yq6 i r+1
 |none::r=>yq6 i r+1
def qm8 (i:Nat):Src->Bool| []=>false|some j::r=>(match Nat.beq j i with|true=>true|false=>qm8 i r)|none::r=>qm8 i r
def zl4:Src->Bool| []=>true|some i::r=> !qm8 i r&&zl4 r|none::r=>zl4 r
end
section
variable {T:Tab}
theorem yd7 {i:Nat}: ∀ {l:Src},qm8 i l=true↔some i∈l
 | []=>by simp [qm8]
 |none::r=>by simp [qm8,yd7 (l:=r)]
 |some j::r=>by
  unfold qm8;split
  ·rename_i h;have:=X1 h;subst this;simp
  ·rename_i h;rw [yd7 (l:=r)];have:j≠i:=fun e=>by subst e;simp at h
   simp [Ne.symm this]
theorem yf2: ∀ {l:Src},zl4 l=true-> ∀ {a b x:Nat},l[a]?=some (some x)->l[b]?=some (some x)->a=b
 | [],_,_,_,_,h,_=>by simp at h
 |none::r,hn,a,b,x,ha,hb=>by
  unfold zl4 at hn;cases a with
  |zero=>simp at ha
  |succ a=>
   cases b with
   |zero=>simp at hb
   |succ b=>have:=yf2 hn (a:=a) (b:=b) (by simpa using ha) (by simpa using hb);omega
 |some j::r,hn,a,b,x,ha,hb=>by
  unfold zl4 at hn;simp only [X3,Bool.not_eq_true'] at hn;have no: ∀ {c:Nat},r[c]?=some (some j)->False:=fun hc=>by
   have:=yd7.2 (X6 hc);rw [hn.1] at this;cases this
  cases a with
  |zero=>
   simp at ha;subst ha;cases b with
   |zero=>rfl
   |succ b=>exact (no (by simpa using hb)).elim
  |succ a=>
   cases b with
   |zero=>simp at hb;subst hb;exact (no (by simpa using ha)).elim
   |succ b=>have:=yf2 hn.2 (a:=a) (b:=b) (by simpa using ha) (by simpa using hb);omega
theorem zl3 {i:Nat}: ∀ {l:Src},some i∈l->l[yq6 i l]?=some (some i)
 | [],h=>by cases h
 |none::r,h=>by
  have h:some i∈r:=by simpa using h
  show (none::r)[yq6 i r+1]?=_;simpa using zl3 h
 |some j::r,h=>by
  unfold yq6;split
  ·rename_i hb;have:=X1 hb;subst this;rfl
  ·rename_i hb;rcases Z0.1 h with h|h
   ·cases h;simp at hb
   ·simpa using zl3 h
def Places (ρ:Nat->Nat) (l:Src):Prop:= ∀(p i:Nat),l[p]?=some (some i)->ρ i=p
theorem Places.pre {ρ:Nat->Nat} {l m:Src} (h:Places ρ (l++m)):Places ρ l:=fun p i hp=>h p i (by
 rw [X8 (X2.1 hp).1];exact hp)
theorem ye8 {l:Src} (h:zl4 l=true):Places (fun i=>yq6 i l) l:=fun p i hp=>yf2 h (zl3 (X6 hp)) hp
theorem zx4 {H:List (Ent T.U)} {e:TypeId} {t:Ty} {i:Nat} {xs:List (den T.U t)} (h:qi1 T H e t i=some xs):H[i]?=some (.row e t xs):=by
 unfold qi1 at h;split at h
 ·rename_i e' t' ys hi;split at h
  ·rename_i hb;have:=X1 hb;subst this;split at h
   ·rename_i ht;subst ht;have h:ys=xs:=X5 h;subst h;exact hi
   ·cases h
  ·cases h
 ·cases h
theorem jz1 {H:List (Ent T.U)} {k:IntKind} {t:Ty} {i:Nat} {xs:List (Int×den T.U t)} (h:wg7 T H k t i=some xs):H[i]?=some (.tmap k t xs):=by
 unfold wg7 at h;split at h
 ·rename_i k' t' ys hi;split at h
  ·rename_i hb;have:=zc1 hb;subst this;split at h
   ·rename_i ht;subst ht;have h:ys=xs:=X5 h;subst h;exact hi
   ·cases h
  ·cases h
 ·cases h
theorem yy7 {H:List (Ent T.U)} {e:TypeId} {d:Nat} {fe:List TypeId} {i:Nat} {xs:List (T.U d)} (h:wk6 T H e d fe i=some xs):H[i]?=some (.drow e d fe xs none):=by
 unfold wk6 at h;split at h
 ·rename_i e' d' fe' ys hi;split at h
  ·rename_i hb;have:=X1 hb;subst this;split at h
   ·rename_i ht;subst ht;split at h
    ·rename_i hf;subst hf;have h:ys=xs:=X5 h;subst h;exact hi
    ·cases h
   ·cases h
  ·cases h
 ·cases h
theorem zw8 {H:List (Ent T.U)} {e:TypeId} {i:Nat} {cs:List (AV T.U)} (h:qf7 T H e i=some cs):H[i]?=some (.blk e cs):=by
 unfold qf7 at h;split at h
 ·rename_i e' cs' hi;split at h
  ·rename_i hb;have:=X1 hb;subst this;simp only [X0] at h;subst h;exact hi
  ·cases h
 ·cases h
theorem jh7 {H:List (Ent T.U)} {k:IntKind} {keys:List Int} {i:Nat} {as:List (AV T.U)} (h:kh4 T H k keys i=some as):H[i]?=some (.map k (yf1 keys as)):=by
 unfold kh4 at h;split at h
 ·rename_i k' es hi;split at h
  ·rename_i hb;rw [X3] at hb;have:=zc1 hb.1;subst this;simp only [X0] at h;subst h;rw [hi];have key: ∀(keys:List Int) (es:List (Int×AV T.U)),qg9 keys es=true->es=yf1 keys (es.map Prod.snd):=by
    intro keys;induction keys with
    |nil=>intro es h;cases es with|nil=>rfl|cons _ _=>cases h
    |cons x r ih=>
     intro es h
     match es,h with
     |(y,a)::s,h=>
      unfold qg9 at h;split at h
      ·rename_i he;have:x=y:=by simpa [wd9] using he
       subst this;rw [List.map_cons,yf1,<-ih s h]
      ·cases h
   rw [<-key keys es hb.2]
  ·cases h
 ·cases h
theorem zh7 {l:Src} {p i:Nat} (h:yo3 l p i=true):l[p]?=some (some i):=by
 unfold yo3 at h;split at h
 ·rename_i j hj;rw [X1 h] at hj;exact hj
 ·cases h
theorem zq0 (H:List (Ent T.U)) (ρ:Nat->Nat): ∀(l m:List Nat),ze7 T H ρ (l++m)=ze7 T H ρ l++ze7 T H ρ m
 | [],_=>rfl
 |i::r,m=>by
  rw [List.cons_append,ze7,ze7];split
  ·rw [zq0 H ρ r m];rfl
  ·rw [zq0 H ρ r m];rfl
theorem zp2 {α β γ:Type} {f:α->β} {o:Option (α×γ)} {y:β} {l:γ} (h:qf5 f o=some (y,l)): ∃x,o=some (x,l)/\f x=y:=by
 unfold qf5 at h;split at h
 ·simp only [X0,X7] at h;obtain ⟨h1,rfl⟩:=h;exact ⟨_,rfl,h1⟩
 ·cases h
structure RdOk (T:Tab) (H:List (Ent T.U)) (ids:List Nat) (l l':Src) (new:List Nat):Prop where
 eq:l'=l++new.map some
 ids: ∀j∈ids,some j∈l'
 ents: ∀i∈new,∃e,H[i]?=some e/\e.live=true/\ ∀j∈e.cellIds,some j∈l'
end
end Go.X
