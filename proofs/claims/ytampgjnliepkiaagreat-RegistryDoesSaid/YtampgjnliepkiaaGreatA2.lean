import Derived.Test.YtampgjnliepkiaaGreatA1
set_option linter.defProp false
namespace Go.X
open Go.RowKit Go.V
inductive Ty where
 |int (k:IntKind)|bool|str|list (e:Ty)|user (i:Nat)|nl (e:Ty)
 deriving DecidableEq
def den (U:Nat->Type):Ty->Type
 | .int _=>Int
 | .bool=>Bool
 | .str=>ByteArray
 | .list e=>List (den U e)
 | .nl e=>List (den U e)
 | .user i=>U i
structure Cell (U:Nat->Type) where
 t:Ty
 x:den U t
def Ty.scal:Ty->Bool| .int _=>true| .bool=>true| .str=>true|_=>false
inductive AV (U:Nat->Type) where
 |cell (c:Cell U)
 |ptr (i o:Nat)
 |eptr (i sz k c:Nat)
 |lptr (e:Ty) (xs:List (den U e)) (k o:Nat)
 |own (i:Nat)
 |sl (i sz o n:Nat)
 |agg (cs:List (AV U))
 |tup (vs:List (AV U))
 |fn (f:Fn) (first caps:List (AV U))
 |ifc (t:TypeId) (v:AV U)
 |raw (v:Value)
 |arr (t:Ty) (n:Nat) (xs:List (den U t))
 |aptr (i o sz n k c:Nat)
 |asl (i o sz n lo m:Nat)
 |mp (i:Nat)
 |hmp (i:Nat)
mutual
def AV.ids {U:Nat->Type}:AV U->List Nat
 | .cell _=> []
 | .ptr i _=> [i]
 | .eptr i _ _ _=> [i]
 | .lptr _ _ _ _=> []
 | .own i=> [i]
 | .sl i _ _ _=> [i]
 | .agg cs=>u0 cs
 | .tup cs=>u0 cs
 | .fn _ a b=>u0 a++u0 b
 | .ifc _ a=>a.ids
 | .raw _=> []
 | .arr _ _ _=> []
 | .aptr i _ _ _ _ _=> [i]
 | .asl i _ _ _ _ _=> [i]
 | .mp i=> [i]
 | .hmp i=> [i]
def u0 {U:Nat->Type}:List (AV U)->List Nat
 | []=> []
 |a::r=>a.ids++u0 r
end
def ws3 {U:Nat->Type} (aS:List (AV U)):Prop:= ∀t n xs,AV.arr t n xs∈aS->xs.length=n
structure Tab where
 U:Nat->Type
 d:(i:Nat)->U i
 size:Nat->Nat
 cells:(i:Nat)->U i->List (Cell U)
 len: ∀i x,(cells i x).length=size i
 pack:(i:Nat)->List (Cell U)->Option (U i)
 packed: ∀i cs x,pack i cs=some x->cells i x=cs
 scal:Nat->Bool
 scals: ∀i x,scal i=true-> ∀c∈cells i x,c.t.scal=true
 bl:(i:Nat)->U i->List (AV U):=fun _ _=> []
 rb:(i:Nat)->List (AV U)->Option (U i):=fun _ _=>none
 rbl: ∀i aS x,rb i aS=some x->ws3 aS->bl i x=aS:=by intro _ _ _ h;cases h
 bl0: ∀i x,u0 (bl i x)= []:=by intro _ _;rfl
 fe:Nat->List TypeId:=fun _=> []
section
variable (T:Tab)
def szT:Ty->Nat
 | .user i=>T.size i
 |_=>1
def zb5:(t:Ty)->den T.U t->List (Cell T.U)
 | .user i,x=>T.cells i x
 | .int k,x=> [⟨.int k,x⟩]
 | .bool,x=> [⟨.bool,x⟩]
 | .str,x=> [⟨.str,x⟩]
 | .list e,x=> [⟨.list e,x⟩]
 | .nl e,x=> [⟨.nl e,x⟩]
def zz2:(t:Ty)->den T.U t
 | .user i=>T.d i
 | .int _=>(0:Int)
 | .bool=>false
 | .str=>ByteArray.empty
 | .list _=> []
 | .nl _=> []
def za2 (t x):(zb5 T t x).length=szT T t:=by
 cases t<;>first|rfl|exact T.len _ _
def Cell.aS {U:Nat->Type} (c:Cell U) (t:Ty):Option (den U t):=if h:c.t=t then some (h▸c.x) else none
def Cell.as_eq {U:Nat->Type} {c:Cell U} {t:Ty} {x:den U t} (h:c.aS t=some x):c=⟨t,x⟩:=by
 unfold Cell.aS at h;split at h
 ·rename_i hk;subst hk;simp only [X0] at h;subst h;rfl
 ·cases h
def Ty.one:Ty->Bool| .user _=>false|_=>true
def yv5 {t} (h:t.one=true) (x):zb5 T t x= [⟨t,x⟩]:=by cases t<;>first|rfl|cases h
def kw8 {U:Nat->Type} (t:Ty):List (Cell U)->Option (den U t)
 | [c]=>c.aS t
 |_=>none
def yp4 (t:Ty) (cs:List (Cell T.U)):Option (den T.U t):=
 match t with
 | .user i=>T.pack i cs
 |t=>kw8 t cs
def zo8 {t cs x} (h:yp4 T t cs=some x):zb5 T t x=cs:=by
 have a: ∀t:Ty,t.one=true-> ∀x:den T.U t,kw8 t cs=some x->zb5 T t x=cs:=by
  intro t b x h;unfold kw8 at h;split at h
  ·rw [Cell.as_eq h,yv5 T b]
  ·cases h
 cases t with
 |user i=>exact T.packed _ _ _ h
 |int k=>exact a _ rfl x h
 |bool=>exact a _ rfl x h
 |str=>exact a _ rfl x h
 |list e=>exact a _ rfl x h
 |nl e=>exact a _ rfl x h
structure RA where
 ad:Option Addr
 n:Nat
 cap:Nat
 xs:List Nat
inductive Ent (U:Nat->Type) where
 |blk (e:TypeId) (cs:List (AV U))
 |row (e:TypeId) (t:Ty) (xs:List (den U t))
 |map (k:IntKind) (es:List (Int×AV U))
 |tmap (k:IntKind) (t:Ty) (m:List (Int×den U t))
 |drow (e:TypeId) (d:Nat) (fe:List TypeId) (xs:List (U d)) (op:Option (Nat×List (AV U)))
 |pmap (k:IntKind) (be:TypeId) (d:Nat) (m:List (Int×U d)) (op:Option (Int×Nat))
 |hid
 |gone
inductive CR (w:World) (S:List Nat):(t:Ty)->den T.U t->Value->Prop
 |int (k:IntKind) (x:Int):CR w S (.int k) x (.int k x)
 |bool (b:Bool):CR w S .bool b (.bool b)
 |str (s:ByteArray):CR w S .str s (.string s)
 |list (e:Ty) (xs:List (den T.U e)) (ad:Option Addr) (cap:Nat) (u:Nat->Nat->Value) (hcap:xs.length<=cap) (hnil:ad=none->xs.length=0/\cap=0)
   (had:xs≠ []->ad=some ⟨bk ad,of ad,none⟩/\bk ad<w.heap.size/\bk ad∉S)
   (hcell: ∀k j (c:Cell T.U),(xs[k]?.map fun x=>(zb5 T e x)[j]?)=some (some c)->w.cell? ⟨bk ad,of ad+(k*szT T e+j),none⟩=some (u k j))
   (hrel: ∀k j (c:Cell T.U),(xs[k]?.map fun x=>(zb5 T e x)[j]?)=some (some c)->CR w S c.t c.x (u k j)):CR w S (.list e) xs (.slice ad xs.length cap)
 |nl (e:Ty) (xs:List (den T.U e)) (ad:Option Addr) (cap:Nat) (h:CR w S (.list e) xs (.slice ad xs.length cap)) (hn:xs= []->ad=none/\cap=0):CR w S (.nl e) xs (.slice ad xs.length cap)
abbrev yl2 (w:World) (S:List Nat) (c:Cell T.U) (v:Value):Prop:=CR T w S c.t c.x v
def CellsR (w:World) (S:List Nat) (cs:List (Cell T.U)) (vs:List Value):Prop:=cs.length=vs.length/\ ∀(j:Nat) (c:Cell T.U) (v:Value),cs[j]?=some c->vs[j]?=some v->yl2 T w S c v
mutual
def VR (w:World) (S:List Nat) (φ:Nat->RA):AV T.U->Value->Prop
 | .cell c,v=>yl2 T w S c v
 | .ptr i o,v=> ∃g,(φ i).ad=some ⟨g,0,none⟩/\v=.pointer (some ⟨g,o,none⟩)
 | .eptr i sz k c,v=> ∃g,(φ i).ad=some ⟨g,0,none⟩/\v=.pointer (some ⟨g,0+(k*sz+c),none⟩)
 | .lptr e xs k o,v=> ∃ad cap,CR T w S (.list e) xs (.slice ad xs.length cap)/\k<xs.length/\v=.pointer (some ⟨bk ad,of ad+(k*szT T e+o),none⟩)
 | .own i,v=>v=.slice (φ i).ad (φ i).n (φ i).cap
 | .sl i sz o n,v=> ∃ad,v=.slice ad n ((φ i).cap-o)/\o+n<=(φ i).cap/\(n=0\/ ∃g,(φ i).ad=some ⟨g,0,none⟩/\ad=some ⟨g,0+o*sz,none⟩)/\(ad=none->n=0/\(φ i).cap-o=0)/\(o=0->ad=(φ i).ad)
 | .agg cs,v=> ∃vs:Array Value,v=.agg vs/\VRL w S φ cs vs.toList
 | .tup cs,v=> ∃vs:Array Value,v=.tuple vs/\VRL w S φ cs vs.toList
 | .fn f a b,v=> ∃h j:Array Value,v=.func f h j/\VRL w S φ a h.toList/\VRL w S φ b j.toList
 | .ifc t a,v=> ∃u,v=.iface t u/\VR w S φ a u
 | .raw u,v=>v=u
 | .arr t n xs,v=> ∃vs:Array Value,v=.agg vs/\xs.length=n/\CellsR T w S (xs.flatMap (zb5 T t)) vs.toList
 | .aptr i o sz n k c,v=> ∃g,(φ i).ad=some ⟨g,0,none⟩/\k<n/\v=.pointer (some ⟨g,o+(k*sz+c),none⟩)
 | .asl i o sz n d m,v=> ∃g ad,(φ i).ad=some ⟨g,0,none⟩/\v=.slice (some ad) m (n-d)/\d+m<=n/\(d=n\/ad=⟨g,o+d*sz,none⟩)
 | .mp i,v=> ∃g,(φ i).ad=some ⟨g,0,none⟩/\v=.map (some g)
 | .hmp i,v=>v=.map (some (φ i).n)
def VRL (w:World) (S:List Nat) (φ:Nat->RA):List (AV T.U)->List Value->Prop
 | [],[]=>True
 |a::r,v::s=>VR w S φ a v/\VRL w S φ r s
 |_,_=>False
end
def ke4 {Tc w w' a v} (b:Chg Tc w w') (c:a.block∉Tc) (h:w.cell? a=some v):w'.cell? a=some v:=
 (World.cell?_of_block (b.block _ (World.block_lt_of_cell? w _ h) c)).trans h
def CR.chg {Tc S S' w w'} (o:Chg Tc w w') (r: ∀b∈Tc,b∈S) (y: ∀b∈S',b∈S\/w.heap.size<=b) {t x v} (h:CR T w S t x v):CR T w' S' t x v:=by
 induction h with
 |int k x=>exact .int k x
 |bool b=>exact .bool b
 |str s=>exact .str s
 |nl e xs ad cap _ z i=>exact .nl e xs ad cap i z
 |list e xs ad cap u d f g a p i=>
  refine .list e xs ad cap u d f ?_ ?_ i
  ·intro l;obtain ⟨A,B,m⟩:=g l;refine ⟨A,V1 B o.size,fun n=>?_⟩;rcases y _ n with h|h
   ·exact m h
   ·omega
  ·intro k j c q;have l:xs≠ []:=by intro e;subst e;simp at q
   obtain ⟨_,_,m⟩:=g l;exact ke4 o (fun n=>m (r _ n)) (a k j c q)
def CellsR.chg {Tc S S' w w'} (a:Chg Tc w w') (d: ∀b∈Tc,b∈S) (e: ∀b∈S',b∈S\/w.heap.size<=b) {cs vs} (h:CellsR T w S cs vs):CellsR T w' S' cs vs:=
 ⟨h.1,fun j c v f g=>(h.2 j c v f g).chg T a d e⟩
mutual
def VR.chg {Tc S S' w w' φ} (j:Chg Tc w w') (l: ∀b∈Tc,b∈S) (p: ∀b∈S',b∈S\/w.heap.size<=b): ∀ {a v},VR T w S φ a v->VR T w' S' φ a v
 | .cell c,v,h=>CR.chg T j l p h
 | .ptr i o,v,h=>h
 | .eptr i sz k c,v,h=>h
 | .lptr e xs k o,v,h=>by obtain ⟨ad,cap,d,g,q⟩:=h;exact ⟨ad,cap,d.chg T j l p,g,q⟩
 | .own i,v,h=>h
 | .sl i sz o n,v,h=>h
 | .agg cs,v,h=>by obtain ⟨vs,d,g⟩:=h;exact ⟨vs,d,VRL.chg j l p g⟩
 | .tup cs,v,h=>by obtain ⟨vs,d,g⟩:=h;exact ⟨vs,d,VRL.chg j l p g⟩
 | .fn f a b,v,h=>by obtain ⟨r,s,d,g,q⟩:=h;exact ⟨r,s,d,VRL.chg j l p g,VRL.chg j l p q⟩
 | .ifc t a,v,h=>by obtain ⟨u,d,g⟩:=h;exact ⟨u,d,VR.chg j l p g⟩
 | .raw u,v,h=>h
 | .arr t n xs,v,h=>by obtain ⟨vs,d,g,q⟩:=h;exact ⟨vs,d,g,q.chg T j l p⟩
 | .aptr i o sz n k c,v,h=>h
 | .asl i o sz n x m,v,h=>h
 | .mp i,v,h=>h
 | .hmp i,v,h=>h
def VRL.chg {Tc S S':List Nat} {w w':World} {φ:Nat->RA} (hc:Chg Tc w w') (hT: ∀b∈Tc,b∈S) (hS: ∀b∈S',b∈S\/w.heap.size<=b): ∀ {aS:List (AV T.U)} {vs:List Value},VRL T w S φ aS vs->VRL T w' S' φ aS vs
 | [],[],_=>trivial
 | [],_::_,h=>h.elim
 |_::_,[],h=>h.elim
 |_::_,_::_,h=>⟨VR.chg hc hT hS h.1,VRL.chg hc hT hS h.2⟩
end
def VRL.len {S:List Nat} {w:World} {φ:Nat->RA}: ∀ {aS:List (AV T.U)} {vs:List Value},VRL T w S φ aS vs->aS.length=vs.length
 | [],[],_=>rfl
 | [],_::_,h=>h.elim
 |_::_,[],h=>h.elim
 |_::r,_::s,h=>by simp [VRL.len h.2]
def VRL.get {S:List Nat} {w:World} {φ:Nat->RA}: ∀ {aS:List (AV T.U)} {vs:List Value} {j:Nat} {a:AV T.U},VRL T w S φ aS vs->aS[j]?=some a-> ∃v,vs[j]?=some v/\VR T w S φ a v
 | [],_,_,_,_,h=>by simp at h
 |_::_,[],_,_,h,_=>h.elim
 |_::_,v::_,0,b,h,hj=>by simp at hj;subst hj;exact ⟨v,rfl,h.1⟩
 |_::_,_::_,j+1,b,h,hj=>by simp at hj;simpa using VRL.get h.2 hj
def VRL.app {S:List Nat} {w:World} {φ:Nat->RA}: ∀ {aS bs:List (AV T.U)} {vs us:List Value},VRL T w S φ aS vs->VRL T w S φ bs us->VRL T w S φ (aS++bs) (vs++us)
 | [],_,[],_,_,h=>h
 | [],_,_::_,_,h,_=>h.elim
 |_::_,_,[],_,h,_=>h.elim
 |_::_,_,_::_,_,h,h'=>⟨h.1,VRL.app h.2 h'⟩
def VRL.drop {S:List Nat} {w:World} {φ:Nat->RA}: ∀ {aS:List (AV T.U)} {vs:List Value} (n:Nat),VRL T w S φ aS vs->VRL T w S φ (aS.drop n) (vs.drop n)
 |_,_,0,h=>h
 | [],[],_+1,_=>trivial
 | [],_::_,_+1,h=>h.elim
 |_::_,[],_+1,h=>h.elim
 |_::r,_::s,n+1,h=>VRL.drop (aS:=r) (vs:=s) n h.2
def VRL.take {S:List Nat} {w:World} {φ:Nat->RA}: ∀ {aS:List (AV T.U)} {vs:List Value} (n:Nat),VRL T w S φ aS vs->VRL T w S φ (aS.take n) (vs.take n)
 |_,_,0,_=>by simp [VRL]
 | [],[],_+1,_=>by simp [VRL]
 | [],_::_,_+1,h=>h.elim
 |_::_,[],_+1,h=>h.elim
 |_::r,_::s,n+1,h=>⟨h.1,VRL.take (aS:=r) (vs:=s) n h.2⟩
def VRL.set {S:List Nat} {w:World} {φ:Nat->RA}: ∀ {aS:List (AV T.U)} {vs:List Value} (n:Nat) {a:AV T.U} {v:Value},VRL T w S φ aS vs->VR T w S φ a v->VRL T w S φ (aS.set n a) (vs.set n v)
 | [],[],_,_,_,_,_=>trivial
 | [],_::_,_,_,_,h,_=>h.elim
 |_::_,[],_,_,_,h,_=>h.elim
 |_::_,_::_,0,_,_,h,h'=>⟨h',h.2⟩
 |_::r,_::s,n+1,_,_,h,h'=>⟨h.1,VRL.set (aS:=r) (vs:=s) n h.2 h'⟩
mutual
def AV.ren {U:Nat->Type} (ρ:Nat->Nat):AV U->AV U
 | .cell c=>.cell c
 | .ptr i o=>.ptr (ρ i) o
 | .eptr i sz k c=>.eptr (ρ i) sz k c
 | .lptr e xs k o=>.lptr e xs k o
 | .own i=>.own (ρ i)
 | .sl i sz o n=>.sl (ρ i) sz o n
 | .agg cs=>.agg (zi6 ρ cs)
 | .tup cs=>.tup (zi6 ρ cs)
 | .fn f a b=>.fn f (zi6 ρ a) (zi6 ρ b)
 | .ifc t a=>.ifc t (a.ren ρ)
 | .raw v=>.raw v
 | .arr t n xs=>.arr t n xs
 | .aptr i o sz n k c=>.aptr (ρ i) o sz n k c
 | .asl i o sz n d m=>.asl (ρ i) o sz n d m
 | .mp i=>.mp (ρ i)
 | .hmp i=>.hmp (ρ i)
def zi6 {U:Nat->Type} (ρ:Nat->Nat):List (AV U)->List (AV U)
 | []=> []
 |a::r=>a.ren ρ::zi6 ρ r
end
def RSame (r a:RA):Prop:=r.ad=a.ad/\r.n=a.n/\r.cap=a.cap
def RSame.trans {r b a} (h:RSame r b) (k:RSame b a):RSame r a:=⟨h.1.trans k.1,h.2.1.trans k.2.1,h.2.2.trans k.2.2⟩
def RSame.symm {r a} (h:RSame r a):RSame a r:=⟨h.1.symm,h.2.1.symm,h.2.2.symm⟩
def RSame.of {r a} (h:r=a):RSame r a:=by subst h;exact ⟨rfl,rfl,rfl⟩
mutual
def VR.renS {S w φ φ' ρ}: ∀ {a v},(∀i∈a.ids,RSame (φ' (ρ i)) (φ i))->VR T w S φ a v->VR T w S φ' (a.ren ρ) v
 | .cell c,v,_,h=>by rw [AV.ren];exact h
 | .ptr i o,v,d,h=>by rw [AV.ren];obtain ⟨g,j,l⟩:=h;exact ⟨g,(d i (by simp [AV.ids])).1.trans j,l⟩
 | .eptr i sz k c,v,d,h=>by rw [AV.ren];obtain ⟨g,j,l⟩:=h;exact ⟨g,(d i (by simp [AV.ids])).1.trans j,l⟩
 | .lptr e xs k o,v,_,h=>by rw [AV.ren];exact h
 | .own i,v,d,h=>by obtain ⟨j,l,p⟩:=d i (by simp [AV.ids]);rw [AV.ren,VR,j,l,p];exact h
 | .sl i sz o n,v,d,h=>by
  obtain ⟨s,B,x⟩:=d i (by simp [AV.ids]);rw [AV.ren];obtain ⟨ad,j,l,p,y,r⟩:=h;rw [VR,s,x];refine ⟨ad,j,l,?_,y,r⟩;rcases p with p|⟨g,p,r⟩
  ·exact .inl p
  ·exact .inr ⟨g,p,r⟩
 | .agg cs,v,d,h=>by rw [AV.ren];obtain ⟨vs,j,l⟩:=h;exact ⟨vs,j,VRL.renS (fun i q=>d i (by rw [AV.ids];exact q)) l⟩
 | .tup cs,v,d,h=>by rw [AV.ren];obtain ⟨vs,j,l⟩:=h;exact ⟨vs,j,VRL.renS (fun i q=>d i (by rw [AV.ids];exact q)) l⟩
 | .fn f a b,v,d,h=>by
  rw [AV.ren];obtain ⟨z,A,j,l,p⟩:=h;exact ⟨z,A,j,VRL.renS (fun i q=>d i (by rw [AV.ids];exact X4.2 (.inl q))) l,VRL.renS (fun i q=>d i (by rw [AV.ids];exact X4.2 (.inr q))) p⟩
 | .ifc t a,v,d,h=>by rw [AV.ren];obtain ⟨u,j,l⟩:=h;exact ⟨u,j,VR.renS (fun i q=>d i (by rw [AV.ids];exact q)) l⟩
 | .raw u,v,_,h=>by rw [AV.ren];exact h
 | .arr t n xs,v,_,h=>by rw [AV.ren];exact h
 | .aptr i o sz n k c,v,d,h=>by rw [AV.ren];obtain ⟨g,j,l⟩:=h;exact ⟨g,(d i (by simp [AV.ids])).1.trans j,l⟩
 | .asl i o sz n C m,v,d,h=>by rw [AV.ren];obtain ⟨g,ad,j,l⟩:=h;exact ⟨g,ad,(d i (by simp [AV.ids])).1.trans j,l⟩
 | .mp i,v,d,h=>by rw [AV.ren];obtain ⟨g,j,l⟩:=h;exact ⟨g,(d i (by simp [AV.ids])).1.trans j,l⟩
 | .hmp i,v,d,h=>by rw [AV.ren,VR,(d i (by simp [AV.ids])).2.1];exact h
def VRL.renS {S:List Nat} {w:World} {φ φ':Nat->RA} {ρ:Nat->Nat}: ∀ {aS:List (AV T.U)} {vs:List Value},(∀i∈u0 aS,RSame (φ' (ρ i)) (φ i))->VRL T w S φ aS vs->VRL T w S φ' (zi6 ρ aS) vs
 | [],[],_,_=>trivial
 | [],_::_,_,h=>h.elim
 |_::_,[],_,h=>h.elim
 |a::r,v::s,hi,h=>⟨VR.renS (fun i hm=>hi i (by rw [u0];exact X4.2 (.inl hm))) h.1,VRL.renS (fun i hm=>hi i (by rw [u0];exact X4.2 (.inr hm))) h.2⟩
end
def VR.ren {S w φ φ' ρ a v} (b: ∀i∈a.ids,φ' (ρ i)=φ i) (h:VR T w S φ a v):VR T w S φ' (a.ren ρ) v:=VR.renS T (fun i m=>RSame.of (b i m)) h
def VRL.ren {S:List Nat} {w:World} {φ φ':Nat->RA} {ρ:Nat->Nat} {aS:List (AV T.U)} {vs:List Value} (hi: ∀i∈u0 aS,φ' (ρ i)=φ i) (h:VRL T w S φ aS vs):VRL T w S φ' (zi6 ρ aS) vs:=VRL.renS T (fun i m=>RSame.of (hi i m)) h
def wd:AV T.U->Nat| .arr t n _=>n*szT T t|_=>1
def jf3:AV T.U->List (AV T.U)| .arr t _ xs=>(xs.flatMap (zb5 T t)).map .cell|a=> [a]
def zh3:List (AV T.U)->List (AV T.U)
 | []=> []
 |a::r=>jf3 T a++zh3 r
def jq8:AV T.U->Prop| .arr _ n xs=>xs.length=n|_=>True
def zz6:List (AV T.U)->Prop
 | []=>True
 |a::r=>jq8 T a/\zz6 r
def za6:AV T.U->Bool| .arr _ _ _=>false|_=>true
def zq7 {a} (h:za6 T a=true):jf3 T a= [a]:=by cases a<;>first|rfl|cases h
def yc1 {a} (h:za6 T a=true):jq8 T a:=by cases a<;>first|trivial|cases h
def qg3 {a} (h:za6 T a=true):wd T a=1:=by cases a<;>first|rfl|cases h
def flatMap_lenT {α b:Type} {f:α->List b} {sz:Nat} (c: ∀y,(f y).length=sz) (l:List α):(l.flatMap f).length=l.length*sz:=by
 induction l with
 |nil=>simp
 |cons a r d=>rw [V2,X9,c,d,U5,U8,J4]
def yd3 {a} (h:jq8 T a):(jf3 T a).length=wd T a:=by
 cases a<;>try rfl
 rename_i t n xs;rw [jf3,W9,flatMap_lenT (za2 T t),wd,show xs.length=n from h]
def yd4 (aS bs:List (AV T.U)):zh3 T (aS++bs)=zh3 T aS++zh3 T bs:=by
 induction aS with
 |nil=>rfl
 |cons a r ih=>rw [M9,zh3,zh3,ih,Q2]
def jk6 {cs} (h:cs.all (za6 T)=true):zh3 T cs=cs:=by
 induction cs with
 |nil=>rfl
 |cons a r b=>rw [J6,X3] at h;rw [zh3,zq7 T h.1,b h.2];rfl
def vp6 {cs} (h:cs.all (za6 T)=true):zz6 T cs:=by
 induction cs with
 |nil=>trivial
 |cons a r b=>rw [J6,X3] at h;exact ⟨yc1 T h.1,b h.2⟩
def yz6 {aS bs:List (AV T.U)}:zz6 T (aS++bs)↔zz6 T aS/\zz6 T bs:=by
 induction aS with
 |nil=>simp [zz6]
 |cons a r ih=>rw [M9,zz6,zz6,ih,and_assoc]
def yk1 {U:Nat->Type} (aS bs:List (AV U)):u0 (aS++bs)=u0 aS++u0 bs:=by
 induction aS with
 |nil=>rfl
 |cons a r ih=>rw [M9,u0,u0,ih,Q2]
def yq6 {U} (cs:List (Cell U)):u0 (cs.map AV.cell)= []:=by
 induction cs with
 |nil=>rfl
 |cons a r b=>rw [U2,u0,b];rfl
def kf1 (a):u0 (jf3 T a)=a.ids:=by
 cases a<;>first|exact yq6 _|exact J7 _
def jk5 (cs):u0 (zh3 T cs)=u0 cs:=by
 induction cs with
 |nil=>rfl
 |cons a r b=>rw [zh3,yk1,kf1,b,u0]
def kl4 {U:Nat->Type} (ρ:Nat->Nat) (aS bs:List (AV U)):zi6 ρ (aS++bs)=zi6 ρ aS++zi6 ρ bs:=by
 induction aS with
 |nil=>rfl
 |cons a r ih=>rw [M9,zi6,zi6,ih];rfl
def qy8 {U} (ρ:Nat->Nat) (cs:List (Cell U)):zi6 ρ (cs.map AV.cell)=cs.map AV.cell:=by
 induction cs with
 |nil=>rfl
 |cons a r b=>rw [U2,zi6,b];rfl
def kf2 (ρ a):jf3 T (a.ren ρ)=zi6 ρ (jf3 T a):=by
 cases a<;>first|exact (qy8 ρ _).symm|rfl
def qk3 (ρ cs):zh3 T (zi6 ρ cs)=zi6 ρ (zh3 T cs):=by
 induction cs with
 |nil=>rfl
 |cons a r b=>rw [zi6,zh3,zh3,kl4,b,kf2]
def vp4 {ρ a} (h:jq8 T a):jq8 T (a.ren ρ):=by cases a<;>first|trivial|exact h
def jt8 {ρ cs} (h:zz6 T cs):zz6 T (zi6 ρ cs):=by
 induction cs with
 |nil=>trivial
 |cons a r b=>exact ⟨vp4 T h.1,b h.2⟩
def BR (w:World) (S:List Nat) (φ:Nat->RA) (cs:List (AV T.U)) (vs:List Value):Prop:=VRL T w S φ (zh3 T cs) vs/\zz6 T cs
def BR.of {w S φ cs vs} (h:VRL T w S φ cs vs) (a:cs.all (za6 T)=true):BR T w S φ cs vs:=⟨by rw [jk6 T a];exact h,vp6 T a⟩
def BR.vrl {w S φ cs vs} (h:BR T w S φ cs vs) (a:cs.all (za6 T)=true):VRL T w S φ cs vs:=by have:=h.1;rwa [jk6 T a] at this
def BR.chg {Tc S S' w w' φ} (a:Chg Tc w w') (c: ∀b∈Tc,b∈S) (d: ∀b∈S',b∈S\/w.heap.size<=b) {cs vs} (h:BR T w S φ cs vs):BR T w' S' φ cs vs:=⟨h.1.chg T a c d,h.2⟩
def BR.ren {S w φ φ' ρ cs vs} (a: ∀i∈u0 cs,φ' (ρ i)=φ i) (h:BR T w S φ cs vs):BR T w S φ' (zi6 ρ cs) vs:=
 ⟨by rw [qk3];exact VRL.ren T (by rw [jk5];exact a) h.1,jt8 T h.2⟩
def BR.renS {S w φ φ' ρ cs vs} (a: ∀i∈u0 cs,RSame (φ' (ρ i)) (φ i)) (h:BR T w S φ cs vs):BR T w S φ' (zi6 ρ cs) vs:=
 ⟨by rw [qk3];exact VRL.renS T (by rw [jk5];exact a) h.1,jt8 T h.2⟩
def MR (w:World) (S:List Nat) (φ:Nat->RA) (k:IntKind):List (Int×AV T.U)->List MapEntry->Prop
 | [],[]=>True
 |(x,a)::r,e::s=>e.key=.int k x/\VR T w S φ a e.val/\MR w S φ k r s
 |_,_=>False
def idsM {U:Nat->Type}:List (Int×AV U)->List Nat
 | []=> []
 |(_,a)::r=>a.ids++idsM r
def qa9 {U:Nat->Type} (ρ:Nat->Nat):List (Int×AV U)->List (Int×AV U)
 | []=> []
 |(x,a)::r=>(x,a.ren ρ)::qa9 ρ r
def MR.chg {Tc S S' w w' φ} (a:Chg Tc w w') (c: ∀b∈Tc,b∈S) (d: ∀b∈S',b∈S\/w.heap.size<=b) {k}: ∀ {es l},MR T w S φ k es l->MR T w' S' φ k es l
 | [],[],_=>trivial
 | [],_::_,h=>h.elim
 |_::_,[],h=>h.elim
 |(_,_)::_,_::_,h=>⟨h.1,h.2.1.chg T a c d,MR.chg a c d h.2.2⟩
def MR.ren {S w φ φ' ρ k}: ∀ {es l},(∀i∈idsM es,φ' (ρ i)=φ i)->MR T w S φ k es l->MR T w S φ' k (qa9 ρ es) l
 | [],[],_,_=>trivial
 | [],_::_,_,h=>h.elim
 |_::_,[],_,h=>h.elim
 |(_,a)::r,_::_,c,h=>⟨h.1,h.2.1.ren T fun i b=>c i (by rw [idsM];exact X4.2 (.inl b)),MR.ren (fun i b=>c i (by rw [idsM];exact X4.2 (.inr b))) h.2.2⟩
def MR.renS {S w φ φ' ρ k}: ∀ {es l},(∀i∈idsM es,RSame (φ' (ρ i)) (φ i))->MR T w S φ k es l->MR T w S φ' k (qa9 ρ es) l
 | [],[],_,_=>trivial
 | [],_::_,_,h=>h.elim
 |_::_,[],_,h=>h.elim
 |(_,a)::r,_::_,c,h=>⟨h.1,h.2.1.renS T fun i b=>c i (by rw [idsM];exact X4.2 (.inl b)),MR.renS (fun i b=>c i (by rw [idsM];exact X4.2 (.inr b))) h.2.2⟩
def TR (w:World) (S:List Nat) (k:IntKind) (t:Ty):List (Int×den T.U t)->List MapEntry->Prop
 | [],[]=>True
 |(x,a)::r,e::s=>e.key=.int k x/\CR T w S t a e.val/\TR w S k t r s
 |_,_=>False
def TR.chg {Tc S S' w w'} (a:Chg Tc w w') (c: ∀b∈Tc,b∈S) (d: ∀b∈S',b∈S\/w.heap.size<=b) {k t}: ∀ {es l},TR T w S k t es l->TR T w' S' k t es l
 | [],[],_=>trivial
 | [],_::_,h=>h.elim
 |_::_,[],h=>h.elim
 |(_,_)::_,_::_,h=>⟨h.1,h.2.1.chg T a c d,TR.chg a c d h.2.2⟩
def DC (w:World) (S:List Nat) (e:TypeId):Cell T.U->Value->Prop
 |⟨.list t,ys⟩,v=>(e=0->yl2 T w S ⟨.list t,ys⟩ v)/\(e≠0-> ∃B ad cap a,v=.slice ad (List.length (α:=den T.U t) ys) cap/\Own w B e (szT T t) ad (List.length (α:=den T.U t) ys) cap a/\B<=w.heap.size/\CellsR T w S (List.flatMap (zb5 T t) (ys:List (den T.U t))) a)
 |c,v=>yl2 T w S c v
def zx3 (e:TypeId) (c:Cell T.U) (v:Value):List Nat:=match Nat.beq e 0 with|true=> []|false=>match c.t,v with| .list _,.slice ad _ _=>zc7 ad|_,_=> []
def jz1 (sz:Nat) (b:Option (Nat×List (AV T.U))) (j:Nat):Prop:=match b with|some (a,_)=>a*sz<=j/\j<a*sz+sz|none=>False
structure DRel (w:World) (S:List Nat) (φ:Nat->RA) (r:RA) (d:Nat) (fe:List TypeId) (xs:List (T.U d)) (op:Option (Nat×List (AV T.U))) (vals:List Value):Prop where
 cl: ∀j c v,(xs.flatMap (T.cells d))[j]?=some c->vals[j]?=some v-> ¬jz1 T (T.size d) op j->DC T w S (fe.getD (j%T.size d) 0) c v/\ ∀b∈zx3 T (fe.getD (j%T.size d) 0) c v,b∈r.xs/\ ∀a,r.ad=some a->a.block≠b
 ap: ∀j j' c c' v v',j≠j'->(xs.flatMap (T.cells d))[j]?=some c->vals[j]?=some v-> ¬jz1 T (T.size d) op j->(xs.flatMap (T.cells d))[j']?=some c'->vals[j']?=some v'-> ¬jz1 T (T.size d) op j'-> ∀b∈zx3 T (fe.getD (j%T.size d) 0) c v,b∉zx3 T (fe.getD (j'%T.size d) 0) c' v'
 opn: ∀a cs,op=some (a,cs)->a<xs.length/\cs.length=T.size d/\ ∀f x,cs[f]?=some x-> ∃v,vals[a*T.size d+f]?=some v/\VR T w S φ x v
def PB (w:World) (S:List Nat) (φ:Nat->RA) (a:TypeId) (d:Nat) (u:T.U d) (b:Nat):Prop:= ∃c,Blk w b c a/\BR T w S φ (T.bl d u) c.toList
def qx1 (a:Option (Int×Nat)) (x:Int):Option Nat:=match a with|some (y,j)=>if y=x then some j else none|none=>none
def PV (w:World) (S:List Nat) (φ:Nat->RA) (r:RA) (e:TypeId) (d:Nat) (c:Option (Int×Nat)) (x:Int) (u:T.U d) (v:Value) (b:Nat):Prop:=
 v=.pointer (some ⟨b,0,none⟩)/\(∀j,qx1 c x=some j->(φ j).ad=some ⟨b,0,none⟩)/\(qx1 c x=none->b∈r.xs/\(∀a,r.ad=some a->a.block≠b)/\PB T w S φ e d u b)
structure PRel (w:World) (S:List Nat) (φ:Nat->RA) (r:RA) (k:IntKind) (be:TypeId) (d:Nat) (m:List (Int×T.U d)) (op:Option (Int×Nat)) (l:List MapEntry) (bs:List Nat):Prop where
 len:m.length=l.length
 lenb:m.length=bs.length
 nd:(m.map Prod.fst).Nodup
 at_: ∀(p:Nat) (x:Int) (u:T.U d) (e:MapEntry) (b:Nat),m[p]?=some (x,u)->l[p]?=some e->bs[p]?=some b->e.key=.int k x/\PV T w S φ r be d op x u e.val b
 ap: ∀(p p':Nat) (x x':Int) (u u':T.U d) (b:Nat),p≠p'->m[p]?=some (x,u)->m[p']?=some (x',u')->qx1 op x=none->qx1 op x'=none->bs[p]?=some b->bs[p']?≠some b
 opn: ∀x j,op=some (x,j)->x∈m.map Prod.fst
def EntR (w:World) (S:List Nat) (φ:Nat->RA) (i:Nat):Ent T.U->Prop
 | .blk e cs=> ∃g c,(φ i).ad=some ⟨g,0,none⟩/\Blk w g c e/\g∈S/\BR T w S φ cs c.toList
 | .row e t xs=> ∃B b,Own w B e (szT T t) (φ i).ad (φ i).n (φ i).cap b/\(φ i).n=xs.length/\B<=w.heap.size/\CellsR T w S (xs.flatMap (zb5 T t)) b/\ ∀a,(φ i).ad=some a->a.block∈S
 | .map k es=> ∃g l c,(φ i).ad=some ⟨g,0,none⟩/\Mp w g l c/\g∈S/\MR T w S φ k es l.toList/\MapKept.Stamped l c
 | .tmap k t m=> ∃g l c,(φ i).ad=some ⟨g,0,none⟩/\Mp w g l c/\g∈S/\TR T w S k t m l.toList/\MapKept.Stamped l c
 | .drow e d fe xs f=> ∃B b,Own w B e (T.size d) (φ i).ad (φ i).n (φ i).cap b/\(φ i).n=xs.length/\B<=w.heap.size/\(∀a,(φ i).ad=some a->a.block∈S)/\DRel T w S φ (φ i) d fe xs f b
 | .pmap k h d m f=> ∃g l c j,(φ i).ad=some ⟨g,0,none⟩/\Mp w g l c/\g∈S/\PRel T w S φ (φ i) k h d m f l.toList j/\MapKept.Stamped l c
 | .hid=>(φ i).ad=none/\(φ i).xs= []
 | .gone=>True
def At (r:RA) (a:Addr):Prop:=r.ad=some a\/a.block∈r.xs
def DC.chg {Tc S S' w w' e c v} (d:Chg Tc w w') (i: ∀b∈Tc,b∈S) (j: ∀b∈S',b∈S\/w.heap.size<=b) (k: ∀b∈zx3 T e c v,b∉Tc) (h:DC T w S e c v):DC T w' S' e c v:=by
 obtain ⟨t,x⟩:=c;cases t with
 |list t=>
  refine ⟨fun g=>(h.1 g).chg T d i j,fun g=>?_⟩;obtain ⟨B,ad,cap,f,rfl,l,m,n⟩:=h.2 g;refine ⟨B,ad,cap,f,rfl,l.chg d ?_,W7 m d.size,n.chg T d i j⟩;have o:Nat.beq e 0=false:=by cases k:Nat.beq e 0;rfl;exact absurd (X1 k) g
  cases had:ad with
  |none=>exact .inr rfl
  |some a=>subst had;exact .inl (k _ (by simp [zx3,o,zc7,bk]))
 |_=>exact CR.chg T d i j h
def DRel.chg {Tc S S' w w' φ r d fe xs l e} (m:Chg Tc w w') (n: ∀b∈Tc,b∈S) (o: ∀b∈S',b∈S\/w.heap.size<=b) (q: ∀b∈r.xs,(∀a,r.ad=some a->a.block≠b)->b∉Tc) (h:DRel T w S φ r d fe xs l e):DRel T w' S' φ r d fe xs l e:=
 ⟨fun j c v g i k=>⟨((h.cl j c v g i k).1).chg T m n o fun b p=>q b ((h.cl j c v g i k).2 b p).1 ((h.cl j c v g i k).2 b p).2,(h.cl j c v g i k).2⟩,h.ap,
  fun a cs g=>⟨(h.opn a cs g).1,(h.opn a cs g).2.1,fun f x s=>by obtain ⟨v,i,k⟩:=(h.opn a cs g).2.2 f x s;exact ⟨v,i,k.chg T m n o⟩⟩⟩
def PB.chg {Tc S S' w w' φ a d u b} (e:Chg Tc w w') (f: ∀b∈Tc,b∈S) (g: ∀b∈S',b∈S\/w.heap.size<=b) (i:b∉Tc) (h:PB T w S φ a d u b):PB T w' S' φ a d u b:=by
 obtain ⟨c,j,k⟩:=h;exact ⟨c,j.chg e i,k.chg T e f g⟩
def PRel.chg {Tc S S' w w' φ r k g d m i l j} (n:Chg Tc w w') (o: ∀b∈Tc,b∈S) (q: ∀b∈S',b∈S\/w.heap.size<=b) (s: ∀b∈r.xs,(∀a,r.ad=some a->a.block≠b)->b∉Tc) (h:PRel T w S φ r k g d m i l j):PRel T w' S' φ r k g d m i l j:=
 ⟨h.len,h.lenb,h.nd,fun p x u e b t v y=>by
  obtain ⟨z,A,B,c⟩:=h.at_ p x u e b t v y;exact ⟨z,A,B,fun f=>⟨(c f).1,(c f).2.1,(c f).2.2.chg T n o q (s b (c f).1 (c f).2.1)⟩⟩,h.ap,h.opn⟩
def Ent.live {U:Nat->Type}:Ent U->Bool| .gone=>false|_=>true
def EntR.chg {Tc S S' w w' φ} (j:Chg Tc w w') (u: ∀b∈Tc,b∈S) (v: ∀b∈S',b∈S\/w.heap.size<=b) {i e} (h:EntR T w S φ i e)
  (p:e.live=true-> ∀a,At (φ i) a->a.block∉Tc/\a.block∈S'):EntR T w' S' φ i e:=by
 cases e with
 |blk e cs=>
  obtain ⟨g,c,f,n,x,q⟩:=h;obtain ⟨r,s⟩:=p rfl _ (.inl f);exact ⟨g,c,f,n.chg j r,s,q.chg T j u v⟩
 |row e t xs=>
  obtain ⟨B,o,f,z,n,x,q⟩:=h;refine ⟨B,o,?_,z,W7 n j.size,x.chg T j u v,fun a A=>(p rfl a (.inl A)).2⟩;cases hφ:(φ i).ad with
  |none=>rw [hφ] at f;exact f.chg j (.inr rfl)
  |some a=>rw [hφ] at f;exact f.chg j (.inl (p rfl a (.inl hφ)).1)
 |map k es=>
  obtain ⟨g,l,c,f,n,x,q,y⟩:=h;obtain ⟨r,s⟩:=p rfl _ (.inl f);exact ⟨g,l,c,f,n.chg j r,s,q.chg T j u v,y⟩
 |tmap k t m=>
  obtain ⟨g,l,c,f,n,x,q,y⟩:=h;obtain ⟨r,s⟩:=p rfl _ (.inl f);exact ⟨g,l,c,f,n.chg j r,s,q.chg T j u v,y⟩
 |drow e d fe xs D=>
  obtain ⟨B,o,f,z,n,q,r⟩:=h;refine ⟨B,o,?_,z,W7 n j.size,fun a A=>(p rfl a (.inl A)).2,r.chg T j u v fun b C _=>(p rfl ⟨b,0,none⟩ (.inr C)).1⟩;cases hφ:(φ i).ad with
  |none=>rw [hφ] at f;exact f.chg j (.inr rfl)
  |some a=>rw [hφ] at f;exact f.chg j (.inl (p rfl a (.inl hφ)).1)
 |pmap k F d m D=>
  obtain ⟨g,l,c,E,f,n,x,q,y⟩:=h;obtain ⟨r,s⟩:=p rfl _ (.inl f);exact ⟨g,l,c,E,f,n.chg j r,s,q.chg T j u v fun b C _=>(p rfl ⟨b,0,none⟩ (.inr C)).1,y⟩
 |hid=>exact h
 |gone=>trivial
def kp5:Option (Int×Nat)->List Nat|some (_,j)=> [j]|none=> []
def kc6 (ρ:Nat->Nat):Option (Int×Nat)->Option (Int×Nat)|some (x,j)=>some (x,ρ j)|none=>none
mutual
def vk9 {U ρ}: ∀ {a:AV U},a.ids= []->a.ren ρ=a
 | .cell _,_=>by rw [AV.ren]
 | .ptr _ _,h=>by simp [AV.ids] at h
 | .eptr _ _ _ _,h=>by simp [AV.ids] at h
 | .lptr _ _ _ _,_=>by rw [AV.ren]
 | .own _,h=>by simp [AV.ids] at h
 | .sl _ _ _ _,h=>by simp [AV.ids] at h
 | .agg cs,h=>by rw [AV.ren,ye5 (by rwa [AV.ids] at h)]
 | .tup cs,h=>by rw [AV.ren,ye5 (by rwa [AV.ids] at h)]
 | .fn _ a b,h=>by rw [AV.ids,A2] at h;rw [AV.ren,ye5 h.1,ye5 h.2]
 | .ifc _ a,h=>by rw [AV.ren,vk9 (by rwa [AV.ids] at h)]
 | .raw _,_=>by rw [AV.ren]
 | .arr _ _ _,_=>by rw [AV.ren]
 | .aptr _ _ _ _ _ _,h=>by simp [AV.ids] at h
 | .asl _ _ _ _ _ _,h=>by simp [AV.ids] at h
 | .mp _,h=>by simp [AV.ids] at h
 | .hmp _,h=>by simp [AV.ids] at h
def ye5 {U:Nat->Type} {ρ:Nat->Nat}: ∀ {aS:List (AV U)},u0 aS= []->zi6 ρ aS=aS
 | [],_=>by rw [zi6]
 |a::r,h=>by rw [u0,A2] at h;rw [zi6,vk9 h.1,ye5 h.2]
end
def PB.renS {w:World} {S:List Nat} {φ φ':Nat->RA} {a:TypeId} {d:Nat} {u:T.U d} {b:Nat} (h:PB T w S φ a d u b):PB T w S φ' a d u b:=by
 obtain ⟨c,f,g⟩:=h;have:=g.renS T (ρ:=id) (φ':=φ') fun i e=>by rw [T.bl0] at e;cases e
 rw [ye5 (T.bl0 d u)] at this;exact ⟨c,f,this⟩
def yw3 {ρ a x}:qx1 (kc6 ρ a) x=(qx1 a x).map ρ:=by
 cases a with
 |none=>rfl
 |some p=>obtain ⟨y,j⟩:=p;simp only [kc6,qx1];split<;>rfl
def kh2 {a x j} (h:qx1 a x=some j):j∈kp5 a:=by
 cases a with
 |none=>cases h
 |some p=>obtain ⟨y,i⟩:=p;simp only [qx1] at h;split at h<;>simp_all [kp5]
def PRel.renS {w S φ φ' ρ r k t d m f l v} (A: ∀k∈kp5 f,RSame (φ' (ρ k)) (φ k)) (h:PRel T w S φ r k t d m f l v):PRel T w S φ' r k t d m (kc6 ρ f) l v:=by
 refine ⟨h.len,h.lenb,h.nd,fun p x u e b n o q=>?_,fun p B x C u D b E n o q F=>h.ap p B x C u D b E n o ?_ ?_,fun x j a=>?_⟩
 ·obtain ⟨G,H,I,s⟩:=h.at_ p x u e b n o q;refine ⟨G,H,fun j a=>?_,fun g=>?_⟩
  ·rw [yw3] at a;obtain ⟨z,c,rfl⟩:=T4.1 a;exact (A z (kh2 c)).1.trans (I z c)
  ·rw [yw3,Option.map_eq_none_iff] at g;exact ⟨(s g).1,(s g).2.1,(s g).2.2.renS T⟩
 ·rwa [yw3,Option.map_eq_none_iff] at q
 ·rwa [yw3,Option.map_eq_none_iff] at F
 ·cases f with
  |none=>cases a
  |some p=>
   obtain ⟨y,i⟩:=p;simp only [kc6,X0,X7] at a;exact a.1▸h.opn y i rfl
def gm5 {U:Nat->Type}:Option (Nat×List (AV U))->List Nat|some (_,cs)=>u0 cs|none=> []
def kc7 {U:Nat->Type} (ρ:Nat->Nat):Option (Nat×List (AV U))->Option (Nat×List (AV U))|some (a,cs)=>some (a,zi6 ρ cs)|none=>none
def qs2 {U:Nat->Type} {ρ:Nat->Nat} {x:AV U}: ∀ {cs:List (AV U)} {f:Nat},(zi6 ρ cs)[f]?=some x-> ∃y,cs[f]?=some y/\x=y.ren ρ
 | [],f,h=>by simp [zi6] at h
 |a::r,0,h=>by simp [zi6] at h;exact ⟨a,rfl,h.symm⟩
 |a::r,f+1,h=>by simp [zi6] at h;simpa using qs2 h
def qs3 {U ρ}: ∀(cs:List (AV U)),(zi6 ρ cs).length=cs.length
 | []=>rfl
 |a::r=>by simp [zi6,qs3 r]
def vg2 {U:Nat->Type} {i:Nat} {x:AV U}: ∀ {cs:List (AV U)} {f:Nat},cs[f]?=some x->i∈x.ids->i∈u0 cs
 | [],f,h,_=>by simp at h
 |a::r,0,h,b=>by simp at h;subst h;rw [u0];exact X4.2 (.inl b)
 |a::r,f+1,h,b=>by simp at h;rw [u0];exact X4.2 (.inr (vg2 h b))
def jk8 {sz j ρ} (a):jz1 T sz (kc7 ρ a) j↔jz1 T sz a j:=by cases a<;>exact Iff.rfl
def DRel.renS {w S φ φ' ρ r d fe xs e b} (u: ∀k∈gm5 e,RSame (φ' (ρ k)) (φ k)) (h:DRel T w S φ r d fe xs e b):DRel T w S φ' r d fe xs (kc7 ρ e) b:=by
 refine ⟨fun j c v l m n=>h.cl j c v l m fun q=>n ((jk8 T e).2 q),fun j z c c' v A B l m n o s C=>h.ap j z c c' v A B l m (fun q=>n ((jk8 T e).2 q)) o s fun q=>C ((jk8 T e).2 q),fun a cs g=>?_⟩;cases e with
 |none=>cases g
 |some p=>
  obtain ⟨G,D⟩:=p;simp only [kc7,X0,X7] at g;obtain ⟨rfl,rfl⟩:=g;obtain ⟨l,m,n⟩:=h.opn _ _ rfl;refine ⟨l,by rw [qs3];exact m,fun f x E=>?_⟩;obtain ⟨y,t,rfl⟩:=qs2 E;obtain ⟨v,o,s⟩:=n f y t;exact ⟨v,o,s.renS T fun i F=>u i (vg2 t F)⟩
end
end Go.X
namespace Go.X
open Go.RowKit Go.V
section
variable (T:Tab) (P:Program)
abbrev AF:=List (Nat×AV T.U)
def AF.get:AF T->Nat->Option (AV T.U)
 | [],_=>none
 |(j,v)::r,i=>match Nat.beq j i with|true=>some v|false=>AF.get r i
def za9 (F:AF T) (dst:Option Tmp) (v:AV T.U):AF T:=match dst with|some d=>(d,v)::F|none=>F
structure St where
 F:AF T
 H:List (Ent T.U)
def yi9:Value->AV T.U
 | .int k x=>.cell ⟨.int k,x⟩
 | .bool b=>.cell ⟨.bool,b⟩
 | .string s=>.cell ⟨.str,s⟩
 |v=>.raw v
def ofV:Value->AV T.U
 | .agg cs=>.agg (cs.toList.map (yi9 T))
 |v=>yi9 T v
def aev (F:AF T):Operand->Option (AV T.U)
 | .tmp t=>F.get T t
 | .const v=>some (ofV T v)
 | .func f=>some (.fn (.func f) [] [])
 | .global _=>none
def zv9 (F:AF T):List Operand->Option (List (AV T.U))
 | []=>some []
 |x::r=>match aev T F x,zv9 F r with|some a,some l=>some (a::l)|_,_=>none
def vw3:AV T.U->Option Value
 | .cell ⟨.int k,x⟩=>some (.int k x)
 | .cell ⟨.bool,b⟩=>some (.bool b)
 | .cell ⟨.str,s⟩=>some (.string s)
 | .raw v=>some v
 |_=>none
def qu4:List (AV T.U)->Option (List Value)
 | []=>some []
 |a::r=>match vw3 T a,qu4 r with|some v,some l=>some (v::l)|_,_=>none
def gl9:AV T.U->Option Value
 | .agg cs=>match qu4 T cs with|some l=>some (.agg l.toArray)|none=>none
 |a=>vw3 T a
abbrev cI (k:IntKind) (x:Int):AV T.U:=.cell ⟨.int k,x⟩
abbrev cB (b:Bool):AV T.U:=.cell ⟨.bool,b⟩
def gl6 (b:BinOp) (k:IntKind) (x y:Int):Option (AV T.U):=
 match b with
 | .add=>some (cI T k (k.wrap (x+y)))
 | .sub=>some (cI T k (k.wrap (x-y)))
 | .mul=>some (cI T k (k.wrap (x*y)))
 | .and=>some (cI T k (zo9 k x y))
 | .or=>some (cI T k (bOr k x y))
 | .xor=>some (cI T k (zt9 k x y))
 | .andNot=>some (cI T k (ve9 k x y))
 | .eql=>some (cB T (x==y))
 | .neq=>some (cB T (x != y))
 | .lss=>some (cB T (decide (x<y)))
 | .leq=>some (cB T (decide (x<=y)))
 | .gtr=>some (cB T (decide (x>y)))
 | .geq=>some (cB T (decide (x>=y)))
 |_=>none
def zf0 (a b:IntKind):Bool:=match a,b with
 | .i8,.i8| .i16,.i16| .i32,.i32| .i64,.i64| .u8,.u8| .u16,.u16| .u32,.u32| .u64,.u64=>true
 |_,_=>false
def gn8 (t:TypeId) (lit:Bool):AV T.U->AV T.U->Option Bool
 | .raw n,a=>match P.underlying t with
  |some (.pointer _)=>match n with
   | .pointer none=>(match a with| .raw (.pointer none)=>some true| .ptr _ _=>some false| .eptr _ _ _ _=>some false| .lptr _ _ _ _=>some false| .aptr _ _ _ _ _ _=>some false|_=>none)
   |_=>none
  |some (.func _ _ _)=>match n with
   | .nilFunc=>(match a with| .raw .nilFunc=>some true| .fn _ _ _=>some false|_=>none)
   |_=>none
  |some (.interface b)=>match n with
   | .nilIface=>(match a with| .ifc _ _=>some false| .raw .nilIface=>(match lit||b.isEmpty with|true=>some true|false=>none)|_=>none)
   |_=>none
  |some (.map _ _)=>match n with
   | .map none=>(match a with| .raw (.map none)=>some true| .mp _=>some false|_=>none)
   |_=>none
  |some (.slice _)=>match n with
   | .slice none _ _=>(match a with| .raw (.slice none _ _)=>some true| .asl _ _ _ _ _ _=>some false|_=>none)
   |_=>none
  |_=>none
 |_,_=>none
def jo2 (neg r:Bool):Bool:=match neg with|true=> !r|false=>r
def eqA (t:TypeId) (lit:Bool) (a b:AV T.U) (neg:Bool):Option (AV T.U):=
 match gn8 T P t lit a b with
 |some r=>some (cB T (jo2 neg r))
 |none=>match gn8 T P t lit b a with
 |some r=>some (cB T (jo2 neg r))
 |none=>match gl9 T a,gl9 T b with
 |some (.bool x),some (.bool y)=>match eqB P 10000 t (.bool x) (.bool y) with|some r=>some (cB T (match neg with|true=> !r|false=>r))|none=>none
 |some (.agg x),some (.agg y)=>let x:=Value.agg x;let y:=Value.agg y;match P.eqGuardType P.depth t with
  |false=>match eqB P 10000 t x y with|some r=>some (cB T (match neg with|true=> !r|false=>r))|none=>none
  |true=>none
 |_,_=>none
def jf9:Operand->Bool| .const _=>true|_=>false
def ga7 (b:BinOp) (t:TypeId) (lit:Bool) (x y:AV T.U):Option (AV T.U):=
 match b,x,y with
 |b,.cell ⟨.int k,x⟩,.cell ⟨.int a,y⟩=>match zf0 k a with|true=>gl6 T b k x y|false=>none
 | .eql,.cell ⟨.str,x⟩,.cell ⟨.str,y⟩=>some (cB T (ByteArray.toList x==ByteArray.toList y))
 | .neq,.cell ⟨.str,x⟩,.cell ⟨.str,y⟩=>some (cB T (!(ByteArray.toList x==ByteArray.toList y)))
 | .eql,x,y=>eqA T P t lit x y false
 | .neq,x,y=>eqA T P t lit x y true
 |_,_,_=>none
def unI (u:UnOp) (k:IntKind) (x:Int):Option (AV T.U):=match u with| .neg=>some (cI T k (k.wrap (0-x)))| .xor=>some (cI T k (zt9 k (if k.signed then-1 else k.max) x))|_=>none
def unA (u:UnOp):AV T.U->Option (AV T.U)
 | .cell ⟨.int k,x⟩=>unI T u k x
 | .cell ⟨.bool,b⟩=>match u with| .not=>some (cB T (!b))|_=>none
 |_=>none
def qc2 (t:TypeId) (j:Nat):Option (TypeId×Nat×Nat×Bool):=
 match P.underlying t with
 |some (.struct a)=>match a[j]? with
  |some f=>match P.info? f.type,P.underlying f.type with|some i,some d=>some (f.type,f.offset,i.size,zz9 d)|_,_=>none
  |none=>none
 |_=>none
def jn4 (cs:List (AV T.U)) (o n:Nat) (agg:Bool):Option (AV T.U):=
 match agg with
 |true=>match Nat.ble (o+n) cs.length with|true=>some (.agg ((cs.drop o).take n))|false=>none
 |false=>cs[o]?
def qc1 (t:TypeId) (j:Nat):AV T.U->Option (AV T.U)
 | .agg cs=>match qc2 P t j with|some (_,o,n,a)=>jn4 T cs o n a|none=>none
 |_=>none
def ze9:AV T.U->List (AV T.U)
 | .agg cs=>cs
 |a=> [a]
def yi7 (cs:List (AV T.U)) (o:Nat):List (AV T.U)->List (AV T.U)
 | []=>cs
 |a::r=>yi7 (cs.set o a) (o+1) r
def intOf:AV T.U->Option Int
 | .cell ⟨.int _,x⟩=>some x
 |_=>none
def wt0 (c:Bool) (x y:Int):Int:=if c=true then x else y
def ws9 (c:Bool) (x y:Bool):Bool:=if c=true then x else y
def kx7 (c:Bool):AV T.U->AV T.U->Option (AV T.U)
 | .cell ⟨.int k,x⟩,.cell ⟨.int a,y⟩=>match zf0 k a with|true=>some (cI T k (wt0 c x y))|false=>none
 | .cell ⟨.bool,x⟩,.cell ⟨.bool,y⟩=>some (cB T (ws9 c x y))
 |_,_=>none
def ks1 (f:Field):Option (Nat×Nat):=match P.info? f.type with|some i=>some (f.offset,i.size)|none=>none
def ge7 {α a:Type} (f:α->Option a):List α->Option (List a)
 | []=>some []
 |x::r=>match f x,ge7 f r with|some y,some l=>some (y::l)|_,_=>none
def qa0 (t:TypeId):Option (List (Nat×Nat)):=
 match P.underlying t with
 |some (.struct a)=>ge7 (ks1 P) a.toList
 |_=>none
def ks0 (t:TypeId):Option (Nat->Option (Nat×Nat)):=
 match P.underlying t with
 |some (.struct _)=>match qa0 P t with|some a=>some (fun i=>a[i]?)|none=>none
 |some (.array _ e)=>match P.info? e with|some i=>some (fun k=>some (k*i.size,i.size))|none=>none
 |_=>none
def zu7:AV T.U->Bool
 | .agg _=>false| .tup _=>false| .eptr _ _ _ _=>false| .lptr _ _ _ _=>false| .raw (.agg _)=>false| .raw (.tuple _)=>false| .arr _ _ _=>false
 |_=>true
def ya9:AV T.U->Bool
 | .agg _=>true
 |a=>zu7 T a
def yv3 (b:Nat->Option (Nat×Nat)) (cs:List (AV T.U)):List (Nat×AV T.U)->Option (List (AV T.U))
 | []=>some cs
 |(i,a)::r=>match b i with
  |some (o,n)=>match ya9 T a&&(Nat.beq (ze9 T a).length n&&Nat.ble (o+(ze9 T a).length) cs.length) with
   |true=>yv3 b (yi7 T cs o (ze9 T a)) r
   |false=>none
  |none=>none
def qg4 (e:TypeId):Option (List (AV T.U)):=match qg5 P e with|some c=>some (c.toList.map (yi9 T))|none=>none
def zs0 (F:AF T):List (Nat×Operand)->Option (List (Nat×AV T.U))
 | []=>some []
 |(i,x)::r=>match aev T F x,zs0 F r with|some a,some l=>some ((i,a)::l)|_,_=>none
def wp8:List (AV T.U)->Option (AV T.U)
 | [.cell ⟨.int k,x⟩]=>some (cI T k x)
 | [.cell ⟨.int k,x⟩,.cell ⟨.int a,y⟩]=>match zf0 k a with|true=>some (cI T k (gd5 x y))|false=>none
 |_=>none
def wp7:List (AV T.U)->Option (AV T.U)
 | [.cell ⟨.int k,x⟩]=>some (cI T k x)
 | [.cell ⟨.int k,x⟩,.cell ⟨.int a,y⟩]=>match zf0 k a with|true=>some (cI T k (kp3 x y))|false=>none
 |_=>none
def kp7 (t:TypeId):Option IntKind:=match P.underlying t with|some (.int k)=>some k|_=>none
def qw6 (a:AV T.U) (f:Nat):Option (AV T.U):=
 match a with
 | .ptr i o=>some (.ptr i (o+f))
 | .eptr i sz k c=>some (.eptr i sz k (c+f))
 | .lptr e xs k c=>some (.lptr e xs k (c+f))
 | .aptr i o sz n k c=>some (.aptr i o sz n k (c+f))
 |_=>none
def jh2 (o:Op) (F:AF T):Option (AV T.U):=
 match o with
 | .move x=>aev T F x
 | .assign x=>aev T F x
 | .binOp b t x y _=>match aev T F x,aev T F y with|some a,some c=>ga7 T P b t (jf9 x||jf9 y) a c|_,_=>none
 | .unOp u _ x=>match aev T F x with|some a=>unA T u a|none=>none
 | .convert s d x=>match aev T F x,kp7 P d,P.underlying s with|some (.cell ⟨.int _,x⟩),some k,some _=>some (cI T k (k.wrap x))|_,_,_=>none
 | .extract x i=>match aev T F x with|some (.tup vs)=>vs[i]?|_=>none
 | .field t x j=>match aev T F x with|some a=>qc1 T P t j a|none=>none
 | .makeInterface t x=>match aev T F x,P.underlying t with
  |some a,some d=>(match d with| .interface _=>none|_=>some (.ifc t a))
  |_,_=>none
 | .makeFunc f a b=>match zv9 T F a.toList,zv9 T F b.toList with|some x,some y=>some (.fn f x y)|_,_=>none
 | .build t ps=>match ks0 P t,qg4 T P t,zs0 T F ps.toList with
  |some e,some z,some l=>(match yv3 T e z l with|some cs=>some (.agg cs)|none=>none)
  |_,_,_=>none
 | .fieldAddr t x j=>match aev T F x,qc2 P t j with
  |some a,some (_,f,n,_)=>(match Nat.beq n 0 with|true=>none|false=>qw6 T a f)
  |_,_=>none
 |_=>none
def divA {R:Type} (b:BinOp) (x y:AV T.U) (K:AV T.U->Option R):Option R:=
 match b,x,y with
 | .quo,.cell ⟨.int k,x⟩,.cell ⟨.int a,y⟩=>match zf0 k a with|true=>divI k x y K|false=>none
 | .rem,.cell ⟨.int k,x⟩,.cell ⟨.int a,y⟩=>match zf0 k a with|true=>remI k x y K|false=>none
 | .shl,.cell ⟨.int k,x⟩,.cell ⟨.int _,y⟩=>shlI k x y K
 | .shr,.cell ⟨.int k,x⟩,.cell ⟨.int _,y⟩=>shrI k x y K
 |_,_,_=>none
where
 divI {R:Type} (k:IntKind) (x y:Int) (K:AV T.U->Option R):Option R:=if y=0 then none else K (cI T k (k.wrap (x.tdiv y)))
 remI {R:Type} (k:IntKind) (x y:Int) (K:AV T.U->Option R):Option R:=if y=0 then none else K (cI T k (x.tmod y))
 shlI {R:Type} (k:IntKind) (x y:Int) (K:AV T.U->Option R):Option R:=if y<0 then none else K (cI T k (yg4 k x y))
 shrI {R:Type} (k:IntKind) (x y:Int) (K:AV T.U->Option R):Option R:=if y<0 then none else K (cI T k (je4 k x y))
def qg1 {R:Type} (s:ByteArray) (j:Int) (K:Int->Option R):Option R:=match (if 0<=j then s[j.toNat]? else none) with|some b=>K (b.toNat:Int)|none=>none
def ug1 (H:List (Ent T.U)):AV T.U->Option Nat
 | .cell ⟨.list _,xs⟩=>some (List.length (α:=den T.U _) xs)
 | .own i=>match H[i]? with|some (.row _ _ xs)=>some xs.length|some (.drow _ _ _ xs _)=>some xs.length|_=>none
 | .sl _ _ _ n=>some n
 | .asl _ _ _ _ _ m=>some m
 | .raw (.slice none 0 0)=>some 0
 |_=>none
section
variable {R:Type}
def zt5 (t:TypeId) (cs:List (AV T.U)) (o:Nat):Option (AV T.U):=
 match P.info? t,P.underlying t with
 |some i,some d=>jn4 T cs o i.size (zz9 d)
 |_,_=>none
def yx7:List (AV T.U)->Nat->Option (List (AV T.U))
 | [],_=>none
 |a::r,o=>match Nat.beq o 0 with
  |true=>some (a::r)
  |false=>match Nat.ble (wd T a) o with|true=>yx7 r (o-wd T a)|false=>none
def yw9 (f:List (AV T.U)->Option (List (AV T.U))):List (AV T.U)->Nat->Option (List (AV T.U))
 | [],o=>match Nat.beq o 0 with|true=>f []|false=>none
 |a::r,o=>match Nat.beq o 0 with
  |true=>f (a::r)
  |false=>match Nat.ble (wd T a) o with
   |true=>(match yw9 f r (o-wd T a) with|some l=>some (a::l)|none=>none)
   |false=>none
def ja5 {U:Nat->Type}:AV U->Option ((t:Ty)×Nat×List (den U t))| .arr t n xs=>some ⟨t,n,xs⟩|_=>none
def ko3 (cs:List (AV T.U)) (o n:Nat) (agg:Bool):Option (AV T.U):=
 match yx7 T cs o with
 |some (a::r)=>match agg with
  |false=>match za6 T a with|true=>some a|false=>none
  |true=>match ja5 a with
   |some ⟨t,m,xs⟩=>match Nat.beq (m*szT T t) n with|true=>some (.arr t m xs)|false=>none
   |none=>match Nat.ble n (r.length+1)&&((a::r).take n).all (za6 T) with|true=>some (.agg ((a::r).take n))|false=>none
 |_=>none
def jc2 (t:TypeId) (cs:List (AV T.U)) (o:Nat):Option (AV T.U):=
 match P.info? t,P.underlying t with
 |some i,some d=>ko3 T cs o i.size (zz9 d)
 |_,_=>none
def zg3 (t:TypeId):Option (Nat×Nat):=
 match P.underlying t with
 |some (.array n e)=>match P.info? e with|some i=>some (n,i.size)|none=>none
 |_=>none
def putOnes:List (AV T.U)->List (AV T.U)->Option (List (AV T.U))
 |cs,[]=>some cs
 | [],_::_=>none
 |a::r,b::l=>match za6 T a&&za6 T b with|true=>(match putOnes r l with|some s=>some (b::s)|none=>none)|false=>none
def qe4 (t:Ty) (n:Nat) (xs:List (den T.U t)):List (AV T.U)->Option (List (AV T.U))
 |a::r=>match ja5 a with
  |some ⟨b,c,_⟩=>match Nat.beq c n&&Nat.beq (szT T b) (szT T t) with|true=>some (.arr t n xs::r)|false=>none
  |none=>none
 | []=>none
def zu6 (t:Ty) (x:den T.U t):List (AV T.U):=(zb5 T t x).map .cell
def loadA (t:TypeId) (H:List (Ent T.U)):AV T.U->Option (AV T.U)
 | .ptr i o=>match H[i]? with|some (.blk _ cs)=>(match jc2 T P t cs o with|some (.eptr _ _ _ _)=>none|r=>r)|_=>none
 | .aptr i o sz n k c=>match H[i]? with
  |some (.blk _ cs)=>match yx7 T cs o with
   |some (a::_)=>match ja5 a with
    |some ⟨ty,b,xs⟩=>match Nat.beq b n&&Nat.beq (szT T ty) sz with|true=>zt5 T P t (zu6 T ty (xs.getD k (zz2 T ty))) c|false=>none
    |none=>none
   |_=>none
  |_=>none
 | .eptr i _ k c=>match H[i]? with|some (.row _ ty xs)=>zt5 T P t (zu6 T ty (xs.getD k (zz2 T ty))) c|_=>none
 | .lptr e xs k c=>zt5 T P t (zu6 T e (xs.getD k (zz2 T e))) c
 |_=>none
def qb5:AV T.U->Option (Cell T.U)
 | .cell c=>some c
 |_=>none
def cellsOf:List (AV T.U)->Option (List (Cell T.U))
 | []=>some []
 |a::r=>match qb5 T a,cellsOf r with|some c,some l=>some (c::l)|_,_=>none
def ks2 (cs:List (Cell T.U)) (o:Nat):List (Cell T.U)->List (Cell T.U)
 | []=>cs
 |a::r=>ks2 (cs.set o a) (o+1) r
def jn8 (t:TypeId) (o n:Nat) (a:AV T.U):Bool:=
 match P.info? t with
 |some i=>ya9 T a&&(Nat.beq (ze9 T a).length i.size&&(Nat.ble (o+i.size) n&&(ze9 T a).all (zu7 T)))
 |none=>false
def qa2 (n sz k c:Nat) (l:List (Cell T.U)):List (AV T.U)->Option (List (AV T.U))
 |a::r=>match ja5 a with
  |some ⟨ty,b,xs⟩=>match Nat.beq b n&&(Nat.beq (szT T ty) sz&&Nat.ble (c+l.length) sz) with
   |true=>match yp4 T ty (ks2 T (zb5 T ty (xs.getD k (zz2 T ty))) c l) with|some y=>some (.arr ty b (xs.set k y)::r)|none=>none
   |false=>none
  |none=>none
 | []=>none
def ji4 (ty:Ty):Nat->List (AV T.U)->Option (List (den T.U ty))
 |0,[]=>some []
 |0,_=>none
 |n+1,cs=>match cellsOf T (cs.take (szT T ty)) with
  |some l=>match yp4 T ty l,ji4 ty n (cs.drop (szT T ty)) with|some x,some r=>some (x::r)|_,_=>none
  |none=>none
def vc2 (b:List (AV T.U)):List (AV T.U)->Option (List (AV T.U))
 |a::r=>match ja5 a with
  |some ⟨t,n,_⟩=>match ji4 T t n b with|some xs=>qe4 T t n xs (a::r)|none=>none
  |none=>none
 | []=>none
def gg1 (a l:List (AV T.U)):Option (List (AV T.U)):=match putOnes T l a with|some r=>some r|none=>vc2 T a l
def storeB (t:TypeId) (cs:List (AV T.U)) (o:Nat) (a:AV T.U):Option (List (AV T.U)):=
 match ja5 a with
 |some ⟨ty,n,xs⟩=>match P.info? t with
  |some i=>match Nat.beq (n*szT T ty) i.size with|true=>yw9 T (qe4 T ty n xs) cs o|false=>none
  |none=>none
 |none=>match jn8 T P t 0 (ze9 T a).length a with|true=>yw9 T (gg1 T (ze9 T a)) cs o|false=>none
def je1 (t:TypeId) (H:List (Ent T.U)) (p a:AV T.U):Option (List (Ent T.U)):=
 match p with
 | .ptr i o=>match H[i]? with
  |some (.blk e cs)=>match storeB T P t cs o a with|some b=>some (H.set i (.blk e b))|none=>none
  |_=>none
 | .aptr i o sz n k c=>match H[i]? with
  |some (.blk e cs)=>match jn8 T P t 0 (ze9 T a).length a,cellsOf T (ze9 T a) with
   |true,some l=>(match yw9 T (qa2 T n sz k c l) cs o with|some b=>some (H.set i (.blk e b))|none=>none)
   |_,_=>none
  |_=>none
 | .eptr i _ k c=>match H[i]? with
  |some (.row e ty xs)=>match jn8 T P t c (szT T ty) a,cellsOf T (ze9 T a) with
   |true,some l=>match yp4 T ty (ks2 T (zb5 T ty (xs.getD k (zz2 T ty))) c l) with|some y=>some (H.set i (.row e ty (xs.set k y)))|none=>none
   |_,_=>none
  |_=>none
 |_=>none
structure Elems where
 ty:TypeId->Option Ty
def yt2 (t:TypeId) (e:Ty):Bool:=match zn3 P t with|some s=>Nat.beq s (szT T e)|none=>false
def wr2 (H:List (Ent T.U)) (i o:Nat):Bool:=match H[i]? with|some (.blk _ cs)=>(match yx7 T cs o with|some (a::_)=>(ja5 a).isSome|_=>false)|_=>true
def zw5 (t:TypeId) (H:List (Ent T.U)) (s:AV T.U) (j:Int) (K:AV T.U->Option R):Option R:=
 match s with
 | .cell ⟨.list e,xs⟩=>match yt2 T P t e with
  |true=>if 0<=j/\j<((List.length (α:=den T.U e) xs:Nat):Int) then K (.lptr e xs j.toNat 0) else none
  |false=>none
 | .own i=>match H[i]? with
  |some (.row _ ty xs)=>match yt2 T P t ty with
   |true=>if 0<=j/\j<((xs.length:Nat):Int) then K (.eptr i (szT T ty) j.toNat 0) else none
   |false=>none
  |_=>none
 | .sl i sz o n=>match H[i]? with
  |some (.row _ ty xs)=>match yt2 T P t ty,Nat.beq sz (szT T ty) with
   |true,true=>if 0<=j/\j<((n:Nat):Int) then (if o+j.toNat<xs.length then K (.eptr i sz (o+j.toNat) 0) else none) else none
   |_,_=>none
  |some (.blk _ _)=>match zn3 P t with
   |some s=>match Nat.beq s sz with
    |true=>if 0<=j/\j<((n:Nat):Int) then K (.ptr i ((o+j.toNat)*sz)) else none
    |false=>none
   |none=>none
  |_=>none
 | .asl i o sz n lo m=>match zn3 P t with
  |some s=>match Nat.beq s sz with
   |true=>if 0<=j/\j<((m:Nat):Int) then (match wr2 T H i o with|true=>K (.aptr i o sz n (lo+j.toNat) 0)|false=>K (.ptr i (o+(lo+j.toNat)*sz))) else none
   |false=>none
  |none=>none
 |_=>none
def yd7 (n sz:Nat) (H:List (Ent T.U)) (s:AV T.U) (j:Int) (K:AV T.U->Option R):Option R:=
 match s with
 | .ptr i o=>match H[i]? with
  |some (.blk _ cs)=>match yx7 T cs o with
   |some (a::_)=>match ja5 a with
    |some ⟨ty,m,_⟩=>match Nat.beq m n&&Nat.beq (szT T ty) sz with
     |true=>if 0<=j/\j<((n:Nat):Int) then K (.aptr i o sz n j.toNat 0) else none
     |false=>none
    |none=>if 0<=j/\j<((n:Nat):Int) then K (.ptr i (o+j.toNat*sz)) else none
   |_=>none
  |_=>none
 | .lptr e xs k c=>match Nat.beq (szT T e) sz&&Nat.beq c 0 with
  |true=>if 0<=j/\j<((n:Nat):Int) then (if k+j.toNat<List.length (α:=den T.U e) xs then K (.lptr e xs (k+j.toNat) 0) else none) else none
  |false=>none
 | .eptr i s k c=>match H[i]? with
  |some (.row _ ty xs)=>match Nat.beq (szT T ty) sz&&(Nat.beq s sz&&Nat.beq c 0) with
   |true=>if 0<=j/\j<((n:Nat):Int) then (if k+j.toNat<xs.length then K (.eptr i sz (k+j.toNat) 0) else none) else none
   |false=>none
  |_=>none
 |_=>none
def yp2 (n sz:Nat) (H:List (Ent T.U)) (s:AV T.U) (b d:Option Int) (K:AV T.U->Option R):Option R:=
 let l:=b.getD 0
 let h:=d.getD ((n:Nat):Int)
 match s with
 | .ptr i o=>match H[i]? with
  |some (.blk _ cs)=>match yx7 T cs o with
   |some (a::_)=>match ja5 a with
    |some ⟨ty,m,_⟩=>match Nat.beq m n&&Nat.beq (szT T ty) sz with
     |true=>if 0<=l/\l<=h/\h<=((n:Nat):Int) then K (.asl i o sz n l.toNat (h.toNat-l.toNat)) else none
     |false=>none
    |none=>none
   |_=>none
  |_=>none
 | .lptr e xs k c=>match Nat.beq (szT T e) sz&&(Nat.beq c 0&&Nat.beq k 0) with
  |true=>if n<=List.length (α:=den T.U e) xs then (if 0<=l/\l<=h/\h<=((n:Nat):Int) then K (.cell ⟨.list e,(List.take (h.toNat-l.toNat) (List.drop l.toNat (xs:List (den T.U e))))⟩) else none) else none
  |false=>none
 |_=>none
def yn5 (n sz:Nat) (H:List (Ent T.U)) (s:AV T.U) (K:AV T.U->Option R):Option R:=
 match s with
 | .cell ⟨.list e,xs⟩=>match Nat.beq (szT T e) sz&&Nat.ble 1 n with
  |true=>if n<=List.length (α:=den T.U e) xs then K (.lptr e xs 0 0) else none
  |false=>none
 | .own i=>match H[i]? with
  |some (.row _ ty xs)=>match Nat.beq (szT T ty) sz&&Nat.ble 1 n with
   |true=>if n<=xs.length then K (.eptr i sz 0 0) else none
   |false=>none
  |_=>none
 |_=>none
def ym4 (n sz:Nat) (a:Bool) (H:List (Ent T.U)) (s:AV T.U) (K:AV T.U->Option R) (D:Option R):Option R:=
 match s with
 | .lptr e xs k c=>match a&&(Nat.beq (szT T e) sz&&Nat.beq c 0) with
  |true=>if k+n<=List.length (α:=den T.U e) xs then K (.arr e n (List.take n (List.drop k (xs:List (den T.U e))))) else none
  |false=>D
 | .eptr i s k c=>match H[i]? with
  |some (.row _ ty xs)=>match a&&(Nat.beq (szT T ty) sz&&(Nat.beq s sz&&Nat.beq c 0)) with
   |true=>if k+n<=xs.length then K (.arr ty n (List.take n (List.drop k xs))) else none
   |false=>D
  |_=>D
 |_=>D
def eIs (t:TypeId) (e:Ty):Bool:=match zp5 P t with|some (_,sz,_,_)=>Nat.beq sz (szT T e)|none=>false
def ye7 (t:TypeId) (H:List (Ent T.U)) (s:AV T.U) (a b:Option Int) (K:AV T.U->Option R):Option R:=
 match s with
 | .cell ⟨.list e,xs⟩=>
  let n:=List.length (α:=den T.U e) xs
  let l:=a.getD 0
  let h:=b.getD ((n:Nat):Int)
  match eIs T P t e with
  |true=>if 0<=l/\l<=h/\h<=((n:Nat):Int) then K (.cell ⟨.list e,(List.take (h.toNat-l.toNat) (List.drop l.toNat (xs:List (den T.U e))))⟩) else none
  |false=>none
 | .own i=>match H[i]? with
  |some (.row _ ty xs)=>
   let l:=a.getD 0
   let h:=b.getD ((xs.length:Nat):Int)
   match eIs T P t ty with
   |true=>if 0<=l/\l<=h/\h<=((xs.length:Nat):Int) then K (.sl i (szT T ty) l.toNat (h.toNat-l.toNat)) else none
   |false=>none
  |_=>none
 | .sl i sz o n=>match H[i]? with
  |some (.row _ ty xs)=>
   let l:=a.getD 0
   let h:=b.getD ((n:Nat):Int)
   match eIs T P t ty,Nat.beq sz (szT T ty) with
   |true,true=>if 0<=l/\l<=h/\(h<=((n:Nat):Int)\/(((o:Nat):Int)+h<=((xs.length:Nat):Int)/\(o=0\/0<n))) then K (.sl i sz (o+l.toNat) (h.toNat-l.toNat)) else none
   |_,_=>none
  |_=>none
 | .asl i o sz n c m=>
  let l:=a.getD 0
  let h:=b.getD ((m:Nat):Int)
  match zp5 P t with
  |some (_,s,_,_)=>match Nat.beq s sz with
   |true=>if 0<=l/\l<=h/\((c:Nat):Int)+h<=((n:Nat):Int) then K (.asl i o sz n (c+l.toNat) (h.toNat-l.toNat)) else none
   |false=>none
  |none=>none
 |_=>none
def va8 (ty:Ty) (t:TypeId) (a:Nat) (ps:List (Nat×AV T.U)):Option (TypeId×List (den T.U ty)):=
 match zp5 P t with
 |some (e,sz,_,b)=>match Nat.beq sz (szT T ty)&&(Nat.ble 1 sz&&Nat.ble (a*sz) 16777216) with
  |true=>match yv3 T (fun j=>some (j*sz,sz)) ((List.range (a*sz)).map fun j=>yi9 T (b[j%sz]!)) ps with
   |some cs=>match ji4 T ty a cs with|some xs=>some (e,xs)|none=>none
   |none=>none
  |false=>none
 |none=>none
def yt1 (t:TypeId) (a:Nat) (ps:List (Nat×AV T.U)):Option (TypeId×Nat×List (AV T.U)):=
 match zp5 P t with
 |some (e,sz,_,b)=>match Nat.ble 1 sz&&Nat.ble (a*sz) 16777216 with
  |true=>match yv3 T (fun j=>some (j*sz,sz)) ((List.range (a*sz)).map fun j=>yi9 T (b[j%sz]!)) ps with
   |some cs=>match cs.all (za6 T) with|true=>some (e,sz,cs)|false=>none
   |none=>none
  |false=>none
 |none=>none
def yn7 (t:TypeId) (H:List (Ent T.U)) (s:AV T.U) (K:AV T.U->List (Ent T.U)->Option R):Option R:=
 match s with
 | .mp i=>match H[i]?,P.underlying t with
  |some (.tmap k ty _),some (.map _ _)=>K (.tup []) (H.set i (.tmap k ty []))
  |_,_=>none
 | .sl i sz o n=>match H[i]? with
  |some (.row e ty xs)=>match zp5 P t with
   |some (_,s,_,a)=>match Nat.beq s (szT T ty)&&Nat.beq sz (szT T ty),cellsOf T (a.toList.map (yi9 T)) with
    |true,some z=>match yp4 T ty z with
     |some b=>if o+n<=xs.length then K (.tup []) (H.set i (.row e ty (xs.take o++(List.replicate n b++xs.drop (o+n))))) else none
     |none=>none
    |_,_=>none
   |none=>none
  |_=>none
 |_=>none
def gm2 (x y:Int):Bool:=x==y
def un8 (x y:Bool):Bool:=x==y
def ve2:AV T.U->AV T.U->Bool
 | .cell ⟨.int k,x⟩,.cell ⟨.int c,y⟩=>zf0 k c&&gm2 x y
 | .cell ⟨.bool,a⟩,.cell ⟨.bool,b⟩=>un8 a b
 |_,_=>false
def jq0:List (AV T.U)->List (AV T.U)->Option (List (AV T.U))
 | [],r=>some r
 |_::_,[]=>none
 |a::z,b::r=>match ve2 T a b with|true=>jq0 z r|false=>none
def jp6 (z:List (AV T.U)):Nat->List (AV T.U)->Bool
 |0,r=>r.isEmpty
 |n+1,r=>match jq0 T z r with|some s=>jp6 z n s|none=>false
def qc5 {U:Nat->Type}:AV U->Bool| .raw (.slice none 0 0)=>true|_=>false
def vc1 (n:Nat) (aS:List (AV T.U)):(t:Ty)->Option (List (den T.U t))
 | .nl e=>match aS.all qc5&&Nat.beq aS.length n with|true=>some (List.replicate n ([]:List (den T.U e)))|false=>none
 |_=>none
def kw5 (t:Ty) (n:Nat) (aS:List (AV T.U)):Option (List (den T.U t)):=
 match vc1 T n aS t with
 |some xs=>some xs
 |none=>match cellsOf T (aS.take (szT T t)) with
  |some l=>match yp4 T t l with
   |some x=>match jp6 T (aS.take (szT T t)) n aS with|true=>some (List.replicate n x)|false=>ji4 T t n aS
   |none=>none
  |none=>none
abbrev Lay:=List (Option (Ty×Nat))
def yt3:Lay->List (AV T.U)->Option (List (AV T.U))
 | [],aS=>match aS with| []=>some []|_::_=>none
 |none::r,aS=>match aS with
  |a::s=>match za6 T a with|true=>(match yt3 r s with|some l=>some (a::l)|none=>none)|false=>none
  | []=>none
 |some (t,n)::r,aS=>match kw5 T t n (aS.take (n*szT T t)),yt3 r (aS.drop (n*szT T t)) with|some xs,some l=>some (.arr t n xs::l)|_,_=>none
def ge0 (ls:Option Lay) (aS:List (AV T.U)):Option (List (AV T.U)):=
 match ls with
 |none=>match aS.all (za6 T) with|true=>some aS|false=>none
 |some l=>yt3 T l aS
def wp0 (b:Option Lay) (a:AV T.U):Option (List (AV T.U)):=
 match ja5 a with
 |some _=>some [a]
 |none=>match ya9 T a with|true=>ge0 T b (ze9 T a)|false=>none
def appA (ty:Ty) (t:TypeId) (H:List (Ent T.U)) (s x:AV T.U) (K:AV T.U->List (Ent T.U)->Option R):Option R:=
 match zp5 P t with
 |some (e,sz,by_,_)=>match Nat.beq sz (szT T ty)&&(Nat.ble 1 sz&&(Nat.ble 1 by_&&eOk e H s)) with
  |true=>rowB ty H s fun xs=>rowX ty H x fun ys=>if (xs.length+ys.length)*by_<=140737488355328 then K (.own H.length) (goneA H s++ [.row e ty (xs++ys)]) else none
  |false=>none
 |none=>none
where
 rowIn (ty:Ty) (H:List (Ent T.U)):AV T.U->Option (List (den T.U ty))
  | .cell c=>match c.aS (.list ty) with|some xs=>some xs|none=>none
  | .own i=>match H[i]? with|some (.row _ ty' xs)=>(if h:ty'=ty then some (h▸xs) else none)|_=>none
  | .raw (.slice none 0 0)=>some []
  |_=>none
 rowX {R:Type} (ty:Ty) (H:List (Ent T.U)) (x:AV T.U) (K:List (den T.U ty)->Option R):Option R:=
  match rowIn ty H x with
  |some ys=>K ys
  |none=>match x with
   | .sl i sz o n=>match H[i]? with
    |some (.row _ ty' xs)=>match Nat.beq sz (szT T ty') with
     |true=>(if h:ty'=ty then (if o+n<=xs.length then K ((h▸xs:List (den T.U ty)).drop o |>.take n) else none) else none)
     |false=>none
    |_=>none
   |_=>none
 rowB {R:Type} (ty:Ty) (H:List (Ent T.U)) (s:AV T.U) (K:List (den T.U ty)->Option R):Option R:=
  match s with
  | .sl i sz o n=>match H[i]? with
   |some (.row _ ty' xs)=>match Nat.beq sz (szT T ty')&&Nat.beq o 0 with
    |true=>(if h:ty'=ty then (if n<=xs.length then K ((h▸xs:List (den T.U ty)).take n) else none) else none)
    |false=>none
   |_=>none
  |s=>match rowIn ty H s with|some xs=>K xs|none=>none
 eOk (e:TypeId) (H:List (Ent T.U)):AV T.U->Bool
  | .own i=>match H[i]? with|some (.row e' _ _)=>Nat.beq e' e|_=>false
  | .sl i _ _ _=>match H[i]? with|some (.row e' _ _)=>Nat.beq e' e|_=>false
  | .cell _=>false
  |_=>true
 goneA (H:List (Ent T.U)):AV T.U->List (Ent T.U)
  | .own i=>H.set i .gone
  | .sl i _ _ _=>H.set i .gone
  |_=>H
def jr1 (ty:Ty) (t:TypeId) (H:List (Ent T.U)) (l c:Int) (K:AV T.U->List (Ent T.U)->Option R):Option R:=
 match zp5 P t with
 |some (e,sz,a,b)=>match Nat.beq sz (szT T ty),cellsOf T (b.toList.map (yi9 T)) with
  |true,some z=>match yp4 T ty z with
   |some d=>if 0<=l/\l<=c/\a*c.toNat<=281474976710656/\c<=9223372036854775807 then K (.own H.length) (H++ [.row e ty (List.replicate l.toNat d)]) else none
   |none=>none
  |_,_=>none
 |none=>none
def va5 (e:TypeId):Option (AV T.U):=match P.info? e with|some i=>(match i.zero with|some z=>some (ofV T z)|none=>none)|none=>none
def yx2 (a:AV T.U) (at_:TypeId) (b:Bool):Option (AV T.U):=
 match P.underlying at_,a with
 |some d,.ifc t x=>match d with
  | .interface _=>none
  |_=>match Nat.beq t at_ with
   |true=>match b with|true=>some (.tup [x,cB T true])|false=>some x
   |false=>match b,va5 T P at_ with
    |true,some z=>some (.tup [z,cB T false])
    |_,_=>none
 |_,_=>none
def jb8 (ty:Ty):List (Int×den T.U ty)->Int->den T.U ty
 | [],_=>zz2 T ty
 |(y,a)::r,x=>if x=y then a else jb8 ty r x
def zq2 {α:Type}:List (Int×α)->Int->Bool
 | [],_=>false
 |(y,_)::r,x=>if x=y then true else zq2 r x
def zh5 {α:Type}:List (Int×α)->Int->α->List (Int×α)
 | [],x,a=> [(x,a)]
 |(y,b)::r,x,a=>if x=y then (x,a)::r else (y,b)::zh5 r x a
def yt0 {α:Type}:List (Int×α)->Int->List (Int×α)
 | [],_=> []
 |(y,b)::r,x=>if x=y then r else (y,b)::yt0 r x
def zTy:Ty->Value->Bool
 | .int k,.int a x=>zf0 k a&&eqZ x
 | .bool,.bool b=> !b
 | .list _,.slice none n c=>Nat.beq n 0&&Nat.beq c 0
 |_,_=>false
where
 eqZ (x:Int):Bool:=x==0
def kz3 (e:TypeId) (ty:Ty):Bool:=match P.info? e with|some i=>(match i.zero with|some z=>zTy ty z|none=>false)|none=>false
def vc0 (a:Bool) (ty:Ty) (es:List (Int×den T.U ty)) (x:Int):AV T.U:=
 match a with|true=>.tup [.cell ⟨ty,jb8 T ty es x⟩,cB T (zq2 es x)]|false=>.cell ⟨ty,jb8 T ty es x⟩
def go3 (ty:Ty) (a:AV T.U):Option (den T.U ty):=match a with| .cell c=>c.aS ty|_=>none
def ju4 (t:TypeId):Option (IntKind×TypeId×TypeId):=
 match P.underlying t with
 |some (.map a b)=>match P.underlying a with|some (.int k)=>some (k,a,b)|_=>none
 |_=>none
def jc3 (b:Bool) (z:AV T.U) (x:Int) (K:AV T.U->Option R):List (Int×AV T.U)->Option R
 | []=>K (match b with|true=>.tup [z,cB T false]|false=>z)
 |(y,a)::r=>if x=y then K (match b with|true=>.tup [a,cB T true]|false=>a) else jc3 b z x K r
def jg1 (t:TypeId) (b:Bool) (H:List (Ent T.U)) (m:AV T.U) (c:IntKind) (x:Int) (K:AV T.U->Option R):Option R:=
 match m,ju4 P t with
 | .mp i,some (k,_,d)=>match H[i]? with
  |some (.map a es)=>match zf0 k a&&zf0 c a,va5 T P d with|true,some z=>jc3 T b z x K es|_,_=>none
  |some (.tmap a ty es)=>match zf0 k a&&(zf0 c a&&kz3 P d ty) with|true=>K (vc0 T b ty es x)|false=>none
  |_=>none
 |_,_=>none
def kp6 (t:TypeId) (H:List (Ent T.U)) (m:AV T.U) (c:IntKind) (x:Int) (a:AV T.U):Option (List (Ent T.U)):=
 match m,ju4 P t with
 | .mp i,some (k,_,_)=>match H[i]? with
  |some (.map b es)=>match zf0 k b&&zf0 c b with|true=>some (H.set i (.map b (zh5 es x a)))|false=>none
  |some (.tmap b ty es)=>match zf0 k b&&zf0 c b,go3 T ty a with|true,some y=>some (H.set i (.tmap b ty (zh5 es x y)))|_,_=>none
  |_=>none
 |_,_=>none
def gb3 (t:TypeId) (H:List (Ent T.U)) (m:AV T.U) (b:IntKind) (x:Int):Option (List (Ent T.U)):=
 match m,ju4 P t with
 | .mp i,some (k,_,_)=>match H[i]? with
  |some (.map a es)=>match zf0 k a&&zf0 b a with|true=>some (H.set i (.map a (yt0 es x)))|false=>none
  |some (.tmap a ty es)=>match zf0 k a&&zf0 b a with|true=>some (H.set i (.tmap a ty (yt0 es x)))|false=>none
  |_=>none
 |_,_=>none
end
end
end Go.X
namespace Go.X
open Go.RowKit Go.V
section
variable (T:Tab) (P:Program) {w:World} {S:List Nat} {φ:Nat->RA}
def FR (w:World) (S:List Nat) (φ:Nat->RA) (F:AF T) (b:PF):Prop:= ∀i a,F.get T i=some a-> ∃v,b.get i=some v/\VR T w S φ a v
def ye2 (v):VR T w S φ (yi9 T v) v:=by
 cases v<;>first|exact .int _ _|exact .bool _|exact .str _|rfl
def yc2: ∀(l),VRL T w S φ (l.map (yi9 T)) l
 | []=>trivial
 |v::r=>⟨ye2 T v,yc2 r⟩
def jz6 (v):VR T w S φ (ofV T v) v:=by
 have h:VR T w S φ (yi9 T v) v:=ye2 T v;cases v<;>first|exact h|exact ⟨_,rfl,yc2 T _⟩
variable {T}
def v8 {F:AF T} {F':PF} (hF:FR T w S φ F F') {x:Operand} {a:AV T.U} (h:aev T F x=some a): ∃v,ev F' x=some v/\VR T w S φ a v:=by
 cases x with
 |tmp t=>exact hF t a h
 |const v=>simp only [aev,X0] at h;subst h;exact ⟨v,rfl,jz6 T v⟩
 |global g=>cases h
 |func f=>simp only [aev,X0] at h;subst h;exact ⟨_,rfl,#[],#[],rfl,trivial,trivial⟩
def yc8 {F:AF T} {F':PF} (hF:FR T w S φ F F'): ∀ {l:List Operand} {aS:List (AV T.U)},zv9 T F l=some aS->VRL T w S φ aS (l.map (evD F'))
 | [],aS,h=>by simp only [zv9,X0] at h;subst h;trivial
 |x::r,aS,h=>by
  unfold zv9 at h;split at h
  ·rename_i a l ha hl;simp only [X0] at h;subst h;obtain ⟨v,h1,h2⟩:=v8 hF ha;exact ⟨by simpa [evD,h1] using h2,yc8 hF hl⟩
  ·cases h
def k8 {a x v} (h:ev a x=some v):evD a x=v:=by simp [evD,h]
def za3 {k x v} (h:VR T w S φ (.cell ⟨.int k,x⟩) v):v=.int k x:=by
 have h:CR T w S (.int k) x v:=h;cases h;rfl
def zg0 {b v} (h:VR T w S φ (.cell ⟨.bool,b⟩) v):v=.bool b:=by
 have h:CR T w S .bool b v:=h;cases h;rfl
def zq4 {s v} (h:VR T w S φ (.cell ⟨.str,s⟩) v):v=.string s:=by
 have h:CR T w S .str s v:=h;cases h;rfl
def js4 {a u v} (h:vw3 T a=some u) (b:VR T w S φ a v):v=u:=by
 unfold vw3 at h;split at h
 ·simp only [X0] at h;subst h;exact za3 b
 ·simp only [X0] at h;subst h;exact zg0 b
 ·simp only [X0] at h;subst h;exact zq4 b
 ·simp only [X0] at h;subst h;exact b
 ·cases h
def js5: ∀ {aS:List (AV T.U)} {us vs:List Value},qu4 T aS=some us->VRL T w S φ aS vs->vs=us
 | [],us,vs,h,hv=>by
  simp only [qu4,X0] at h;subst h;cases vs with|nil=>rfl|cons _ _=>exact hv.elim
 |a::r,us,vs,h,hv=>by
  unfold qu4 at h;split at h
  ·rename_i u l hu hl;simp only [X0] at h;subst h;cases vs with
   |nil=>exact hv.elim
   |cons v s=>rw [js4 hu hv.1,js5 hl hv.2]
  ·cases h
def yu8 {a u v} (h:gl9 T a=some u) (b:VR T w S φ a v):v=u:=by
 unfold gl9 at h;split at h
 ·split at h
  ·rename_i l c;simp only [X0] at h;subst h;obtain ⟨vs,rfl,d⟩:=b;have:=js5 c d;cases vs;simp_all
  ·cases h
 ·exact js4 h b
def za8 {a b} (h:zf0 a b=true):a=b:=by cases a<;>cases b<;>first|rfl|cases h
def kd9 {b k x y a} (h:gl6 T b k x y=some a) (t): ∃v,(∀w0,(binOp b t (.int k x) (.int k y)).run P w0=.ok v w0)/\VR T w S φ a v:=by
 cases b<;>simp only [gl6,X0,reduceCtorEq] at h<;>subst h<;>first|(refine ⟨_,fun w0=>?_,CR.int _ _⟩;simp [binOp,Op.intArith,Op.intBits,zo9,bOr,zt9,ve9];done)|(refine ⟨_,fun w0=>?_,CR.bool _⟩;simp [binOp,Op.intCmp];done)
def kv5:Value->Bool| .pointer _=>true| .slice _ _ _=>true| .map _=>true| .func _ _ _=>true| .nilFunc=>true| .iface _ _=>true| .nilIface=>true|_=>false
def yx6 {t X Y r b neg} (a:b=if neg then .neq else .eql) (c:kv5 X=true) (d:kv5 Y=true) (h: ∀w0,(Op.equalIn 10000 t X Y).run P w0=.ok r w0) (w0):(binOp b t X Y).run P w0=.ok (.bool (jo2 neg r)) w0:=by
 subst a;cases X<;>first|(cases c;done)|(cases Y<;>first|(cases d;done)|(cases neg<;>simp [binOp,Op.equal,Op.maxDepth,h,jo2]))
def yz4 {t X Y b} (a c) (d:kv5 X=true) (e:kv5 Y=true) (f:X≠.nilIface\/Y≠.nilIface) (w0):(eqGuard b t a c X Y).run P w0=.ok () w0:=by
 cases X<;>first|(cases d;done)|(cases Y<;>first|(cases e;done)|(simp at f;done)|(cases b<;>simp [eqGuard]))
def zn4 {t e} (b:P.underlying t=some (.pointer e)) (a w0):(Op.equalIn (9999+1) t (.pointer none) (.pointer a)).run P w0=.ok a.isNone w0/\(Op.equalIn (9999+1) t (.pointer a) (.pointer none)).run P w0=.ok a.isNone w0:=by
 cases a<;>constructor<;>(rw [Op.equalIn];simp [run_underlying b])
def yx5 {t e} (b:P.underlying t=some (.slice e)) (m c a m' c' w0):(Op.equalIn (9999+1) t (.slice none m c) (.slice a m' c')).run P w0=.ok a.isNone w0/\(Op.equalIn (9999+1) t (.slice a m' c') (.slice none m c)).run P w0=.ok a.isNone w0:=by
 cases a<;>constructor<;>(rw [Op.equalIn];simp [run_underlying b])
def yv2 {t e b} (c:P.underlying t=some (.map e b)) (a w0):(Op.equalIn (9999+1) t (.map none) (.map a)).run P w0=.ok a.isNone w0/\(Op.equalIn (9999+1) t (.map a) (.map none)).run P w0=.ok a.isNone w0:=by
 cases a<;>constructor<;>(rw [Op.equalIn];simp [run_underlying c])
def qm0 {lit t x y r} (h:gn8 T P t lit x y=some r) {X Y} (p:VR T w S φ x X) (d:VR T w S φ y Y) {b neg} (k:b=if neg then .neq else .eql) (f i) (z:lit=true->jf9 f=true\/jf9 i=true):
  ((∀w0,(eqGuard b t f i X Y).run P w0=.ok () w0)/\ ∀w0,(eqGuard b t f i Y X).run P w0=.ok () w0)/\(∀w0,(binOp b t X Y).run P w0=.ok (.bool (jo2 neg r)) w0)/\ ∀w0,(binOp b t Y X).run P w0=.ok (.bool (jo2 neg r)) w0:=by
 have c: ∀X Y:Value,kv5 X=true->kv5 Y=true->(X≠.nilIface\/Y≠.nilIface)->(∀w0,(Op.equalIn (9999+1) t X Y).run P w0=.ok r w0)->(∀w0,(Op.equalIn (9999+1) t Y X).run P w0=.ok r w0)->
   ((∀w0,(eqGuard b t f i X Y).run P w0=.ok () w0)/\ ∀w0,(eqGuard b t f i Y X).run P w0=.ok () w0)/\(∀w0,(binOp b t X Y).run P w0=.ok (.bool (jo2 neg r)) w0)/\ ∀w0,(binOp b t Y X).run P w0=.ok (.bool (jo2 neg r)) w0:=
  fun X Y e l q A B=>⟨⟨yz4 P f i e l q,yz4 P f i l e q.symm⟩,yx6 P k e l A,yx6 P k l e B⟩
 have j: ∀w0,lit=true->(eqGuard b t f i .nilIface .nilIface).run P w0=.ok () w0:=by
  intro w0 m;unfold eqGuard;rcases z m with e|e
  ·cases f<;>first|(cases e;done)|(cases b<;>simp)
  ·cases i<;>first|(cases e;done)|(cases b<;>simp)
 unfold gn8 at h;split at h
 ·rename_i n;rw [VR] at p;subst p;split at h
  ·rename_i a;split at h
   ·split at h<;>simp only [X0,reduceCtorEq] at h<;>subst h
    ·rw [VR] at d;subst d;exact c _ _ rfl rfl (.inl (by simp)) (fun w0=>(zn4 P a _ w0).1) (fun w0=>(zn4 P a _ w0).2)
    ·obtain ⟨g,_,rfl⟩:=d;exact c _ _ rfl rfl (.inl (by simp)) (fun w0=>(zn4 P a _ w0).1) (fun w0=>(zn4 P a _ w0).2)
    ·obtain ⟨g,_,rfl⟩:=d;exact c _ _ rfl rfl (.inl (by simp)) (fun w0=>(zn4 P a _ w0).1) (fun w0=>(zn4 P a _ w0).2)
    ·obtain ⟨ad,cap,_,_,rfl⟩:=d;exact c _ _ rfl rfl (.inl (by simp)) (fun w0=>(zn4 P a _ w0).1) (fun w0=>(zn4 P a _ w0).2)
    ·obtain ⟨g,_,_,rfl⟩:=d;exact c _ _ rfl rfl (.inl (by simp)) (fun w0=>(zn4 P a _ w0).1) (fun w0=>(zn4 P a _ w0).2)
   ·cases h
  ·rename_i a;split at h
   ·split at h<;>simp only [X0,reduceCtorEq] at h<;>subst h
    ·rw [VR] at d;subst d;exact c _ _ rfl rfl (.inl (by simp)) (fun w0=>by rw [Op.equalIn];simp [run_underlying a]) (fun w0=>by rw [Op.equalIn];simp [run_underlying a])
    ·obtain ⟨D,E,rfl,_⟩:=d;exact c _ _ rfl rfl (.inl (by simp)) (fun w0=>by rw [Op.equalIn];simp [run_underlying a]) (fun w0=>by rw [Op.equalIn];simp [run_underlying a])
   ·cases h
  ·rename_i F a;split at h
   ·split at h
    ·simp only [X0] at h;subst h;obtain ⟨u,rfl,_⟩:=d;exact c _ _ rfl rfl (.inr (by simp)) (fun w0=>by rw [Op.equalIn];simp [run_underlying a]) (fun w0=>by rw [Op.equalIn];simp [run_underlying a])
    ·split at h
     ·rename_i o;simp only [X0] at h;subst h;rw [VR] at d;subst d;have s: ∀w0,(eqGuard b t f i .nilIface .nilIface).run P w0=.ok () w0:=by
       intro w0;rcases (M2 _ _).mp o with e|e
       ·exact j w0 e
       ·have C:(Op.eqGuardIn Op.maxDepth t .nilIface .nilIface).run P w0=.ok false w0:=by
         rw [show Op.maxDepth=9999+1 from rfl,Op.eqGuardIn];simp [run_underlying a,e]
        unfold eqGuard;cases b<;>simp [C]<;>(split<;>rfl)
      have v: ∀w0,(Op.equalIn (9999+1) t .nilIface .nilIface).run P w0=.ok true w0:=fun w0=>by rw [Op.equalIn];simp [run_underlying a]
      exact ⟨⟨s,s⟩,yx6 P k rfl rfl v,yx6 P k rfl rfl v⟩
     ·cases h
    ·cases h
   ·cases h
  ·rename_i a;split at h
   ·split at h<;>simp only [X0,reduceCtorEq] at h<;>subst h
    ·rw [VR] at d;subst d;exact c _ _ rfl rfl (.inl (by simp)) (fun w0=>(yv2 P a _ w0).1) (fun w0=>(yv2 P a _ w0).2)
    ·obtain ⟨g,_,rfl⟩:=d;exact c _ _ rfl rfl (.inl (by simp)) (fun w0=>(yv2 P a _ w0).1) (fun w0=>(yv2 P a _ w0).2)
   ·cases h
  ·rename_i a;split at h
   ·split at h<;>simp only [X0,reduceCtorEq] at h<;>subst h
    ·rw [VR] at d;subst d;exact c _ _ rfl rfl (.inl (by simp)) (fun w0=>(yx5 P a _ _ _ _ _ w0).1) (fun w0=>(yx5 P a _ _ _ _ _ w0).2)
    ·obtain ⟨g,ad,_,rfl,_⟩:=d;exact c _ _ rfl rfl (.inl (by simp)) (fun w0=>(yx5 P a _ _ _ _ _ w0).1) (fun w0=>(yx5 P a _ _ _ _ _ w0).2)
   ·cases h
  ·cases h
 ·cases h
def vf4 {b neg} (e:b=if neg then .neq else .eql) {lit t x y a} (h:eqA T P t lit x y neg=some a) {X Y} (f:VR T w S φ x X) (g:VR T w S φ y Y) (i j) (z:lit=true->jf9 i=true\/jf9 j=true):
  (∀w0,(eqGuard b t i j X Y).run P w0=.ok () w0)/\ ∃v,(∀w0,(binOp b t X Y).run P w0=.ok v w0)/\VR T w S φ a v:=by
 unfold eqA at h;split at h
 ·rename_i r d;simp only [X0] at h;subst h;obtain ⟨⟨k,_⟩,l,_⟩:=qm0 P d f g e i j z;exact ⟨k,_,l,CR.bool _⟩
 split at h
 ·rename_i r d;simp only [X0] at h;subst h;obtain ⟨⟨_,k⟩,_,l⟩:=qm0 P d g f e i j z;exact ⟨k,_,l,CR.bool _⟩
 split at h
 ·rename_i p q m n;have o:=yu8 m f;have s:=yu8 n g;subst o;subst s;split at h
  ·rename_i r d;simp only [X0] at h;subst h;have c:=jy8 (P:=P) 10000 t _ _ r d;subst e;refine ⟨fun w0=>by cases neg<;>simp [eqGuard],_,fun w0=>?_,CR.bool _⟩;cases neg<;>simp [binOp,Op.equal,Op.maxDepth,c]
  ·cases h
 ·rename_i p q m n;have o:=yu8 m f;have s:=yu8 n g;subst o;subst s;simp only at h;split at h
  ·rename_i A;split at h
   ·rename_i r d;simp only [X0] at h;subst h;have c:=jy8 (P:=P) 10000 t _ _ r d;have u: ∀w0,(program).run P w0=.ok P w0:=fun _=>rfl;subst e;refine ⟨fun w0=>by cases neg<;>simp [eqGuard,u,A],_,fun w0=>?_,CR.bool _⟩;cases neg<;>simp [binOp,Op.equal,Op.maxDepth,c]
   ·cases h
  ·cases h
 ·cases h
def kd8 {b t lit x y a} (h:ga7 T P b t lit x y=some a) {X Y} (c:VR T w S φ x X) (d:VR T w S φ y Y) (g i) (j:lit=true->jf9 g=true\/jf9 i=true):
  (∀w0,(eqGuard b t g i X Y).run P w0=.ok () w0)/\ ∃v,(∀w0,(binOp b t X Y).run P w0=.ok v w0)/\VR T w S φ a v:=by
 unfold ga7 at h;split at h
 ·split at h
  ·rename_i k;have:=za8 k;subst this;have e:=za3 c;have f:=za3 d;subst e;subst f;exact ⟨fun w0=>by simp [eqGuard],kd9 P h t⟩
  ·cases h
 ·simp only [X0] at h;subst h;have e:=zq4 c;have f:=zq4 d;subst e;subst f;exact ⟨fun w0=>by simp [eqGuard],_,fun w0=>by simp [binOp,Op.stringOp],CR.bool _⟩
 ·simp only [X0] at h;subst h;have e:=zq4 c;have f:=zq4 d;subst e;subst f;exact ⟨fun w0=>by simp [eqGuard],_,fun w0=>by simp [binOp,Op.stringOp],CR.bool _⟩
 ·exact vf4 P (neg:=false) rfl h c d g i j
 ·exact vf4 P (neg:=true) rfl h c d g i j
 ·cases h
def gk7 {u x a} (h:unA T u x=some a) {X} (c:VR T w S φ x X): ∃v,(∀w0,(Op.unary u X).run P w0=.ok v w0)/\VR T w S φ a v:=by
 unfold unA at h;split at h
 ·have b:=za3 c;subst b;unfold unI at h;split at h
  ·simp only [X0] at h;subst h;exact ⟨_,fun w0=>by simp [Op.unary,Op.intArith],CR.int _ _⟩
  ·simp only [X0] at h;subst h;exact ⟨_,fun w0=>by simp [Op.unary,Op.intBits,zt9],CR.int _ _⟩
  ·cases h
 ·have b:=zg0 c;subst b;split at h
  ·simp only [X0] at h;subst h;exact ⟨_,fun w0=>by simp [Op.unary],CR.bool _⟩
  ·cases h
 ·cases h
def zw2 {α} (vs:Array α) (o n:Nat):(vs.extract o (o+n)).toList=(vs.toList.drop o).take n:=by
 rw [Array.toList_extract,List.extract_eq_take_drop];congr 1;omega
def ke7 {cs} {vs:Array Value} (h:VRL T w S φ cs vs.toList) {o n c a} (b:jn4 T cs o n c=some a):
  ∃v,(if c then some (Value.agg (vs.extract o (o+n))) else vs[o]?)=some v/\VR T w S φ a v/\(c=true->o+n<=vs.size):=by
 unfold jn4 at b;split at b
 ·split at b
  ·rename_i d;simp only [X0] at b;subst b;refine ⟨_,rfl,⟨_,rfl,?_⟩,fun _=>?_⟩
   ·rw [zw2];exact (h.drop T o).take T n
   ·have f:=Y1 d;have e:=h.len T;simp at e;omega
  ·cases b
 ·obtain ⟨v,f,e⟩:=h.get T b;exact ⟨v,by simpa using f,e,fun h=>by cases h⟩
def yz7: ∀ {cs l o},yx7 T cs o=some l->zz6 T cs-> ∃pre,cs=pre++l/\(zh3 T pre).length=o
 | [],_,_,h,_=>by cases h
 |a::r,l,o,h,c=>by
  unfold yx7 at h;split at h
  ·rename_i d;simp only [X0] at h;subst h;exact ⟨[],rfl,(X1 d).symm⟩
  ·split at h
   ·rename_i b;obtain ⟨pre,e,f⟩:=yz7 h c.2;refine ⟨a::pre,by rw [e];rfl,?_⟩;rw [zh3,X9,yd3 T c.1,f];have:=Y1 b;omega
   ·cases h
def jj2 {f}: ∀ {cs b o},yw9 T f cs o=some b->zz6 T cs-> ∃pre l l',cs=pre++l/\b=pre++l'/\f l=some l'/\(zh3 T pre).length=o
 | [],_,o,h,_=>by
  unfold yw9 at h;split at h
  ·rename_i c;exact ⟨[],_,_,rfl,rfl,h,(X1 c).symm⟩
  ·cases h
 |a::r,b,o,h,g=>by
  unfold yw9 at h;split at h
  ·rename_i c;exact ⟨[],_,_,rfl,rfl,h,(X1 c).symm⟩
  ·split at h
   ·rename_i d;split at h
    ·rename_i n e;simp only [X0] at h;subst h;obtain ⟨pre,l,l',i,j,k,m⟩:=jj2 e g.2;refine ⟨a::pre,l,l',by rw [i];rfl,by rw [j];rfl,k,?_⟩;rw [zh3,X9,yd3 T g.1,m];have:=Y1 d;omega
    ·cases h
   ·cases h
def zt8 {U:Nat->Type} {a:AV U} {t:Ty} {n:Nat} {xs:List (den U t)} (h:ja5 a=some ⟨t,n,xs⟩):a=.arr t n xs:=by
 cases a<;>simp only [ja5,X0,reduceCtorEq,Sigma.mk.injEq] at h;obtain ⟨rfl,h⟩:=h;have:=eq_of_heq h;simp only [X7] at this;obtain ⟨rfl,rfl⟩:=this;rfl
def BR.at {cs vs} (h:BR T w S φ cs vs) {pre l} (b:cs=pre++l) {o} (e:(zh3 T pre).length=o):BR T w S φ l (vs.drop o)/\o+(zh3 T l).length=vs.length:=by
 obtain ⟨a,c⟩:=h;have d:=a.len T;rw [b,yd4] at a d;rw [b,yz6] at c;have:=a.drop T o;rw [List.drop_append_of_le_length (by omega),M4 (by omega),U6] at this;refine ⟨⟨this,c.2⟩,?_⟩;rw [X9] at d;omega
def BR.swap {a b} (i:za6 T a=true) (f:za6 T b=true) (j: ∀v,VR T w S φ a v->VR T w S φ b v): ∀ {cs vs c},BR T w S φ cs vs->cs[c]?=some a->BR T w S φ (cs.set c b) vs
 | [],_,_,_,h=>by simp at h
 |x::r,vs,0,h,e=>by
  simp only [Y4,X0] at e;subst e;obtain ⟨d,n⟩:=h;rw [zh3,zq7 T i] at d
  match vs,d with
  |v::vs,d=>exact ⟨by rw [List.set_cons_zero,zh3,zq7 T f];exact ⟨j v d.1,d.2⟩,yc1 T f,n.2⟩
 |x::r,vs,c+1,h,e=>by
  obtain ⟨o,q⟩:=BR.at h (pre:= [x]) (l:=r) rfl rfl;have k:=BR.swap i f j o (by simpa using e);have m:=h.1.take T (zh3 T [x]).length;have p:zh3 T (x::r)=zh3 T [x]++zh3 T r:=yd4 T [x] r;rw [p,Z7 (W6 _),Q4 (W6 _)] at m;refine ⟨?_,h.2.1,k.2⟩;rw [List.set_cons_succ];have g:zh3 T (x::r.set c b)=zh3 T [x]++zh3 T (r.set c b):=yd4 T [x] _;rw [g];have:=VRL.app T m k.1;rwa [Q8] at this
def VRL.cells: ∀ {cs vs},VRL T w S φ (cs.map .cell) vs↔CellsR T w S cs vs:=by
 intro cs;induction cs with
 |nil=>
  intro vs;cases vs with
  |nil=>exact ⟨fun _=>⟨rfl,fun j c v h=>by simp at h⟩,fun _=>trivial⟩
  |cons v r=>exact ⟨fun h=>h.elim,fun h=>by cases h.1⟩
 |cons c r e=>
  intro vs;cases vs with
  |nil=>exact ⟨fun h=>h.elim,fun h=>by cases h.1⟩
  |cons v s=>
   constructor
   ·intro h;obtain ⟨f,g⟩:=e.1 h.2;refine ⟨by simp [f],fun j c' d a b=>?_⟩;cases j with
    |zero=>simp only [Y4,X0] at a b;subst a;subst b;exact h.1
    |succ j=>exact g j c' d (by simpa using a) (by simpa using b)
   ·intro h;refine ⟨h.2 0 c v rfl rfl,e.2 ⟨by have:=h.1;simpa using this,fun j c' d a b=>h.2 (j+1) c' d (by simpa using a) (by simpa using b)⟩⟩
def ke9 {cs} {vs:Array Value} (h:BR T w S φ cs vs.toList) {o n q a} (c:ko3 T cs o n q=some a):
  ∃v,(if q then some (Value.agg (vs.extract o (o+n))) else vs[o]?)=some v/\VR T w S φ a v/\(q=true->o+n<=vs.size):=by
 unfold ko3 at c;split at c
 ·rename_i b r e;obtain ⟨pre,A,B⟩:=yz7 e h.2;obtain ⟨f,p⟩:=BR.at h A B;have p:o+(zh3 T (b::r)).length=vs.size:=by rw [p];simp
  split at c
  ·split at c
   ·rename_i s;simp only [X0] at c;subst c;have d:=f.1;rw [zh3,zq7 T s,List.singleton_append] at d;obtain ⟨v,y,C⟩:=d.get T (j:=0) rfl;refine ⟨v,?_,C,fun h=>by cases h⟩;rw [Q6,M3] at y;simpa using y
   ·cases c
  ·split at c
   ·rename_i t m xs D;have:=zt8 D;subst this;split at c
    ·rename_i u;simp only [X0] at c;subst c;have u:=X1 u;have g:(jf3 T (.arr t m xs)).length=n:=by rw [yd3 T f.2.1];exact u
     rw [zh3,X9,g] at p;refine ⟨_,rfl,⟨_,rfl,f.2.1,?_⟩,fun _=>by omega⟩;rw [zw2];have d:=f.1.take T n;rw [zh3,Z7 (by omega),Q4 (by omega)] at d;exact VRL.cells.1 d
    ·cases c
   ·split at c
    ·rename_i z;simp only [X3] at z;obtain ⟨i,k⟩:=z;simp only [X0] at c;subst c;have i:=Y1 i;have l:zh3 T (b::r)=(b::r).take n++zh3 T ((b::r).drop n):=by
      conv=>lhs;rw [<-List.take_append_drop n (b::r)]
      rw [yd4,jk6 T k]
     have x:((b::r).take n).length=n:=by rw [Y6,U5];omega
     rw [l,X9,x] at p;refine ⟨_,rfl,⟨_,rfl,?_⟩,fun _=>by omega⟩;rw [zw2];have d:=f.1.take T n;rw [l,Z7 (by omega),Q4 (by omega)] at d;exact d
    ·cases c
 ·cases c
def kf7 {cs l o} (h:yx7 T cs o=some l): ∀i∈u0 l,i∈u0 cs:=by
 induction cs generalizing o with
 |nil=>cases h
 |cons a r c=>
  unfold yx7 at h;split at h
  ·simp only [X0] at h;subst h;exact fun i b=>b
  ·split at h
   ·exact fun i b=>by rw [u0];exact X4.2 (.inr (c h i b))
   ·cases h
def vo8 {l:List (AV T.U)} {n}: ∀i∈u0 (l.take n),i∈u0 l:=by
 intro i a
 conv at a=>skip
 rw [<-List.take_append_drop n l,yk1];exact X4.2 (.inl a)
def ke8 {cs o n f a} (h:ko3 T cs o n f=some a): ∀i∈a.ids,i∈u0 cs:=by
 unfold ko3 at h;split at h
 ·rename_i b r d;have e:=kf7 d;split at h
  ·split at h
   ·simp only [X0] at h;subst h;exact fun i c=>e i (by rw [u0];exact X4.2 (.inl c))
   ·cases h
  ·split at h
   ·split at h
    ·simp only [X0] at h;subst h;intro i c;cases c
    ·cases h
   ·split at h
    ·simp only [X0] at h;subst h;intro i c;rw [AV.ids] at c;exact e i (vo8 i c)
    ·cases h
 ·cases h
def jb0 {t j a o n e} (h:qc2 P t j=some (a,o,n,e)): ∃b f i d,P.underlying t=some (.struct b)/\b[j]?=some f/\f.type=a/\f.offset=o/\P.info? a=some i/\i.size=n/\P.underlying a=some d/\zz9 d=e:=by
 unfold qc2 at h;split at h
 ·rename_i b c;split at h
  ·rename_i f g;split at h
   ·rename_i i d k l;simp only [X0,X7] at h;obtain ⟨rfl,rfl,rfl,rfl⟩:=h;exact ⟨b,f,i,d,c,g,rfl,rfl,k,rfl,l,rfl⟩
   ·cases h
  ·cases h
 ·cases h
def qv2 {t j x a} (h:qc1 T P t j x=some a) {X} (k:VR T w S φ x X): ∃v,(∀w0,(Instr.field t X j).run P w0=.ok v w0)/\VR T w S φ a v:=by
 unfold qc1 at h;split at h
 ·split at h
  ·rename_i cs p D o n E l;obtain ⟨m,f,i,d,q,r,s,u,y,z,A,B⟩:=jb0 P l;subst s;subst u;subst z;subst B;obtain ⟨vs,rfl,e⟩:=k;obtain ⟨v,c,g,_⟩:=ke7 e h;refine ⟨v,fun w0=>?_,g⟩;have C:(underlying t).run P w0=.ok (.struct m) w0:=by simp [underlying,q]
   have b:(part f.type vs f.offset).run P w0=.ok v w0:=by
    apply ym7;unfold yw5;rw [A];simp only [y];cases hag:zz9 d<;>rw [hag] at c<;>simpa using c
   unfold Instr.field;rw [Sem.run_bind,C];simp [r,asAgg,b]
  ·cases h
 ·cases h
def ys3 {a} (h:zu7 T a=true) {v} (b:VR T w S φ a v):v.cells= #[v]/\v.oneCell'=true:=by
 cases a with
 |cell c=>have b:CR T w S c.t c.x v:=b;generalize c.x=x at b;generalize c.t=t at *;cases b<;>exact ⟨rfl,rfl⟩
 |ptr i o=>obtain ⟨g,_,rfl⟩:=b;exact ⟨rfl,rfl⟩
 |own i=>rw [VR] at b;subst b;exact ⟨rfl,rfl⟩
 |sl i sz o n=>obtain ⟨ad,rfl,_⟩:=b;exact ⟨rfl,rfl⟩
 |fn f x y=>obtain ⟨d,e,rfl,_⟩:=b;exact ⟨rfl,rfl⟩
 |ifc t x=>obtain ⟨u,rfl,_⟩:=b;exact ⟨rfl,rfl⟩
 |raw u=>rw [VR] at b;subst b;cases v<;>first|exact ⟨rfl,rfl⟩|cases h
 |aptr i o sz n k c=>obtain ⟨g,_,_,rfl⟩:=b;exact ⟨rfl,rfl⟩
 |asl i o sz n j m=>obtain ⟨g,ad,_,rfl,_⟩:=b;exact ⟨rfl,rfl⟩
 |mp i=>obtain ⟨g,_,rfl⟩:=b;exact ⟨rfl,rfl⟩
 |hmp i=>rw [VR] at b;subst b;exact ⟨rfl,rfl⟩
 |_=>cases h
def yn6 {a} (h:ya9 T a=true):(∃cs,a=.agg cs)\/(zu7 T a=true/\ze9 T a= [a]):=by
 cases a<;>first|exact .inl ⟨_,rfl⟩|exact .inr ⟨h,rfl⟩
def zj5 {a} (h:ya9 T a=true) {v} (b:VR T w S φ a v):VRL T w S φ (ze9 T a) v.cells.toList:=by
 rcases yn6 h with ⟨cs,rfl⟩|⟨d,c⟩
 ·obtain ⟨vs,rfl,c⟩:=b;exact c
 ·rw [c,(ys3 d b).1];exact ⟨b,trivial⟩
def jb2: ∀(l:List Value) (o:Nat) (c:Array Value) (cs aS:List (AV T.U)),VRL T w S φ cs c.toList->VRL T w S φ aS l->VRL T w S φ (yi7 T cs o aS) (yg2 c o l).toList
 | [],_,_,_,[],h,_=>h
 | [],_,_,_,_::_,_,h=>h.elim
 |_::_,_,_,_,[],_,h=>h.elim
 |v::r,o,c,cs,a::s,h,h'=>by
  rw [yi7,yg2];exact jb2 r (o+1) _ _ s (by rw [A1];exact h.set T o h'.1) h'.2
def jf4 (o): ∀(l j c),(l.zipIdx j).foldl (fun cs (p:Value×Nat)=>cs.setIfInBounds (o+p.2) p.1) c=yg2 c (o+j) l
 | [],_,_=>rfl
 |v::r,j,c=>by
  rw [List.zipIdx_cons,List.foldl_cons,jf4 o r (j+1)];rfl
def yn0: ∀(l o c),(yg2 c o l).size=c.size
 | [],_,_=>rfl
 |v::r,o,c=>by rw [yg2,yn0 r];simp
def yb8 {b}: ∀ {ps l cs c d},
  VRL T w S φ cs c.toList->ps.map Prod.fst=l.map Prod.fst->VRL T w S φ (ps.map Prod.snd) (l.map Prod.snd)->yv3 T b cs ps=some d->
  ∃c',Instr.fill b c l=some c'/\VRL T w S φ d c'.toList
 | [],[],cs,c,d,h,_,_,e=>by simp only [yv3,X0] at e;subst e;exact ⟨c,rfl,h⟩
 | [],_::_,_,_,_,_,f,_,_=>by simp at f
 |_::_,[],_,_,_,_,f,_,_=>by simp at f
 |(i,a)::r,(j,v)::s,cs,c,d,h,f,m,e=>by
  simp only [U2,List.cons.injEq] at f m;obtain ⟨rfl,f⟩:=f;unfold yv3 at e;split at e
  ·rename_i o n q;split at e
   ·rename_i k;simp only [X3] at k;obtain ⟨u,x,y⟩:=k;have t:=zj5 u m.1;have A:=t.len T;have l2:=h.len T;have D:=X1 x;have E:=Y1 y;obtain ⟨c',B,C⟩:=yb8 (jb2 v.cells.toList o c cs _ h t) f m.2 e;refine ⟨c',?_,C⟩;simp at A l2;unfold Instr.fill;rw [q];simp only;rw [if_neg (by simp;omega)];have g:v.cells.zipIdx.foldl (fun cs (p:Value×Nat)=>cs.setIfInBounds (o+p.2) p.1) c=yg2 c o v.cells.toList:=by
     rw [<-Array.foldl_toList,Array.toList_zipIdx,jf4];rfl
    exact (congrArg (fun z=>Instr.fill b z s) g).trans B
   ·cases e
  ·cases e
def ql6 {α b:Type} {f:α->Option b} {g:α->Sem b} {w0:World} (a: ∀x y,f x=some y->(g x).run P w0=.ok y w0): ∀ {l:List α} {r:List b},ge7 f l=some r->(l.mapM g).run P w0=.ok r w0
 | [],r,h=>by simp only [ge7,X0] at h;subst h;rfl
 |x::l,r,h=>by
  unfold ge7 at h;split at h
  ·rename_i y s c d;simp only [X0] at h;subst h;simp only [R1,Sem.run_bind,a x y c,ql6 a d,Result.andThen_ok,Sem.run_pure]
  ·cases h
def jx7 {t d} (h:qa0 P t=some d): ∃b,P.underlying t=some (.struct b)/\ ∀w0,(b.mapM fun f=>(do pure (f.offset,<-sizeOf f.type):Sem (Nat×Nat))).run P w0=.ok d.toArray w0:=by
 unfold qa0 at h;split at h
 ·rename_i b c;refine ⟨b,c,fun w0=>?_⟩;rw [S8];have:=ql6 P (w0:=w0) (g:=fun f=>(do pure (f.offset,<-sizeOf f.type):Sem (Nat×Nat))) (fun f y a=>by
   unfold ks1 at a;split at a
   ·rename_i i e;simp only [X0] at a;subst a;have j:(sizeOf f.type).run P w0=.ok i.size w0:=by simp [sizeOf,typeInfo,e]
    simp only [Sem.run_bind,j,Result.andThen_ok,Sem.run_pure]
   ·cases a) h
  simp only [Sem.run_map,this,Result.andThen_ok]
 ·cases h
def zy4 {F:AF T} {F':PF} (hF:FR T w S φ F F'): ∀ {l:List (Nat×Operand)} {aS:List (Nat×AV T.U)},zs0 T F l=some aS->
  aS.map Prod.fst=(l.map fun p=>(p.1,evD F' p.2)).map Prod.fst/\VRL T w S φ (aS.map Prod.snd) ((l.map fun p=>(p.1,evD F' p.2)).map Prod.snd)
 | [],aS,h=>by simp only [zs0,X0] at h;subst h;exact ⟨rfl,trivial⟩
 |(i,x)::r,aS,h=>by
  unfold zs0 at h;split at h
  ·rename_i a l ha hl;simp only [X0] at h;subst h;obtain ⟨v,h1,h2⟩:=v8 hF ha;obtain ⟨e1,e2⟩:=zy4 hF hl;exact ⟨by simpa using e1,by simpa [evD,h1] using h2,e2⟩
  ·cases h
def vr0 {a b f} (h:qw6 T a f=some b) {v} (d:VR T w S φ a v): ∃ad:Addr,v=.pointer (some ad)/\ad.spot=none/\VR T w S φ b (.pointer (some ⟨ad.block,ad.off+f,none⟩)):=by
 unfold qw6 at h;split at h<;>simp only [X0,reduceCtorEq] at h<;>subst h
 ·obtain ⟨g,c,rfl⟩:=d;exact ⟨_,rfl,rfl,g,c,rfl⟩
 ·obtain ⟨g,c,rfl⟩:=d;exact ⟨_,rfl,rfl,g,c,by simp [U9]⟩
 ·obtain ⟨ad,cap,c,e,rfl⟩:=d;exact ⟨_,rfl,rfl,ad,cap,c,e,by simp [U9]⟩
 ·obtain ⟨g,c,e,rfl⟩:=d;exact ⟨_,rfl,rfl,g,c,e,by simp [U9]⟩
def vr7 {o F a} (h:jh2 T P o F=some a) {D} (hF:FR T w S φ F D) (op) (g:op.op=o): ∃v,(∀w0,(execOp (evD D) op).run P w0=.ok (.value v) w0)/\VR T w S φ a v:=by
 unfold jh2 at h;split at h
 ·obtain ⟨v,r,u⟩:=v8 hF h;exact ⟨v,fun w0=>by simp [execOp,g,k8 r],u⟩
 ·obtain ⟨v,r,u⟩:=v8 hF h;exact ⟨v,fun w0=>by simp [execOp,g,k8 r],u⟩
 ·split at h
  ·rename_i x y _ A V;obtain ⟨X,r,u⟩:=v8 hF A;obtain ⟨Y,H,Q⟩:=v8 hF V;rename_i b t xo yo _ _ _;obtain ⟨G,v,C,I⟩:=kd8 P h u Q xo yo fun h=>(M2 _ _).mp h;exact ⟨v,fun w0=>by simp [execOp,g,k8 r,k8 H,G,C],I⟩
  ·cases h
 ·split at h
  ·rename_i x A;obtain ⟨X,r,u⟩:=v8 hF A;obtain ⟨v,C,I⟩:=gk7 P h u;exact ⟨v,fun w0=>by simp [execOp,g,k8 r,C],I⟩
  ·cases h
 ·split at h
  ·rename_i k d A J K;simp only [X0] at h;subst h;obtain ⟨X,r,u⟩:=v8 hF A;have e:=za3 u;subst e;refine ⟨_,fun w0=>?_,CR.int _ _⟩;rename_i W dst xop _ _ _ k' x;unfold kp7 at J;split at J
   ·rename_i k2 Z;simp only [X0] at J;subst J;have hd':(underlying dst).run P w0=.ok (.int k2) w0:=by simp [underlying,Z]
    have hs':(underlying W).run P w0=.ok d w0:=by simp [underlying,K]
    simp only [execOp,g,k8 r,convert,Sem.run_bind,hs',hd',Result.andThen_ok,Conv.intToInt];rfl
   ·cases J
  ·cases h
 ·split at h
  ·rename_i vs A;obtain ⟨X,r,u⟩:=v8 hF A;obtain ⟨us,rfl,H⟩:=u;obtain ⟨v,Q,h5⟩:=H.get T h;refine ⟨v,fun w0=>?_,h5⟩;simp at Q;simp [execOp,g,k8 r,Instr.extract,Q]
  ·cases h
 ·split at h
  ·rename_i x A;obtain ⟨X,r,u⟩:=v8 hF A;obtain ⟨v,C,I⟩:=qv2 P h u;exact ⟨v,fun w0=>by simp [execOp,g,k8 r,C],I⟩
  ·cases h
 ·split at h
  ·rename_i x d A Z;obtain ⟨X,r,u⟩:=v8 hF A;split at h
   ·cases h
   ·simp only [X0] at h;subst h;refine ⟨_,fun w0=>?_,X,rfl,u⟩;have E: ∀t,P.underlying t=some d->(underlying t).run P w0=.ok d w0:=fun t ht=>by simp [underlying,ht]
    simp only [execOp,g,k8 r,Instr.makeInterface,Sem.run_bind,E _ Z,Result.andThen_ok];rfl
  ·cases h
 ·split at h
  ·rename_i x y A V;simp only [X0] at h;subst h;rename_i f xs ys _ _;refine ⟨.func f (xs.map (evD D)) (ys.map (evD D)),fun w0=>by simp [execOp,g,Instr.makeFunc],_,_,rfl,?_,?_⟩
   ·simpa using yc8 hF A
   ·simpa using yc8 hF V
  ·cases h
 ·split at h
  ·rename_i pf z l q L hl;split at h
   ·rename_i cs hcs;simp only [X0] at h;subst h;rename_i t ps _ _ _ _;unfold qg4 at L;split at L
    ·rename_i c hc;simp only [X0] at L;subst L;obtain ⟨i,R,hi,hzv,rfl⟩:=jb9 hc;obtain ⟨e1,e2⟩:=zy4 hF hl;obtain ⟨c',G,C⟩:=yb8 (yc2 T R.cells.toList) e1 e2 hcs;refine ⟨.agg c',fun w0=>?_,c',rfl,C⟩;have M:(zeroValue t).run P w0=.ok R w0:=by simp [zeroValue,typeInfo,hi,hzv]
     have B:(ps.map fun p=>(p.1,evD D p.2)).toList=ps.toList.map fun p=>(p.1,evD D p.2):=by simp
     unfold ks0 at q;split at q
     ·split at q
      ·rename_i pl N;simp only [X0] at q;subst q;obtain ⟨fs,hfs,hpr⟩:=jx7 P N;have E:(underlying t).run P w0=.ok (.struct fs) w0:=by simp [underlying,hfs]
       simp only [execOp,g,Instr.build,Sem.run_bind,M,E,Result.andThen_ok,hpr];have hg:Instr.fill (fun x=>pl.toArray[x]?) R.cells (Array.map (fun x=>(x.fst,evD D x.snd)) ps).toList=some c':=by rw [B];simpa using G
       rw [hg];rfl
      ·cases q
     ·rename_i m e hme;split at q
      ·rename_i j hj;simp only [X0] at q;subst q;have E:(underlying t).run P w0=.ok (.array m e) w0:=by simp [underlying,hme]
       have K:(sizeOf e).run P w0=.ok j.size w0:=by simp [sizeOf,typeInfo,hj]
       simp only [execOp,g,Instr.build,Sem.run_bind,M,E,Result.andThen_ok,K];have hg:Instr.fill (fun x=>some (x*j.size,j.size)) R.cells (Array.map (fun x=>(x.fst,evD D x.snd)) ps).toList=some c':=by rw [B];simpa using G
       rw [hg];rfl
      ·cases q
     ·cases q
    ·cases L
   ·cases h
  ·cases h
 ·split at h
  ·rename_i x ft f n ag A hp;split at h
   ·cases h
   ·rename_i hn;obtain ⟨X,r,u⟩:=v8 hF A;obtain ⟨fs,fl,i,d,G,C,rfl,rfl,g5,rfl,g7,g8⟩:=jb0 P hp;obtain ⟨ad,rfl,O,H⟩:=vr0 h u;rename_i s xo j _ _ _;refine ⟨_,fun w0=>?_,H⟩;have E:(underlying s).run P w0=.ok (.struct fs) w0:=by simp [underlying,G]
    have K:(sizeOf fl.type).run P w0=.ok i.size w0:=by simp [sizeOf,typeInfo,g5]
    have hn0: ¬i.size=0:=by intro e;rw [e] at hn;cases hn
    have hfp:(fieldPlace ad fl).run P w0=.ok ⟨ad.block,ad.off+fl.offset,none⟩ w0:=by
     unfold fieldPlace;simp only [Sem.run_bind,K,Result.andThen_ok,hn0,if_false,Sem.run_pure];unfold Addr.add;cases ad;simp at O;subst O;split<;>simp_all
    simp only [execOp,g,k8 r,Instr.fieldAt,Instr.sureAddr,Sem.run_bind,E,Result.andThen_ok,C,hfp,Sem.run_pure]
  ·cases h
 ·cases h
end
end Go.X
