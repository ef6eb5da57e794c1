import Derived.Test.YtbanjakljpjknaaGreatA1
set_option linter.defProp false
namespace Go.X
open Go.RowKit Go.V
inductive Ty where
 |int (k:IntKind)|bool|str|list (e:Ty)|user (i:Nat)|nl (e:Ty)
 deriving DecidableEq
def den (U:Nat->Type):Ty->Type
 | .int _=>Int
 | .bool=>Bool
 | .str=>ByteArray
 | .list e=>List (den U e)
 | .nl e=>List (den U e)
 | .user i=>U i
structure Cell (U:Nat->Type) where
 t:Ty
 x:den U t
def Ty.scal:Ty->Bool| .int _=>true| .bool=>true| .str=>true|_=>false
inductive AV (U:Nat->Type) where
 |cell (c:Cell U)
 |ptr (i o:Nat)
 |eptr (i sz k c:Nat)
 |lptr (e:Ty) (xs:List (den U e)) (k o:Nat)
 |own (i:Nat)
 |sl (i sz o n:Nat)
 |agg (cs:List (AV U))
 |tup (vs:List (AV U))
 |fn (f:Fn) (first caps:List (AV U))
 |ifc (t:TypeId) (v:AV U)
 |raw (v:Value)
 |arr (t:Ty) (n:Nat) (xs:List (den U t))
 |aptr (i o sz n k c:Nat)
 |asl (i o sz n lo m:Nat)
 |mp (i:Nat)
 |hmp (i:Nat)
mutual
def AV.ids {U:Nat->Type}:AV U->List Nat
 | .cell _=> []
 | .ptr i _=> [i]
 | .eptr i _ _ _=> [i]
 | .lptr _ _ _ _=> []
 | .own i=> [i]
 | .sl i _ _ _=> [i]
 | .agg cs=>za1 cs
 | .tup cs=>za1 cs
 | .fn _ a b=>za1 a++za1 b
 | .ifc _ a=>a.ids
 | .raw _=> []
 | .arr _ _ _=> []
 | .aptr i _ _ _ _ _=> [i]
 | .asl i _ _ _ _ _=> [i]
 | .mp i=> [i]
 | .hmp i=> [i]
def za1 {U:Nat->Type}:List (AV U)->List Nat
 | []=> []
 |a::r=>a.ids++za1 r
end
def zam8 {U:Nat->Type} (aS:List (AV U)):Prop:= ∀t n xs,AV.arr t n xs∈aS->xs.length=n
structure Tab where
 U:Nat->Type
 d:(i:Nat)->U i
 size:Nat->Nat
 cells:(i:Nat)->U i->List (Cell U)
 len: ∀i x,(cells i x).length=size i
 pack:(i:Nat)->List (Cell U)->Option (U i)
 packed: ∀i cs x,pack i cs=some x->cells i x=cs
 scal:Nat->Bool
 scals: ∀i x,scal i=true-> ∀c∈cells i x,c.t.scal=true
 bl:(i:Nat)->U i->List (AV U):=fun _ _=> []
 rb:(i:Nat)->List (AV U)->Option (U i):=fun _ _=>none
 rbl: ∀i aS x,rb i aS=some x->zam8 aS->bl i x=aS:=by intro _ _ _ h;cases h
 bl0: ∀i x,za1 (bl i x)= []:=by intro _ _;rfl
 fe:Nat->List TypeId:=fun _=> []
section
variable (T:Tab)
def szT:Ty->Nat
 | .user i=>T.size i
 |_=>1
def zc6:(t:Ty)->den T.U t->List (Cell T.U)
 | .user i,x=>T.cells i x
 | .int k,x=> [⟨.int k,x⟩]
 | .bool,x=> [⟨.bool,x⟩]
 | .str,x=> [⟨.str,x⟩]
 | .list e,x=> [⟨.list e,x⟩]
 | .nl e,x=> [⟨.nl e,x⟩]
def ya7:(t:Ty)->den T.U t
 | .user i=>T.d i
 | .int _=>(0:Int)
 | .bool=>false
 | .str=>ByteArray.empty
 | .list _=> []
 | .nl _=> []
def za9 (t x):(zc6 T t x).length=szT T t:=by
 cases t<;>first|rfl|exact T.len _ _
def Cell.aS {U:Nat->Type} (c:Cell U) (t:Ty):Option (den U t):=if h:c.t=t then some (h▸c.x) else none
def Cell.as_eq {U:Nat->Type} {c:Cell U} {t:Ty} {x:den U t} (h:c.aS t=some x):c=⟨t,x⟩:=by
 unfold Cell.aS at h;split at h
 ·rename_i hk;subst hk;simp only [X0] at h;subst h;rfl
 ·cases h
def Ty.one:Ty->Bool| .user _=>false|_=>true
def ja2 {t} (h:t.one=true) (x):zc6 T t x= [⟨t,x⟩]:=by cases t<;>first|rfl|cases h
def gq4 {U:Nat->Type} (t:Ty):List (Cell U)->Option (den U t)
 | [c]=>c.aS t
 |_=>none
def yu1 (t:Ty) (cs:List (Cell T.U)):Option (den T.U t):=
 match t with
 | .user i=>T.pack i cs
 |t=>gq4 t cs
def zp0 {t cs x} (h:yu1 T t cs=some x):zc6 T t x=cs:=by
 have a: ∀t:Ty,t.one=true-> ∀x:den T.U t,gq4 t cs=some x->zc6 T t x=cs:=by
  intro t b x h;unfold gq4 at h;split at h
  ·rw [Cell.as_eq h,ja2 T b]
  ·cases h
 cases t with
 |user i=>exact T.packed _ _ _ h
 |int k=>exact a _ rfl x h
 |bool=>exact a _ rfl x h
 |str=>exact a _ rfl x h
 |list e=>exact a _ rfl x h
 |nl e=>exact a _ rfl x h
structure RA where
 ad:Option Addr
 n:Nat
 cap:Nat
 xs:List Nat
inductive Ent (U:Nat->Type) where
 |blk (e:TypeId) (cs:List (AV U))
 |row (e:TypeId) (t:Ty) (xs:List (den U t))
 |map (k:IntKind) (es:List (Int×AV U))
 |tmap (k:IntKind) (t:Ty) (m:List (Int×den U t))
 |drow (e:TypeId) (d:Nat) (fe:List TypeId) (xs:List (U d)) (op:Option (Nat×List (AV U)))
 |pmap (k:IntKind) (be:TypeId) (d:Nat) (m:List (Int×U d)) (op:Option (Int×Nat))
 |hid
 |gone
inductive CR (w:World) (S:List Nat):(t:Ty)->den T.U t->Value->Prop
 |int (k:IntKind) (x:Int):CR w S (.int k) x (.int k x)
 |bool (b:Bool):CR w S .bool b (.bool b)
 |str (s:ByteArray):CR w S .str s (.string s)
 |list (e:Ty) (xs:List (den T.U e)) (ad:Option Addr) (cap:Nat) (u:Nat->Nat->Value) (hcap:xs.length<=cap) (hnil:ad=none->xs.length=0/\cap=0)
   (had:xs≠ []->ad=some ⟨bk ad,of ad,none⟩/\bk ad<w.heap.size/\bk ad∉S)
   (hcell: ∀k j (c:Cell T.U),(xs[k]?.map fun x=>(zc6 T e x)[j]?)=some (some c)->w.cell? ⟨bk ad,of ad+(k*szT T e+j),none⟩=some (u k j))
   (hrel: ∀k j (c:Cell T.U),(xs[k]?.map fun x=>(zc6 T e x)[j]?)=some (some c)->CR w S c.t c.x (u k j)):CR w S (.list e) xs (.slice ad xs.length cap)
 |nl (e:Ty) (xs:List (den T.U e)) (ad:Option Addr) (cap:Nat) (h:CR w S (.list e) xs (.slice ad xs.length cap)) (hn:xs= []->ad=none/\cap=0):CR w S (.nl e) xs (.slice ad xs.length cap)
abbrev yo0 (w:World) (S:List Nat) (c:Cell T.U) (v:Value):Prop:=CR T w S c.t c.x v
def CellsR (w:World) (S:List Nat) (cs:List (Cell T.U)) (vs:List Value):Prop:=cs.length=vs.length/\ ∀(j:Nat) (c:Cell T.U) (v:Value),cs[j]?=some c->vs[j]?=some v->yo0 T w S c v
mutual
def VR (w:World) (S:List Nat) (φ:Nat->RA):AV T.U->Value->Prop
 | .cell c,v=>yo0 T w S c v
 | .ptr i o,v=> ∃g,(φ i).ad=some ⟨g,0,none⟩/\v=.pointer (some ⟨g,o,none⟩)
 | .eptr i sz k c,v=> ∃g,(φ i).ad=some ⟨g,0,none⟩/\v=.pointer (some ⟨g,0+(k*sz+c),none⟩)
 | .lptr e xs k o,v=> ∃ad cap,CR T w S (.list e) xs (.slice ad xs.length cap)/\k<xs.length/\v=.pointer (some ⟨bk ad,of ad+(k*szT T e+o),none⟩)
 | .own i,v=>v=.slice (φ i).ad (φ i).n (φ i).cap
 | .sl i sz o n,v=> ∃ad,v=.slice ad n ((φ i).cap-o)/\o+n<=(φ i).cap/\(n=0\/ ∃g,(φ i).ad=some ⟨g,0,none⟩/\ad=some ⟨g,0+o*sz,none⟩)/\(ad=none->n=0/\(φ i).cap-o=0)/\(o=0->ad=(φ i).ad)
 | .agg cs,v=> ∃vs:Array Value,v=.agg vs/\VRL w S φ cs vs.toList
 | .tup cs,v=> ∃vs:Array Value,v=.tuple vs/\VRL w S φ cs vs.toList
 | .fn f a b,v=> ∃h j:Array Value,v=.func f h j/\VRL w S φ a h.toList/\VRL w S φ b j.toList
 | .ifc t a,v=> ∃u,v=.iface t u/\VR w S φ a u
 | .raw u,v=>v=u
 | .arr t n xs,v=> ∃vs:Array Value,v=.agg vs/\xs.length=n/\CellsR T w S (xs.flatMap (zc6 T t)) vs.toList
 | .aptr i o sz n k c,v=> ∃g,(φ i).ad=some ⟨g,0,none⟩/\k<n/\v=.pointer (some ⟨g,o+(k*sz+c),none⟩)
 | .asl i o sz n d m,v=> ∃g ad,(φ i).ad=some ⟨g,0,none⟩/\v=.slice (some ad) m (n-d)/\d+m<=n/\(d=n\/ad=⟨g,o+d*sz,none⟩)
 | .mp i,v=> ∃g,(φ i).ad=some ⟨g,0,none⟩/\v=.map (some g)
 | .hmp i,v=>v=.map (some (φ i).n)
def VRL (w:World) (S:List Nat) (φ:Nat->RA):List (AV T.U)->List Value->Prop
 | [],[]=>True
 |a::r,v::s=>VR w S φ a v/\VRL w S φ r s
 |_,_=>False
end
def kr9 {Tc w w' a v} (b:Chg Tc w w') (c:a.block∉Tc) (h:w.cell? a=some v):w'.cell? a=some v:=
 (World.cell?_of_block (b.block _ (World.block_lt_of_cell? w _ h) c)).trans h
def CR.chg {Tc S S' w w'} (o:Chg Tc w w') (r: ∀b∈Tc,b∈S) (y: ∀b∈S',b∈S\/w.heap.size<=b) {t x v} (h:CR T w S t x v):CR T w' S' t x v:=by
 induction h with
 |int k x=>exact .int k x
 |bool b=>exact .bool b
 |str s=>exact .str s
 |nl e xs ad cap _ z i=>exact .nl e xs ad cap i z
 |list e xs ad cap u d f g a p i=>
  refine .list e xs ad cap u d f ?_ ?_ i
  ·intro l;obtain ⟨A,B,m⟩:=g l;refine ⟨A,V3 B o.size,fun n=>?_⟩;rcases y _ n with h|h
   ·exact m h
   ·omega
  ·intro k j c q;have l:xs≠ []:=by intro e;subst e;simp at q
   obtain ⟨_,_,m⟩:=g l;exact kr9 o (fun n=>m (r _ n)) (a k j c q)
def CellsR.chg {Tc S S' w w'} (a:Chg Tc w w') (d: ∀b∈Tc,b∈S) (e: ∀b∈S',b∈S\/w.heap.size<=b) {cs vs} (h:CellsR T w S cs vs):CellsR T w' S' cs vs:=
 ⟨h.1,fun j c v f g=>(h.2 j c v f g).chg T a d e⟩
mutual
def VR.chg {Tc S S' w w' φ} (j:Chg Tc w w') (l: ∀b∈Tc,b∈S) (p: ∀b∈S',b∈S\/w.heap.size<=b): ∀ {a v},VR T w S φ a v->VR T w' S' φ a v
 | .cell c,v,h=>CR.chg T j l p h
 | .ptr i o,v,h=>h
 | .eptr i sz k c,v,h=>h
 | .lptr e xs k o,v,h=>by obtain ⟨ad,cap,d,g,q⟩:=h;exact ⟨ad,cap,d.chg T j l p,g,q⟩
 | .own i,v,h=>h
 | .sl i sz o n,v,h=>h
 | .agg cs,v,h=>by obtain ⟨vs,d,g⟩:=h;exact ⟨vs,d,VRL.chg j l p g⟩
 | .tup cs,v,h=>by obtain ⟨vs,d,g⟩:=h;exact ⟨vs,d,VRL.chg j l p g⟩
 | .fn f a b,v,h=>by obtain ⟨r,s,d,g,q⟩:=h;exact ⟨r,s,d,VRL.chg j l p g,VRL.chg j l p q⟩
 | .ifc t a,v,h=>by obtain ⟨u,d,g⟩:=h;exact ⟨u,d,VR.chg j l p g⟩
 | .raw u,v,h=>h
 | .arr t n xs,v,h=>by obtain ⟨vs,d,g,q⟩:=h;exact ⟨vs,d,g,q.chg T j l p⟩
 | .aptr i o sz n k c,v,h=>h
 | .asl i o sz n x m,v,h=>h
 | .mp i,v,h=>h
 | .hmp i,v,h=>h
def VRL.chg {Tc S S':List Nat} {w w':World} {φ:Nat->RA} (hc:Chg Tc w w') (hT: ∀b∈Tc,b∈S) (hS: ∀b∈S',b∈S\/w.heap.size<=b): ∀ {aS:List (AV T.U)} {vs:List Value},VRL T w S φ aS vs->VRL T w' S' φ aS vs
 | [],[],_=>trivial
 | [],_::_,h=>h.elim
 |_::_,[],h=>h.elim
 |_::_,_::_,h=>⟨VR.chg hc hT hS h.1,VRL.chg hc hT hS h.2⟩
end
def VRL.len {S:List Nat} {w:World} {φ:Nat->RA}: ∀ {aS:List (AV T.U)} {vs:List Value},VRL T w S φ aS vs->aS.length=vs.length
 | [],[],_=>rfl
 | [],_::_,h=>h.elim
 |_::_,[],h=>h.elim
 |_::r,_::s,h=>by simp [VRL.len h.2]
def VRL.get {S:List Nat} {w:World} {φ:Nat->RA}: ∀ {aS:List (AV T.U)} {vs:List Value} {j:Nat} {a:AV T.U},VRL T w S φ aS vs->aS[j]?=some a-> ∃v,vs[j]?=some v/\VR T w S φ a v
 | [],_,_,_,_,h=>by simp at h
 |_::_,[],_,_,h,_=>h.elim
 |_::_,v::_,0,b,h,hj=>by simp at hj;subst hj;exact ⟨v,rfl,h.1⟩
 |_::_,_::_,j+1,b,h,hj=>by simp at hj;simpa using VRL.get h.2 hj
def VRL.app {S:List Nat} {w:World} {φ:Nat->RA}: ∀ {aS bs:List (AV T.U)} {vs us:List Value},VRL T w S φ aS vs->VRL T w S φ bs us->VRL T w S φ (aS++bs) (vs++us)
 | [],_,[],_,_,h=>h
 | [],_,_::_,_,h,_=>h.elim
 |_::_,_,[],_,h,_=>h.elim
 |_::_,_,_::_,_,h,h'=>⟨h.1,VRL.app h.2 h'⟩
def VRL.drop {S:List Nat} {w:World} {φ:Nat->RA}: ∀ {aS:List (AV T.U)} {vs:List Value} (n:Nat),VRL T w S φ aS vs->VRL T w S φ (aS.drop n) (vs.drop n)
 |_,_,0,h=>h
 | [],[],_+1,_=>trivial
 | [],_::_,_+1,h=>h.elim
 |_::_,[],_+1,h=>h.elim
 |_::r,_::s,n+1,h=>VRL.drop (aS:=r) (vs:=s) n h.2
def VRL.take {S:List Nat} {w:World} {φ:Nat->RA}: ∀ {aS:List (AV T.U)} {vs:List Value} (n:Nat),VRL T w S φ aS vs->VRL T w S φ (aS.take n) (vs.take n)
 |_,_,0,_=>by simp [VRL]
 | [],[],_+1,_=>by simp [VRL]
 | [],_::_,_+1,h=>h.elim
 |_::_,[],_+1,h=>h.elim
 |_::r,_::s,n+1,h=>⟨h.1,VRL.take (aS:=r) (vs:=s) n h.2⟩
def VRL.set {S:List Nat} {w:World} {φ:Nat->RA}: ∀ {aS:List (AV T.U)} {vs:List Value} (n:Nat) {a:AV T.U} {v:Value},VRL T w S φ aS vs->VR T w S φ a v->VRL T w S φ (aS.set n a) (vs.set n v)
 | [],[],_,_,_,_,_=>trivial
 | [],_::_,_,_,_,h,_=>h.elim
 |_::_,[],_,_,_,h,_=>h.elim
 |_::_,_::_,0,_,_,h,h'=>⟨h',h.2⟩
 |_::r,_::s,n+1,_,_,h,h'=>⟨h.1,VRL.set (aS:=r) (vs:=s) n h.2 h'⟩
mutual
def AV.ren {U:Nat->Type} (ρ:Nat->Nat):AV U->AV U
 | .cell c=>.cell c
 | .ptr i o=>.ptr (ρ i) o
 | .eptr i sz k c=>.eptr (ρ i) sz k c
 | .lptr e xs k o=>.lptr e xs k o
 | .own i=>.own (ρ i)
 | .sl i sz o n=>.sl (ρ i) sz o n
 | .agg cs=>.agg (zk5 ρ cs)
 | .tup cs=>.tup (zk5 ρ cs)
 | .fn f a b=>.fn f (zk5 ρ a) (zk5 ρ b)
 | .ifc t a=>.ifc t (a.ren ρ)
 | .raw v=>.raw v
 | .arr t n xs=>.arr t n xs
 | .aptr i o sz n k c=>.aptr (ρ i) o sz n k c
 | .asl i o sz n d m=>.asl (ρ i) o sz n d m
 | .mp i=>.mp (ρ i)
 | .hmp i=>.hmp (ρ i)
def zk5 {U:Nat->Type} (ρ:Nat->Nat):List (AV U)->List (AV U)
 | []=> []
 |a::r=>a.ren ρ::zk5 ρ r
end
def RSame (r a:RA):Prop:=r.ad=a.ad/\r.n=a.n/\r.cap=a.cap
def RSame.trans {r b a} (h:RSame r b) (k:RSame b a):RSame r a:=⟨h.1.trans k.1,h.2.1.trans k.2.1,h.2.2.trans k.2.2⟩
def RSame.symm {r a} (h:RSame r a):RSame a r:=⟨h.1.symm,h.2.1.symm,h.2.2.symm⟩
def RSame.of {r a} (h:r=a):RSame r a:=by subst h;exact ⟨rfl,rfl,rfl⟩
mutual
def VR.renS {S w φ φ' ρ}: ∀ {a v},(∀i∈a.ids,RSame (φ' (ρ i)) (φ i))->VR T w S φ a v->VR T w S φ' (a.ren ρ) v
 | .cell c,v,_,h=>by rw [AV.ren];exact h
 | .ptr i o,v,d,h=>by rw [AV.ren];obtain ⟨g,j,l⟩:=h;exact ⟨g,(d i (by simp [AV.ids])).1.trans j,l⟩
 | .eptr i sz k c,v,d,h=>by rw [AV.ren];obtain ⟨g,j,l⟩:=h;exact ⟨g,(d i (by simp [AV.ids])).1.trans j,l⟩
 | .lptr e xs k o,v,_,h=>by rw [AV.ren];exact h
 | .own i,v,d,h=>by obtain ⟨j,l,p⟩:=d i (by simp [AV.ids]);rw [AV.ren,VR,j,l,p];exact h
 | .sl i sz o n,v,d,h=>by
  obtain ⟨s,B,x⟩:=d i (by simp [AV.ids]);rw [AV.ren];obtain ⟨ad,j,l,p,y,r⟩:=h;rw [VR,s,x];refine ⟨ad,j,l,?_,y,r⟩;rcases p with p|⟨g,p,r⟩
  ·exact .inl p
  ·exact .inr ⟨g,p,r⟩
 | .agg cs,v,d,h=>by rw [AV.ren];obtain ⟨vs,j,l⟩:=h;exact ⟨vs,j,VRL.renS (fun i q=>d i (by rw [AV.ids];exact q)) l⟩
 | .tup cs,v,d,h=>by rw [AV.ren];obtain ⟨vs,j,l⟩:=h;exact ⟨vs,j,VRL.renS (fun i q=>d i (by rw [AV.ids];exact q)) l⟩
 | .fn f a b,v,d,h=>by
  rw [AV.ren];obtain ⟨z,A,j,l,p⟩:=h;exact ⟨z,A,j,VRL.renS (fun i q=>d i (by rw [AV.ids];exact X4.2 (.inl q))) l,VRL.renS (fun i q=>d i (by rw [AV.ids];exact X4.2 (.inr q))) p⟩
 | .ifc t a,v,d,h=>by rw [AV.ren];obtain ⟨u,j,l⟩:=h;exact ⟨u,j,VR.renS (fun i q=>d i (by rw [AV.ids];exact q)) l⟩
 | .raw u,v,_,h=>by rw [AV.ren];exact h
 | .arr t n xs,v,_,h=>by rw [AV.ren];exact h
 | .aptr i o sz n k c,v,d,h=>by rw [AV.ren];obtain ⟨g,j,l⟩:=h;exact ⟨g,(d i (by simp [AV.ids])).1.trans j,l⟩
 | .asl i o sz n C m,v,d,h=>by rw [AV.ren];obtain ⟨g,ad,j,l⟩:=h;exact ⟨g,ad,(d i (by simp [AV.ids])).1.trans j,l⟩
 | .mp i,v,d,h=>by rw [AV.ren];obtain ⟨g,j,l⟩:=h;exact ⟨g,(d i (by simp [AV.ids])).1.trans j,l⟩
 | .hmp i,v,d,h=>by rw [AV.ren,VR,(d i (by simp [AV.ids])).2.1];exact h
def VRL.renS {S:List Nat} {w:World} {φ φ':Nat->RA} {ρ:Nat->Nat}: ∀ {aS:List (AV T.U)} {vs:List Value},(∀i∈za1 aS,RSame (φ' (ρ i)) (φ i))->VRL T w S φ aS vs->VRL T w S φ' (zk5 ρ aS) vs
 | [],[],_,_=>trivial
 | [],_::_,_,h=>h.elim
 |_::_,[],_,h=>h.elim
 |a::r,v::s,hi,h=>⟨VR.renS (fun i hm=>hi i (by rw [za1];exact X4.2 (.inl hm))) h.1,VRL.renS (fun i hm=>hi i (by rw [za1];exact X4.2 (.inr hm))) h.2⟩
end
def VR.ren {S w φ φ' ρ a v} (b: ∀i∈a.ids,φ' (ρ i)=φ i) (h:VR T w S φ a v):VR T w S φ' (a.ren ρ) v:=VR.renS T (fun i m=>RSame.of (b i m)) h
def VRL.ren {S:List Nat} {w:World} {φ φ':Nat->RA} {ρ:Nat->Nat} {aS:List (AV T.U)} {vs:List Value} (hi: ∀i∈za1 aS,φ' (ρ i)=φ i) (h:VRL T w S φ aS vs):VRL T w S φ' (zk5 ρ aS) vs:=VRL.renS T (fun i m=>RSame.of (hi i m)) h
def wd:AV T.U->Nat| .arr t n _=>n*szT T t|_=>1
def jo0:AV T.U->List (AV T.U)| .arr t _ xs=>(xs.flatMap (zc6 T t)).map .cell|a=> [a]
def zj2:List (AV T.U)->List (AV T.U)
 | []=> []
 |a::r=>jo0 T a++zj2 r
def qc7:AV T.U->Prop| .arr _ n xs=>xs.length=n|_=>True
def yb1:List (AV T.U)->Prop
 | []=>True
 |a::r=>qc7 T a/\yb1 r
def zb7:AV T.U->Bool| .arr _ _ _=>false|_=>true
def zq6 {a} (h:zb7 T a=true):jo0 T a= [a]:=by cases a<;>first|rfl|cases h
def ye6 {a} (h:zb7 T a=true):qc7 T a:=by cases a<;>first|trivial|cases h
def qt3 {a} (h:zb7 T a=true):wd T a=1:=by cases a<;>first|rfl|cases h
def flatMap_lenT {α b:Type} {f:α->List b} {sz:Nat} (c: ∀y,(f y).length=sz) (l:List α):(l.flatMap f).length=l.length*sz:=by
 induction l with
 |nil=>simp
 |cons a r d=>rw [V9,X9,c,d,U3,U4,J0]
def yg1 {a} (h:qc7 T a):(jo0 T a).length=wd T a:=by
 cases a<;>try rfl
 rename_i t n xs;rw [jo0,V1,flatMap_lenT (za9 T t),wd,show xs.length=n from h]
def yg2 (aS bs:List (AV T.U)):zj2 T (aS++bs)=zj2 T aS++zj2 T bs:=by
 induction aS with
 |nil=>rfl
 |cons a r ih=>rw [M6,zj2,zj2,ih,Q2]
def ju3 {cs} (h:cs.all (zb7 T)=true):zj2 T cs=cs:=by
 induction cs with
 |nil=>rfl
 |cons a r b=>rw [V6,X3] at h;rw [zj2,zq6 T h.1,b h.2];rfl
def kc6 {cs} (h:cs.all (zb7 T)=true):yb1 T cs:=by
 induction cs with
 |nil=>trivial
 |cons a r b=>rw [V6,X3] at h;exact ⟨ye6 T h.1,b h.2⟩
def jf6 {aS bs:List (AV T.U)}:yb1 T (aS++bs)↔yb1 T aS/\yb1 T bs:=by
 induction aS with
 |nil=>simp [yb1]
 |cons a r ih=>rw [M6,yb1,yb1,ih,and_assoc]
def yn1 {U:Nat->Type} (aS bs:List (AV U)):za1 (aS++bs)=za1 aS++za1 bs:=by
 induction aS with
 |nil=>rfl
 |cons a r ih=>rw [M6,za1,za1,ih,Q2]
def yv2 {U} (cs:List (Cell U)):za1 (cs.map AV.cell)= []:=by
 induction cs with
 |nil=>rfl
 |cons a r b=>rw [U0,za1,b];rfl
def ks6 (a):za1 (jo0 T a)=a.ids:=by
 cases a<;>first|exact yv2 _|exact V5 _
def ju2 (cs):za1 (zj2 T cs)=za1 cs:=by
 induction cs with
 |nil=>rfl
 |cons a r b=>rw [zj2,yn1,ks6,b,za1]
def gd9 {U:Nat->Type} (ρ:Nat->Nat) (aS bs:List (AV U)):zk5 ρ (aS++bs)=zk5 ρ aS++zk5 ρ bs:=by
 induction aS with
 |nil=>rfl
 |cons a r ih=>rw [M6,zk5,zk5,ih];rfl
def vk3 {U} (ρ:Nat->Nat) (cs:List (Cell U)):zk5 ρ (cs.map AV.cell)=cs.map AV.cell:=by
 induction cs with
 |nil=>rfl
 |cons a r b=>rw [U0,zk5,b];rfl
def ks7 (ρ a):jo0 T (a.ren ρ)=zk5 ρ (jo0 T a):=by
 cases a<;>first|exact (vk3 ρ _).symm|rfl
def qw6 (ρ cs):zj2 T (zk5 ρ cs)=zk5 ρ (zj2 T cs):=by
 induction cs with
 |nil=>rfl
 |cons a r b=>rw [zk5,zj2,zj2,gd9,b,ks7]
def kc4 {ρ a} (h:qc7 T a):qc7 T (a.ren ρ):=by cases a<;>first|trivial|exact h
def qf7 {ρ cs} (h:yb1 T cs):yb1 T (zk5 ρ cs):=by
 induction cs with
 |nil=>trivial
 |cons a r b=>exact ⟨kc4 T h.1,b h.2⟩
def BR (w:World) (S:List Nat) (φ:Nat->RA) (cs:List (AV T.U)) (vs:List Value):Prop:=VRL T w S φ (zj2 T cs) vs/\yb1 T cs
def BR.of {w S φ cs vs} (h:VRL T w S φ cs vs) (a:cs.all (zb7 T)=true):BR T w S φ cs vs:=⟨by rw [ju3 T a];exact h,kc6 T a⟩
def BR.vrl {w S φ cs vs} (h:BR T w S φ cs vs) (a:cs.all (zb7 T)=true):VRL T w S φ cs vs:=by have:=h.1;rwa [ju3 T a] at this
def BR.chg {Tc S S' w w' φ} (a:Chg Tc w w') (c: ∀b∈Tc,b∈S) (d: ∀b∈S',b∈S\/w.heap.size<=b) {cs vs} (h:BR T w S φ cs vs):BR T w' S' φ cs vs:=⟨h.1.chg T a c d,h.2⟩
def BR.ren {S w φ φ' ρ cs vs} (a: ∀i∈za1 cs,φ' (ρ i)=φ i) (h:BR T w S φ cs vs):BR T w S φ' (zk5 ρ cs) vs:=
 ⟨by rw [qw6];exact VRL.ren T (by rw [ju2];exact a) h.1,qf7 T h.2⟩
def BR.renS {S w φ φ' ρ cs vs} (a: ∀i∈za1 cs,RSame (φ' (ρ i)) (φ i)) (h:BR T w S φ cs vs):BR T w S φ' (zk5 ρ cs) vs:=
 ⟨by rw [qw6];exact VRL.renS T (by rw [ju2];exact a) h.1,qf7 T h.2⟩
def MR (w:World) (S:List Nat) (φ:Nat->RA) (k:IntKind):List (Int×AV T.U)->List MapEntry->Prop
 | [],[]=>True
 |(x,a)::r,e::s=>e.key=.int k x/\VR T w S φ a e.val/\MR w S φ k r s
 |_,_=>False
def idsM {U:Nat->Type}:List (Int×AV U)->List Nat
 | []=> []
 |(_,a)::r=>a.ids++idsM r
def qn0 {U:Nat->Type} (ρ:Nat->Nat):List (Int×AV U)->List (Int×AV U)
 | []=> []
 |(x,a)::r=>(x,a.ren ρ)::qn0 ρ r
def MR.chg {Tc S S' w w' φ} (a:Chg Tc w w') (c: ∀b∈Tc,b∈S) (d: ∀b∈S',b∈S\/w.heap.size<=b) {k}: ∀ {es l},MR T w S φ k es l->MR T w' S' φ k es l
 | [],[],_=>trivial
 | [],_::_,h=>h.elim
 |_::_,[],h=>h.elim
 |(_,_)::_,_::_,h=>⟨h.1,h.2.1.chg T a c d,MR.chg a c d h.2.2⟩
def MR.ren {S w φ φ' ρ k}: ∀ {es l},(∀i∈idsM es,φ' (ρ i)=φ i)->MR T w S φ k es l->MR T w S φ' k (qn0 ρ es) l
 | [],[],_,_=>trivial
 | [],_::_,_,h=>h.elim
 |_::_,[],_,h=>h.elim
 |(_,a)::r,_::_,c,h=>⟨h.1,h.2.1.ren T fun i b=>c i (by rw [idsM];exact X4.2 (.inl b)),MR.ren (fun i b=>c i (by rw [idsM];exact X4.2 (.inr b))) h.2.2⟩
def MR.renS {S w φ φ' ρ k}: ∀ {es l},(∀i∈idsM es,RSame (φ' (ρ i)) (φ i))->MR T w S φ k es l->MR T w S φ' k (qn0 ρ es) l
 | [],[],_,_=>trivial
 | [],_::_,_,h=>h.elim
 |_::_,[],_,h=>h.elim
 |(_,a)::r,_::_,c,h=>⟨h.1,h.2.1.renS T fun i b=>c i (by rw [idsM];exact X4.2 (.inl b)),MR.renS (fun i b=>c i (by rw [idsM];exact X4.2 (.inr b))) h.2.2⟩
def TR (w:World) (S:List Nat) (k:IntKind) (t:Ty):List (Int×den T.U t)->List MapEntry->Prop
 | [],[]=>True
 |(x,a)::r,e::s=>e.key=.int k x/\CR T w S t a e.val/\TR w S k t r s
 |_,_=>False
def TR.chg {Tc S S' w w'} (a:Chg Tc w w') (c: ∀b∈Tc,b∈S) (d: ∀b∈S',b∈S\/w.heap.size<=b) {k t}: ∀ {es l},TR T w S k t es l->TR T w' S' k t es l
 | [],[],_=>trivial
 | [],_::_,h=>h.elim
 |_::_,[],h=>h.elim
 |(_,_)::_,_::_,h=>⟨h.1,h.2.1.chg T a c d,TR.chg a c d h.2.2⟩
def DC (w:World) (S:List Nat) (e:TypeId):Cell T.U->Value->Prop
 |⟨.list t,ys⟩,v=>(e=0->yo0 T w S ⟨.list t,ys⟩ v)/\(e≠0-> ∃B ad cap a,v=.slice ad (List.length (α:=den T.U t) ys) cap/\Own w B e (szT T t) ad (List.length (α:=den T.U t) ys) cap a/\B<=w.heap.size/\CellsR T w S (List.flatMap (zc6 T t) (ys:List (den T.U t))) a)
 |c,v=>yo0 T w S c v
def ya6 (e:TypeId) (c:Cell T.U) (v:Value):List Nat:=match Nat.beq e 0 with|true=> []|false=>match c.t,v with| .list _,.slice ad _ _=>ze5 ad|_,_=> []
def vg9 (sz:Nat) (b:Option (Nat×List (AV T.U))) (j:Nat):Prop:=match b with|some (a,_)=>a*sz<=j/\j<a*sz+sz|none=>False
structure DRel (w:World) (S:List Nat) (φ:Nat->RA) (r:RA) (d:Nat) (fe:List TypeId) (xs:List (T.U d)) (op:Option (Nat×List (AV T.U))) (vals:List Value):Prop where
 cl: ∀j c v,(xs.flatMap (T.cells d))[j]?=some c->vals[j]?=some v-> ¬vg9 T (T.size d) op j->DC T w S (fe.getD (j%T.size d) 0) c v/\ ∀b∈ya6 T (fe.getD (j%T.size d) 0) c v,b∈r.xs/\ ∀a,r.ad=some a->a.block≠b
 ap: ∀j j' c c' v v',j≠j'->(xs.flatMap (T.cells d))[j]?=some c->vals[j]?=some v-> ¬vg9 T (T.size d) op j->(xs.flatMap (T.cells d))[j']?=some c'->vals[j']?=some v'-> ¬vg9 T (T.size d) op j'-> ∀b∈ya6 T (fe.getD (j%T.size d) 0) c v,b∉ya6 T (fe.getD (j'%T.size d) 0) c' v'
 opn: ∀a cs,op=some (a,cs)->a<xs.length/\cs.length=T.size d/\ ∀f x,cs[f]?=some x-> ∃v,vals[a*T.size d+f]?=some v/\VR T w S φ x v
def PB (w:World) (S:List Nat) (φ:Nat->RA) (a:TypeId) (d:Nat) (u:T.U d) (b:Nat):Prop:= ∃c,Blk w b c a/\BR T w S φ (T.bl d u) c.toList
def vi2 (a:Option (Int×Nat)) (x:Int):Option Nat:=match a with|some (y,j)=>if y=x then some j else none|none=>none
def PV (w:World) (S:List Nat) (φ:Nat->RA) (r:RA) (e:TypeId) (d:Nat) (c:Option (Int×Nat)) (x:Int) (u:T.U d) (v:Value) (b:Nat):Prop:=
 v=.pointer (some ⟨b,0,none⟩)/\(∀j,vi2 c x=some j->(φ j).ad=some ⟨b,0,none⟩)/\(vi2 c x=none->b∈r.xs/\(∀a,r.ad=some a->a.block≠b)/\PB T w S φ e d u b)
structure PRel (w:World) (S:List Nat) (φ:Nat->RA) (r:RA) (k:IntKind) (be:TypeId) (d:Nat) (m:List (Int×T.U d)) (op:Option (Int×Nat)) (l:List MapEntry) (bs:List Nat):Prop where
 len:m.length=l.length
 lenb:m.length=bs.length
 nd:(m.map Prod.fst).Nodup
 at_: ∀(p:Nat) (x:Int) (u:T.U d) (e:MapEntry) (b:Nat),m[p]?=some (x,u)->l[p]?=some e->bs[p]?=some b->e.key=.int k x/\PV T w S φ r be d op x u e.val b
 ap: ∀(p p':Nat) (x x':Int) (u u':T.U d) (b:Nat),p≠p'->m[p]?=some (x,u)->m[p']?=some (x',u')->vi2 op x=none->vi2 op x'=none->bs[p]?=some b->bs[p']?≠some b
 opn: ∀x j,op=some (x,j)->x∈m.map Prod.fst
def EntR (w:World) (S:List Nat) (φ:Nat->RA) (i:Nat):Ent T.U->Prop
 | .blk e cs=> ∃g c,(φ i).ad=some ⟨g,0,none⟩/\Blk w g c e/\g∈S/\BR T w S φ cs c.toList
 | .row e t xs=> ∃B b,Own w B e (szT T t) (φ i).ad (φ i).n (φ i).cap b/\(φ i).n=xs.length/\B<=w.heap.size/\CellsR T w S (xs.flatMap (zc6 T t)) b/\ ∀a,(φ i).ad=some a->a.block∈S
 | .map k es=> ∃g l c,(φ i).ad=some ⟨g,0,none⟩/\Mp w g l c/\g∈S/\MR T w S φ k es l.toList/\MapKept.Stamped l c
 | .tmap k t m=> ∃g l c,(φ i).ad=some ⟨g,0,none⟩/\Mp w g l c/\g∈S/\TR T w S k t m l.toList/\MapKept.Stamped l c
 | .drow e d fe xs f=> ∃B b,Own w B e (T.size d) (φ i).ad (φ i).n (φ i).cap b/\(φ i).n=xs.length/\B<=w.heap.size/\(∀a,(φ i).ad=some a->a.block∈S)/\DRel T w S φ (φ i) d fe xs f b
 | .pmap k h d m f=> ∃g l c j,(φ i).ad=some ⟨g,0,none⟩/\Mp w g l c/\g∈S/\PRel T w S φ (φ i) k h d m f l.toList j/\MapKept.Stamped l c
 | .hid=>(φ i).ad=none/\(φ i).xs= []
 | .gone=>True
def At (r:RA) (a:Addr):Prop:=r.ad=some a\/a.block∈r.xs
def DC.chg {Tc S S' w w' e c v} (d:Chg Tc w w') (i: ∀b∈Tc,b∈S) (j: ∀b∈S',b∈S\/w.heap.size<=b) (k: ∀b∈ya6 T e c v,b∉Tc) (h:DC T w S e c v):DC T w' S' e c v:=by
 obtain ⟨t,x⟩:=c;cases t with
 |list t=>
  refine ⟨fun g=>(h.1 g).chg T d i j,fun g=>?_⟩;obtain ⟨B,ad,cap,f,rfl,l,m,n⟩:=h.2 g;refine ⟨B,ad,cap,f,rfl,l.chg d ?_,W8 m d.size,n.chg T d i j⟩;have o:Nat.beq e 0=false:=by cases k:Nat.beq e 0;rfl;exact absurd (X1 k) g
  cases had:ad with
  |none=>exact .inr rfl
  |some a=>subst had;exact .inl (k _ (by simp [ya6,o,ze5,bk]))
 |_=>exact CR.chg T d i j h
def DRel.chg {Tc S S' w w' φ r d fe xs l e} (m:Chg Tc w w') (n: ∀b∈Tc,b∈S) (o: ∀b∈S',b∈S\/w.heap.size<=b) (q: ∀b∈r.xs,(∀a,r.ad=some a->a.block≠b)->b∉Tc) (h:DRel T w S φ r d fe xs l e):DRel T w' S' φ r d fe xs l e:=
 ⟨fun j c v g i k=>⟨((h.cl j c v g i k).1).chg T m n o fun b p=>q b ((h.cl j c v g i k).2 b p).1 ((h.cl j c v g i k).2 b p).2,(h.cl j c v g i k).2⟩,h.ap,
  fun a cs g=>⟨(h.opn a cs g).1,(h.opn a cs g).2.1,fun f x s=>by obtain ⟨v,i,k⟩:=(h.opn a cs g).2.2 f x s;exact ⟨v,i,k.chg T m n o⟩⟩⟩
def PB.chg {Tc S S' w w' φ a d u b} (e:Chg Tc w w') (f: ∀b∈Tc,b∈S) (g: ∀b∈S',b∈S\/w.heap.size<=b) (i:b∉Tc) (h:PB T w S φ a d u b):PB T w' S' φ a d u b:=by
 obtain ⟨c,j,k⟩:=h;exact ⟨c,j.chg e i,k.chg T e f g⟩
def PRel.chg {Tc S S' w w' φ r k g d m i l j} (n:Chg Tc w w') (o: ∀b∈Tc,b∈S) (q: ∀b∈S',b∈S\/w.heap.size<=b) (s: ∀b∈r.xs,(∀a,r.ad=some a->a.block≠b)->b∉Tc) (h:PRel T w S φ r k g d m i l j):PRel T w' S' φ r k g d m i l j:=
 ⟨h.len,h.lenb,h.nd,fun p x u e b t v y=>by
  obtain ⟨z,A,B,c⟩:=h.at_ p x u e b t v y;exact ⟨z,A,B,fun f=>⟨(c f).1,(c f).2.1,(c f).2.2.chg T n o q (s b (c f).1 (c f).2.1)⟩⟩,h.ap,h.opn⟩
def Ent.live {U:Nat->Type}:Ent U->Bool| .gone=>false|_=>true
def EntR.chg {Tc S S' w w' φ} (j:Chg Tc w w') (u: ∀b∈Tc,b∈S) (v: ∀b∈S',b∈S\/w.heap.size<=b) {i e} (h:EntR T w S φ i e)
  (p:e.live=true-> ∀a,At (φ i) a->a.block∉Tc/\a.block∈S'):EntR T w' S' φ i e:=by
 cases e with
 |blk e cs=>
  obtain ⟨g,c,f,n,x,q⟩:=h;obtain ⟨r,s⟩:=p rfl _ (.inl f);exact ⟨g,c,f,n.chg j r,s,q.chg T j u v⟩
 |row e t xs=>
  obtain ⟨B,o,f,z,n,x,q⟩:=h;refine ⟨B,o,?_,z,W8 n j.size,x.chg T j u v,fun a A=>(p rfl a (.inl A)).2⟩;cases hφ:(φ i).ad with
  |none=>rw [hφ] at f;exact f.chg j (.inr rfl)
  |some a=>rw [hφ] at f;exact f.chg j (.inl (p rfl a (.inl hφ)).1)
 |map k es=>
  obtain ⟨g,l,c,f,n,x,q,y⟩:=h;obtain ⟨r,s⟩:=p rfl _ (.inl f);exact ⟨g,l,c,f,n.chg j r,s,q.chg T j u v,y⟩
 |tmap k t m=>
  obtain ⟨g,l,c,f,n,x,q,y⟩:=h;obtain ⟨r,s⟩:=p rfl _ (.inl f);exact ⟨g,l,c,f,n.chg j r,s,q.chg T j u v,y⟩
 |drow e d fe xs D=>
  obtain ⟨B,o,f,z,n,q,r⟩:=h;refine ⟨B,o,?_,z,W8 n j.size,fun a A=>(p rfl a (.inl A)).2,r.chg T j u v fun b C _=>(p rfl ⟨b,0,none⟩ (.inr C)).1⟩;cases hφ:(φ i).ad with
  |none=>rw [hφ] at f;exact f.chg j (.inr rfl)
  |some a=>rw [hφ] at f;exact f.chg j (.inl (p rfl a (.inl hφ)).1)
 |pmap k F d m D=>
  obtain ⟨g,l,c,E,f,n,x,q,y⟩:=h;obtain ⟨r,s⟩:=p rfl _ (.inl f);exact ⟨g,l,c,E,f,n.chg j r,s,q.chg T j u v fun b C _=>(p rfl ⟨b,0,none⟩ (.inr C)).1,y⟩
 |hid=>exact h
 |gone=>trivial
def gi0:Option (Int×Nat)->List Nat|some (_,j)=> [j]|none=> []
def kp6 (ρ:Nat->Nat):Option (Int×Nat)->Option (Int×Nat)|some (x,j)=>some (x,ρ j)|none=>none
mutual
def vx8 {U ρ}: ∀ {a:AV U},a.ids= []->a.ren ρ=a
 | .cell _,_=>by rw [AV.ren]
 | .ptr _ _,h=>by simp [AV.ids] at h
 | .eptr _ _ _ _,h=>by simp [AV.ids] at h
 | .lptr _ _ _ _,_=>by rw [AV.ren]
 | .own _,h=>by simp [AV.ids] at h
 | .sl _ _ _ _,h=>by simp [AV.ids] at h
 | .agg cs,h=>by rw [AV.ren,yh0 (by rwa [AV.ids] at h)]
 | .tup cs,h=>by rw [AV.ren,yh0 (by rwa [AV.ids] at h)]
 | .fn _ a b,h=>by rw [AV.ids,R1] at h;rw [AV.ren,yh0 h.1,yh0 h.2]
 | .ifc _ a,h=>by rw [AV.ren,vx8 (by rwa [AV.ids] at h)]
 | .raw _,_=>by rw [AV.ren]
 | .arr _ _ _,_=>by rw [AV.ren]
 | .aptr _ _ _ _ _ _,h=>by simp [AV.ids] at h
 | .asl _ _ _ _ _ _,h=>by simp [AV.ids] at h
 | .mp _,h=>by simp [AV.ids] at h
 | .hmp _,h=>by simp [AV.ids] at h
def yh0 {U:Nat->Type} {ρ:Nat->Nat}: ∀ {aS:List (AV U)},za1 aS= []->zk5 ρ aS=aS
 | [],_=>by rw [zk5]
 |a::r,h=>by rw [za1,R1] at h;rw [zk5,vx8 h.1,yh0 h.2]
end
def PB.renS {w:World} {S:List Nat} {φ φ':Nat->RA} {a:TypeId} {d:Nat} {u:T.U d} {b:Nat} (h:PB T w S φ a d u b):PB T w S φ' a d u b:=by
 obtain ⟨c,f,g⟩:=h;have:=g.renS T (ρ:=id) (φ':=φ') fun i e=>by rw [T.bl0] at e;cases e
 rw [yh0 (T.bl0 d u)] at this;exact ⟨c,f,this⟩
def jb2 {ρ a x}:vi2 (kp6 ρ a) x=(vi2 a x).map ρ:=by
 cases a with
 |none=>rfl
 |some p=>obtain ⟨y,j⟩:=p;simp only [kp6,vi2];split<;>rfl
def kv6 {a x j} (h:vi2 a x=some j):j∈gi0 a:=by
 cases a with
 |none=>cases h
 |some p=>obtain ⟨y,i⟩:=p;simp only [vi2] at h;split at h<;>simp_all [gi0]
def PRel.renS {w S φ φ' ρ r k t d m f l v} (A: ∀k∈gi0 f,RSame (φ' (ρ k)) (φ k)) (h:PRel T w S φ r k t d m f l v):PRel T w S φ' r k t d m (kp6 ρ f) l v:=by
 refine ⟨h.len,h.lenb,h.nd,fun p x u e b n o q=>?_,fun p B x C u D b E n o q F=>h.ap p B x C u D b E n o ?_ ?_,fun x j a=>?_⟩
 ·obtain ⟨G,H,I,s⟩:=h.at_ p x u e b n o q;refine ⟨G,H,fun j a=>?_,fun g=>?_⟩
  ·rw [jb2] at a;obtain ⟨z,c,rfl⟩:=Option.map_eq_some_iff.1 a;exact (A z (kv6 c)).1.trans (I z c)
  ·rw [jb2,Option.map_eq_none_iff] at g;exact ⟨(s g).1,(s g).2.1,(s g).2.2.renS T⟩
 ·rwa [jb2,Option.map_eq_none_iff] at q
 ·rwa [jb2,Option.map_eq_none_iff] at F
 ·cases f with
  |none=>cases a
  |some p=>
   obtain ⟨y,i⟩:=p;simp only [kp6,X0,X7] at a;exact a.1▸h.opn y i rfl
def wk3 {U:Nat->Type}:Option (Nat×List (AV U))->List Nat|some (_,cs)=>za1 cs|none=> []
def kp7 {U:Nat->Type} (ρ:Nat->Nat):Option (Nat×List (AV U))->Option (Nat×List (AV U))|some (a,cs)=>some (a,zk5 ρ cs)|none=>none
def vc5 {U:Nat->Type} {ρ:Nat->Nat} {x:AV U}: ∀ {cs:List (AV U)} {f:Nat},(zk5 ρ cs)[f]?=some x-> ∃y,cs[f]?=some y/\x=y.ren ρ
 | [],f,h=>by simp [zk5] at h
 |a::r,0,h=>by simp [zk5] at h;exact ⟨a,rfl,h.symm⟩
 |a::r,f+1,h=>by simp [zk5] at h;simpa using vc5 h
def vc6 {U ρ}: ∀(cs:List (AV U)),(zk5 ρ cs).length=cs.length
 | []=>rfl
 |a::r=>by simp [zk5,vc6 r]
def vt3 {U:Nat->Type} {i:Nat} {x:AV U}: ∀ {cs:List (AV U)} {f:Nat},cs[f]?=some x->i∈x.ids->i∈za1 cs
 | [],f,h,_=>by simp at h
 |a::r,0,h,b=>by simp at h;subst h;rw [za1];exact X4.2 (.inl b)
 |a::r,f+1,h,b=>by simp at h;rw [za1];exact X4.2 (.inr (vt3 h b))
def ju6 {sz j ρ} (a):vg9 T sz (kp7 ρ a) j↔vg9 T sz a j:=by cases a<;>exact Iff.rfl
def DRel.renS {w S φ φ' ρ r d fe xs e b} (u: ∀k∈wk3 e,RSame (φ' (ρ k)) (φ k)) (h:DRel T w S φ r d fe xs e b):DRel T w S φ' r d fe xs (kp7 ρ e) b:=by
 refine ⟨fun j c v l m n=>h.cl j c v l m fun q=>n ((ju6 T e).2 q),fun j z c c' v A B l m n o s C=>h.ap j z c c' v A B l m (fun q=>n ((ju6 T e).2 q)) o s fun q=>C ((ju6 T e).2 q),fun a cs g=>?_⟩;cases e with
 |none=>cases g
 |some p=>
  obtain ⟨G,D⟩:=p;simp only [kp7,X0,X7] at g;obtain ⟨rfl,rfl⟩:=g;obtain ⟨l,m,n⟩:=h.opn _ _ rfl;refine ⟨l,by rw [vc6];exact m,fun f x E=>?_⟩;obtain ⟨y,t,rfl⟩:=vc5 E;obtain ⟨v,o,s⟩:=n f y t;exact ⟨v,o,s.renS T fun i F=>u i (vt3 t F)⟩
end
end Go.X
namespace Go.X
open Go.RowKit Go.V
section
variable (T:Tab) (P:Program)
abbrev AF:=List (Nat×AV T.U)
def AF.get:AF T->Nat->Option (AV T.U)
 | [],_=>none
 |(j,v)::r,i=>match Nat.beq j i with|true=>some v|false=>AF.get r i
def zc2 (F:AF T) (dst:Option Tmp) (v:AV T.U):AF T:=match dst with|some d=>(d,v)::F|none=>F
structure St where
 F:AF T
 H:List (Ent T.U)
def yw9:Value->AV T.U
 | .int k x=>.cell ⟨.int k,x⟩
 | .bool b=>.cell ⟨.bool,b⟩
 | .string s=>.cell ⟨.str,s⟩
 |v=>.raw v
def ofV:Value->AV T.U
 | .agg cs=>.agg (cs.toList.map (yw9 T))
 |v=>yw9 T v
def aev (F:AF T):Operand->Option (AV T.U)
 | .tmp t=>F.get T t
 | .const v=>some (ofV T v)
 | .func f=>some (.fn (.func f) [] [])
 | .global _=>none
def zx4 (F:AF T):List Operand->Option (List (AV T.U))
 | []=>some []
 |x::r=>match aev T F x,zx4 F r with|some a,some l=>some (a::l)|_,_=>none
def kk7:AV T.U->Option Value
 | .cell ⟨.int k,x⟩=>some (.int k x)
 | .cell ⟨.bool,b⟩=>some (.bool b)
 | .cell ⟨.str,s⟩=>some (.string s)
 | .raw v=>some v
 |_=>none
def vf3:List (AV T.U)->Option (List Value)
 | []=>some []
 |a::r=>match kk7 T a,vf3 r with|some v,some l=>some (v::l)|_,_=>none
def wj4:AV T.U->Option Value
 | .agg cs=>match vf3 T cs with|some l=>some (.agg l.toArray)|none=>none
 |a=>kk7 T a
abbrev cI (k:IntKind) (x:Int):AV T.U:=.cell ⟨.int k,x⟩
abbrev cB (b:Bool):AV T.U:=.cell ⟨.bool,b⟩
def wj0 (b:BinOp) (k:IntKind) (x y:Int):Option (AV T.U):=
 match b with
 | .add=>some (cI T k (k.wrap (x+y)))
 | .sub=>some (cI T k (k.wrap (x-y)))
 | .mul=>some (cI T k (k.wrap (x*y)))
 | .and=>some (cI T k (zb4 k x y))
 | .or=>some (cI T k (bOr k x y))
 | .xor=>some (cI T k (qw0 k x y))
 | .andNot=>some (cI T k (vr9 k x y))
 | .eql=>some (cB T (x==y))
 | .neq=>some (cB T (x != y))
 | .lss=>some (cB T (decide (x<y)))
 | .leq=>some (cB T (decide (x<=y)))
 | .gtr=>some (cB T (decide (x>y)))
 | .geq=>some (cB T (decide (x>=y)))
 |_=>none
def zf9 (a b:IntKind):Bool:=match a,b with
 | .i8,.i8| .i16,.i16| .i32,.i32| .i64,.i64| .u8,.u8| .u16,.u16| .u32,.u32| .u64,.u64=>true
 |_,_=>false
def wl9 (t:TypeId) (lit:Bool):AV T.U->AV T.U->Option Bool
 | .raw n,a=>match P.underlying t with
  |some (.pointer _)=>match n with
   | .pointer none=>(match a with| .raw (.pointer none)=>some true| .ptr _ _=>some false| .eptr _ _ _ _=>some false| .lptr _ _ _ _=>some false| .aptr _ _ _ _ _ _=>some false|_=>none)
   |_=>none
  |some (.func _ _ _)=>match n with
   | .nilFunc=>(match a with| .raw .nilFunc=>some true| .fn _ _ _=>some false|_=>none)
   |_=>none
  |some (.interface b)=>match n with
   | .nilIface=>(match a with| .ifc _ _=>some false| .raw .nilIface=>(match lit||b.isEmpty with|true=>some true|false=>none)|_=>none)
   |_=>none
  |some (.map _ _)=>match n with
   | .map none=>(match a with| .raw (.map none)=>some true| .mp _=>some false|_=>none)
   |_=>none
  |some (.slice _)=>match n with
   | .slice none _ _=>(match a with| .raw (.slice none _ _)=>some true| .asl _ _ _ _ _ _=>some false|_=>none)
   |_=>none
  |_=>none
 |_,_=>none
def zh1 (neg r:Bool):Bool:=match neg with|true=> !r|false=>r
def eqA (t:TypeId) (lit:Bool) (a b:AV T.U) (neg:Bool):Option (AV T.U):=
 match wl9 T P t lit a b with
 |some r=>some (cB T (zh1 neg r))
 |none=>match wl9 T P t lit b a with
 |some r=>some (cB T (zh1 neg r))
 |none=>match wj4 T a,wj4 T b with
 |some (.bool x),some (.bool y)=>match eqB P 10000 t (.bool x) (.bool y) with|some r=>some (cB T (match neg with|true=> !r|false=>r))|none=>none
 |some (.agg x),some (.agg y)=>let x:=Value.agg x;let y:=Value.agg y;match P.eqGuardType P.depth t with
  |false=>match eqB P 10000 t x y with|some r=>some (cB T (match neg with|true=> !r|false=>r))|none=>none
  |true=>none
 |_,_=>none
def jo7:Operand->Bool| .const _=>true|_=>false
def gv7 (b:BinOp) (t:TypeId) (lit:Bool) (x y:AV T.U):Option (AV T.U):=
 match b,x,y with
 |b,.cell ⟨.int k,x⟩,.cell ⟨.int a,y⟩=>match zf9 k a with|true=>wj0 T b k x y|false=>none
 | .eql,.cell ⟨.str,x⟩,.cell ⟨.str,y⟩=>some (cB T (ByteArray.toList x==ByteArray.toList y))
 | .neq,.cell ⟨.str,x⟩,.cell ⟨.str,y⟩=>some (cB T (!(ByteArray.toList x==ByteArray.toList y)))
 | .eql,x,y=>eqA T P t lit x y false
 | .neq,x,y=>eqA T P t lit x y true
 |_,_,_=>none
def unI (u:UnOp) (k:IntKind) (x:Int):Option (AV T.U):=match u with| .neg=>some (cI T k (k.wrap (0-x)))| .xor=>some (cI T k (qw0 k (if k.signed then-1 else k.max) x))|_=>none
def unA (u:UnOp):AV T.U->Option (AV T.U)
 | .cell ⟨.int k,x⟩=>unI T u k x
 | .cell ⟨.bool,b⟩=>match u with| .not=>some (cB T (!b))|_=>none
 |_=>none
def qo8 (t:TypeId) (j:Nat):Option (TypeId×Nat×Nat×Bool):=
 match P.underlying t with
 |some (.struct a)=>match a[j]? with
  |some f=>match P.info? f.type,P.underlying f.type with|some i,some d=>some (f.type,f.offset,i.size,ye3 d)|_,_=>none
  |none=>none
 |_=>none
def jy7 (cs:List (AV T.U)) (o n:Nat) (agg:Bool):Option (AV T.U):=
 match agg with
 |true=>match Nat.ble (o+n) cs.length with|true=>some (.agg ((cs.drop o).take n))|false=>none
 |false=>cs[o]?
def qo7 (t:TypeId) (j:Nat):AV T.U->Option (AV T.U)
 | .agg cs=>match qo8 P t j with|some (_,o,n,a)=>jy7 T cs o n a|none=>none
 |_=>none
def zf8:AV T.U->List (AV T.U)
 | .agg cs=>cs
 |a=> [a]
def yl7 (cs:List (AV T.U)) (o:Nat):List (AV T.U)->List (AV T.U)
 | []=>cs
 |a::r=>yl7 (cs.set o a) (o+1) r
def wk6:AV T.U->Option Int
 | .cell ⟨.int _,x⟩=>some x
 |_=>none
def zan8 (c:Bool) (x y:Int):Int:=if c=true then x else y
def zan7 (c:Bool) (x y:Bool):Bool:=if c=true then x else y
def gr4 (c:Bool):AV T.U->AV T.U->Option (AV T.U)
 | .cell ⟨.int k,x⟩,.cell ⟨.int a,y⟩=>match zf9 k a with|true=>some (cI T k (zan8 c x y))|false=>none
 | .cell ⟨.bool,x⟩,.cell ⟨.bool,y⟩=>some (cB T (zan7 c x y))
 |_,_=>none
def gk5 (f:Field):Option (Nat×Nat):=match P.info? f.type with|some i=>some (f.offset,i.size)|none=>none
def wa3 {α a:Type} (f:α->Option a):List α->Option (List a)
 | []=>some []
 |x::r=>match f x,wa3 f r with|some y,some l=>some (y::l)|_,_=>none
def zi0 (t:TypeId):Option (List (Nat×Nat)):=
 match P.underlying t with
 |some (.struct a)=>wa3 (gk5 P) a.toList
 |_=>none
def gk4 (t:TypeId):Option (Nat->Option (Nat×Nat)):=
 match P.underlying t with
 |some (.struct _)=>match zi0 P t with|some a=>some (fun i=>a[i]?)|none=>none
 |some (.array _ e)=>match P.info? e with|some i=>some (fun k=>some (k*i.size,i.size))|none=>none
 |_=>none
def zx8:AV T.U->Bool
 | .agg _=>false| .tup _=>false| .eptr _ _ _ _=>false| .lptr _ _ _ _=>false| .raw (.agg _)=>false| .raw (.tuple _)=>false| .arr _ _ _=>false
 |_=>true
def yc6:AV T.U->Bool
 | .agg _=>true
 |a=>zx8 T a
def ja0 (b:Nat->Option (Nat×Nat)) (cs:List (AV T.U)):List (Nat×AV T.U)->Option (List (AV T.U))
 | []=>some cs
 |(i,a)::r=>match b i with
  |some (o,n)=>match yc6 T a&&(Nat.beq (zf8 T a).length n&&Nat.ble (o+(zf8 T a).length) cs.length) with
   |true=>ja0 b (yl7 T cs o (zf8 T a)) r
   |false=>none
  |none=>none
def qt4 (e:TypeId):Option (List (AV T.U)):=match qt5 P e with|some c=>some (c.toList.map (yw9 T))|none=>none
def zy5 (F:AF T):List (Nat×Operand)->Option (List (Nat×AV T.U))
 | []=>some []
 |(i,x)::r=>match aev T F x,zy5 F r with|some a,some l=>some ((i,a)::l)|_,_=>none
def minA:List (AV T.U)->Option (AV T.U)
 | [.cell ⟨.int k,x⟩]=>some (cI T k x)
 | [.cell ⟨.int k,x⟩,.cell ⟨.int a,y⟩]=>match zf9 k a with|true=>some (cI T k (yi5 x y))|false=>none
 |_=>none
def maxA:List (AV T.U)->Option (AV T.U)
 | [.cell ⟨.int k,x⟩]=>some (cI T k x)
 | [.cell ⟨.int k,x⟩,.cell ⟨.int a,y⟩]=>match zf9 k a with|true=>some (cI T k (zq9 x y))|false=>none
 |_=>none
def gi2 (t:TypeId):Option IntKind:=match P.underlying t with|some (.int k)=>some k|_=>none
def vh7 (a:AV T.U) (f:Nat):Option (AV T.U):=
 match a with
 | .ptr i o=>some (.ptr i (o+f))
 | .eptr i sz k c=>some (.eptr i sz k (c+f))
 | .lptr e xs k c=>some (.lptr e xs k (c+f))
 | .aptr i o sz n k c=>some (.aptr i o sz n k (c+f))
 |_=>none
def jq9 (o:Op) (F:AF T):Option (AV T.U):=
 match o with
 | .move x=>aev T F x
 | .assign x=>aev T F x
 | .binOp b t x y _=>match aev T F x,aev T F y with|some a,some c=>gv7 T P b t (jo7 x||jo7 y) a c|_,_=>none
 | .unOp u _ x=>match aev T F x with|some a=>unA T u a|none=>none
 | .convert s d x=>match aev T F x,gi2 P d,P.underlying s with|some (.cell ⟨.int _,x⟩),some k,some _=>some (cI T k (k.wrap x))|_,_,_=>none
 | .extract x i=>match aev T F x with|some (.tup vs)=>vs[i]?|_=>none
 | .field t x j=>match aev T F x with|some a=>qo7 T P t j a|none=>none
 | .makeInterface t x=>match aev T F x,P.underlying t with
  |some a,some d=>(match d with| .interface _=>none|_=>some (.ifc t a))
  |_,_=>none
 | .makeFunc f a b=>match zx4 T F a.toList,zx4 T F b.toList with|some x,some y=>some (.fn f x y)|_,_=>none
 | .build t ps=>match gk4 P t,qt4 T P t,zy5 T F ps.toList with
  |some e,some z,some l=>(match ja0 T e z l with|some cs=>some (.agg cs)|none=>none)
  |_,_,_=>none
 | .fieldAddr t x j=>match aev T F x,qo8 P t j with
  |some a,some (_,f,n,_)=>(match Nat.beq n 0 with|true=>none|false=>vh7 T a f)
  |_,_=>none
 |_=>none
def divA {R:Type} (b:BinOp) (x y:AV T.U) (K:AV T.U->Option R):Option R:=
 match b,x,y with
 | .quo,.cell ⟨.int k,x⟩,.cell ⟨.int a,y⟩=>match zf9 k a with|true=>divI k x y K|false=>none
 | .rem,.cell ⟨.int k,x⟩,.cell ⟨.int a,y⟩=>match zf9 k a with|true=>remI k x y K|false=>none
 | .shl,.cell ⟨.int k,x⟩,.cell ⟨.int _,y⟩=>shlI k x y K
 | .shr,.cell ⟨.int k,x⟩,.cell ⟨.int _,y⟩=>shrI k x y K
 |_,_,_=>none
where
 divI {R:Type} (k:IntKind) (x y:Int) (K:AV T.U->Option R):Option R:=if y=0 then none else K (cI T k (k.wrap (x.tdiv y)))
 remI {R:Type} (k:IntKind) (x y:Int) (K:AV T.U->Option R):Option R:=if y=0 then none else K (cI T k (x.tmod y))
 shlI {R:Type} (k:IntKind) (x y:Int) (K:AV T.U->Option R):Option R:=if y<0 then none else K (cI T k (qi7 k x y))
 shrI {R:Type} (k:IntKind) (x y:Int) (K:AV T.U->Option R):Option R:=if y<0 then none else K (cI T k (ze0 k x y))
def jk1 {R:Type} (s:ByteArray) (j:Int) (K:Int->Option R):Option R:=match (if 0<=j then s[j.toNat]? else none) with|some b=>K (b.toNat:Int)|none=>none
def lenA (H:List (Ent T.U)):AV T.U->Option Nat
 | .cell ⟨.list _,xs⟩=>some (List.length (α:=den T.U _) xs)
 | .own i=>match H[i]? with|some (.row _ _ xs)=>some xs.length|some (.drow _ _ _ xs _)=>some xs.length|_=>none
 | .sl _ _ _ n=>some n
 | .asl _ _ _ _ _ m=>some m
 | .raw (.slice none 0 0)=>some 0
 |_=>none
section
variable {R:Type}
def zu0 (t:TypeId) (cs:List (AV T.U)) (o:Nat):Option (AV T.U):=
 match P.info? t,P.underlying t with
 |some i,some d=>jy7 T cs o i.size (ye3 d)
 |_,_=>none
def jd3:List (AV T.U)->Nat->Option (List (AV T.U))
 | [],_=>none
 |a::r,o=>match Nat.beq o 0 with
  |true=>some (a::r)
  |false=>match Nat.ble (wd T a) o with|true=>jd3 r (o-wd T a)|false=>none
def jb9 (f:List (AV T.U)->Option (List (AV T.U))):List (AV T.U)->Nat->Option (List (AV T.U))
 | [],o=>match Nat.beq o 0 with|true=>f []|false=>none
 |a::r,o=>match Nat.beq o 0 with
  |true=>f (a::r)
  |false=>match Nat.ble (wd T a) o with
   |true=>(match jb9 f r (o-wd T a) with|some l=>some (a::l)|none=>none)
   |false=>none
def jg9 {U:Nat->Type}:AV U->Option ((t:Ty)×Nat×List (den U t))| .arr t n xs=>some ⟨t,n,xs⟩|_=>none
def gg6 (cs:List (AV T.U)) (o n:Nat) (agg:Bool):Option (AV T.U):=
 match jd3 T cs o with
 |some (a::r)=>match agg with
  |false=>match zb7 T a with|true=>some a|false=>none
  |true=>match jg9 a with
   |some ⟨t,m,xs⟩=>match Nat.beq (m*szT T t) n with|true=>some (.arr t m xs)|false=>none
   |none=>match Nat.ble n (r.length+1)&&((a::r).take n).all (zb7 T) with|true=>some (.agg ((a::r).take n))|false=>none
 |_=>none
def jj3 (t:TypeId) (cs:List (AV T.U)) (o:Nat):Option (AV T.U):=
 match P.info? t,P.underlying t with
 |some i,some d=>gg6 T cs o i.size (ye3 d)
 |_,_=>none
def zh5 (t:TypeId):Option (Nat×Nat):=
 match P.underlying t with
 |some (.array n e)=>match P.info? e with|some i=>some (n,i.size)|none=>none
 |_=>none
def putOnes:List (AV T.U)->List (AV T.U)->Option (List (AV T.U))
 |cs,[]=>some cs
 | [],_::_=>none
 |a::r,b::l=>match zb7 T a&&zb7 T b with|true=>(match putOnes r l with|some s=>some (b::s)|none=>none)|false=>none
def qq8 (t:Ty) (n:Nat) (xs:List (den T.U t)):List (AV T.U)->Option (List (AV T.U))
 |a::r=>match jg9 a with
  |some ⟨b,c,_⟩=>match Nat.beq c n&&Nat.beq (szT T b) (szT T t) with|true=>some (.arr t n xs::r)|false=>none
  |none=>none
 | []=>none
def zw1 (t:Ty) (x:den T.U t):List (AV T.U):=(zc6 T t x).map .cell
def loadA (t:TypeId) (H:List (Ent T.U)):AV T.U->Option (AV T.U)
 | .ptr i o=>match H[i]? with|some (.blk _ cs)=>(match jj3 T P t cs o with|some (.eptr _ _ _ _)=>none|r=>r)|_=>none
 | .aptr i o sz n k c=>match H[i]? with
  |some (.blk _ cs)=>match jd3 T cs o with
   |some (a::_)=>match jg9 a with
    |some ⟨ty,b,xs⟩=>match Nat.beq b n&&Nat.beq (szT T ty) sz with|true=>zu0 T P t (zw1 T ty (xs.getD k (ya7 T ty))) c|false=>none
    |none=>none
   |_=>none
  |_=>none
 | .eptr i _ k c=>match H[i]? with|some (.row _ ty xs)=>zu0 T P t (zw1 T ty (xs.getD k (ya7 T ty))) c|_=>none
 | .lptr e xs k c=>zu0 T P t (zw1 T e (xs.getD k (ya7 T e))) c
 |_=>none
def qo1:AV T.U->Option (Cell T.U)
 | .cell c=>some c
 |_=>none
def cellsOf:List (AV T.U)->Option (List (Cell T.U))
 | []=>some []
 |a::r=>match qo1 T a,cellsOf r with|some c,some l=>some (c::l)|_,_=>none
def gk6 (cs:List (Cell T.U)) (o:Nat):List (Cell T.U)->List (Cell T.U)
 | []=>cs
 |a::r=>gk6 (cs.set o a) (o+1) r
def jz7 (t:TypeId) (o n:Nat) (a:AV T.U):Bool:=
 match P.info? t with
 |some i=>yc6 T a&&(Nat.beq (zf8 T a).length i.size&&(Nat.ble (o+i.size) n&&(zf8 T a).all (zx8 T)))
 |none=>false
def ql9 (n sz k c:Nat) (l:List (Cell T.U)):List (AV T.U)->Option (List (AV T.U))
 |a::r=>match jg9 a with
  |some ⟨ty,b,xs⟩=>match Nat.beq b n&&(Nat.beq (szT T ty) sz&&Nat.ble (c+l.length) sz) with
   |true=>match yu1 T ty (gk6 T (zc6 T ty (xs.getD k (ya7 T ty))) c l) with|some y=>some (.arr ty b (xs.set k y)::r)|none=>none
   |false=>none
  |none=>none
 | []=>none
def js2 (ty:Ty):Nat->List (AV T.U)->Option (List (den T.U ty))
 |0,[]=>some []
 |0,_=>none
 |n+1,cs=>match cellsOf T (cs.take (szT T ty)) with
  |some l=>match yu1 T ty l,js2 ty n (cs.drop (szT T ty)) with|some x,some r=>some (x::r)|_,_=>none
  |none=>none
def vo6 (b:List (AV T.U)):List (AV T.U)->Option (List (AV T.U))
 |a::r=>match jg9 a with
  |some ⟨t,n,_⟩=>match js2 T t n b with|some xs=>qq8 T t n xs (a::r)|none=>none
  |none=>none
 | []=>none
def wb5 (a l:List (AV T.U)):Option (List (AV T.U)):=match putOnes T l a with|some r=>some r|none=>vo6 T a l
def storeB (t:TypeId) (cs:List (AV T.U)) (o:Nat) (a:AV T.U):Option (List (AV T.U)):=
 match jg9 a with
 |some ⟨ty,n,xs⟩=>match P.info? t with
  |some i=>match Nat.beq (n*szT T ty) i.size with|true=>jb9 T (qq8 T ty n xs) cs o|false=>none
  |none=>none
 |none=>match jz7 T P t 0 (zf8 T a).length a with|true=>jb9 T (wb5 T (zf8 T a)) cs o|false=>none
def jm5 (t:TypeId) (H:List (Ent T.U)) (p a:AV T.U):Option (List (Ent T.U)):=
 match p with
 | .ptr i o=>match H[i]? with
  |some (.blk e cs)=>match storeB T P t cs o a with|some b=>some (H.set i (.blk e b))|none=>none
  |_=>none
 | .aptr i o sz n k c=>match H[i]? with
  |some (.blk e cs)=>match jz7 T P t 0 (zf8 T a).length a,cellsOf T (zf8 T a) with
   |true,some l=>(match jb9 T (ql9 T n sz k c l) cs o with|some b=>some (H.set i (.blk e b))|none=>none)
   |_,_=>none
  |_=>none
 | .eptr i _ k c=>match H[i]? with
  |some (.row e ty xs)=>match jz7 T P t c (szT T ty) a,cellsOf T (zf8 T a) with
   |true,some l=>match yu1 T ty (gk6 T (zc6 T ty (xs.getD k (ya7 T ty))) c l) with|some y=>some (H.set i (.row e ty (xs.set k y)))|none=>none
   |_,_=>none
  |_=>none
 |_=>none
structure Elems where
 ty:TypeId->Option Ty
def yx9 (t:TypeId) (e:Ty):Bool:=match zm3 P t with|some s=>Nat.beq s (szT T e)|none=>false
def zak9 (H:List (Ent T.U)) (i o:Nat):Bool:=match H[i]? with|some (.blk _ cs)=>(match jd3 T cs o with|some (a::_)=>(jg9 a).isSome|_=>false)|_=>true
def zy0 (t:TypeId) (H:List (Ent T.U)) (s:AV T.U) (j:Int) (K:AV T.U->Option R):Option R:=
 match s with
 | .cell ⟨.list e,xs⟩=>match yx9 T P t e with
  |true=>if 0<=j/\j<((List.length (α:=den T.U e) xs:Nat):Int) then K (.lptr e xs j.toNat 0) else none
  |false=>none
 | .own i=>match H[i]? with
  |some (.row _ ty xs)=>match yx9 T P t ty with
   |true=>if 0<=j/\j<((xs.length:Nat):Int) then K (.eptr i (szT T ty) j.toNat 0) else none
   |false=>none
  |_=>none
 | .sl i sz o n=>match H[i]? with
  |some (.row _ ty xs)=>match yx9 T P t ty,Nat.beq sz (szT T ty) with
   |true,true=>if 0<=j/\j<((n:Nat):Int) then (if o+j.toNat<xs.length then K (.eptr i sz (o+j.toNat) 0) else none) else none
   |_,_=>none
  |some (.blk _ _)=>match zm3 P t with
   |some s=>match Nat.beq s sz with
    |true=>if 0<=j/\j<((n:Nat):Int) then K (.ptr i ((o+j.toNat)*sz)) else none
    |false=>none
   |none=>none
  |_=>none
 | .asl i o sz n lo m=>match zm3 P t with
  |some s=>match Nat.beq s sz with
   |true=>if 0<=j/\j<((m:Nat):Int) then (match zak9 T H i o with|true=>K (.aptr i o sz n (lo+j.toNat) 0)|false=>K (.ptr i (o+(lo+j.toNat)*sz))) else none
   |false=>none
  |none=>none
 |_=>none
def yg4 (n sz:Nat) (H:List (Ent T.U)) (s:AV T.U) (j:Int) (K:AV T.U->Option R):Option R:=
 match s with
 | .ptr i o=>match H[i]? with
  |some (.blk _ cs)=>match jd3 T cs o with
   |some (a::_)=>match jg9 a with
    |some ⟨ty,m,_⟩=>match Nat.beq m n&&Nat.beq (szT T ty) sz with
     |true=>if 0<=j/\j<((n:Nat):Int) then K (.aptr i o sz n j.toNat 0) else none
     |false=>none
    |none=>if 0<=j/\j<((n:Nat):Int) then K (.ptr i (o+j.toNat*sz)) else none
   |_=>none
  |_=>none
 | .lptr e xs k c=>match Nat.beq (szT T e) sz&&Nat.beq c 0 with
  |true=>if 0<=j/\j<((n:Nat):Int) then (if k+j.toNat<List.length (α:=den T.U e) xs then K (.lptr e xs (k+j.toNat) 0) else none) else none
  |false=>none
 | .eptr i s k c=>match H[i]? with
  |some (.row _ ty xs)=>match Nat.beq (szT T ty) sz&&(Nat.beq s sz&&Nat.beq c 0) with
   |true=>if 0<=j/\j<((n:Nat):Int) then (if k+j.toNat<xs.length then K (.eptr i sz (k+j.toNat) 0) else none) else none
   |false=>none
  |_=>none
 |_=>none
def yu0 (n sz:Nat) (H:List (Ent T.U)) (s:AV T.U) (b d:Option Int) (K:AV T.U->Option R):Option R:=
 let l:=b.getD 0
 let h:=d.getD ((n:Nat):Int)
 match s with
 | .ptr i o=>match H[i]? with
  |some (.blk _ cs)=>match jd3 T cs o with
   |some (a::_)=>match jg9 a with
    |some ⟨ty,m,_⟩=>match Nat.beq m n&&Nat.beq (szT T ty) sz with
     |true=>if 0<=l/\l<=h/\h<=((n:Nat):Int) then K (.asl i o sz n l.toNat (h.toNat-l.toNat)) else none
     |false=>none
    |none=>none
   |_=>none
  |_=>none
 | .lptr e xs k c=>match Nat.beq (szT T e) sz&&(Nat.beq c 0&&Nat.beq k 0) with
  |true=>if n<=List.length (α:=den T.U e) xs then (if 0<=l/\l<=h/\h<=((n:Nat):Int) then K (.cell ⟨.list e,(List.take (h.toNat-l.toNat) (List.drop l.toNat (xs:List (den T.U e))))⟩) else none) else none
  |false=>none
 |_=>none
def yr1 (n sz:Nat) (H:List (Ent T.U)) (s:AV T.U) (K:AV T.U->Option R):Option R:=
 match s with
 | .cell ⟨.list e,xs⟩=>match Nat.beq (szT T e) sz&&Nat.ble 1 n with
  |true=>if n<=List.length (α:=den T.U e) xs then K (.lptr e xs 0 0) else none
  |false=>none
 | .own i=>match H[i]? with
  |some (.row _ ty xs)=>match Nat.beq (szT T ty) sz&&Nat.ble 1 n with
   |true=>if n<=xs.length then K (.eptr i sz 0 0) else none
   |false=>none
  |_=>none
 |_=>none
def yp7 (n sz:Nat) (a:Bool) (H:List (Ent T.U)) (s:AV T.U) (K:AV T.U->Option R) (D:Option R):Option R:=
 match s with
 | .lptr e xs k c=>match a&&(Nat.beq (szT T e) sz&&Nat.beq c 0) with
  |true=>if k+n<=List.length (α:=den T.U e) xs then K (.arr e n (List.take n (List.drop k (xs:List (den T.U e))))) else none
  |false=>D
 | .eptr i s k c=>match H[i]? with
  |some (.row _ ty xs)=>match a&&(Nat.beq (szT T ty) sz&&(Nat.beq s sz&&Nat.beq c 0)) with
   |true=>if k+n<=xs.length then K (.arr ty n (List.take n (List.drop k xs))) else none
   |false=>D
  |_=>D
 |_=>D
def eIs (t:TypeId) (e:Ty):Bool:=match zt9 P t with|some (_,sz,_,_)=>Nat.beq sz (szT T e)|none=>false
def yh2 (t:TypeId) (H:List (Ent T.U)) (s:AV T.U) (a b:Option Int) (K:AV T.U->Option R):Option R:=
 match s with
 | .cell ⟨.list e,xs⟩=>
  let n:=List.length (α:=den T.U e) xs
  let l:=a.getD 0
  let h:=b.getD ((n:Nat):Int)
  match eIs T P t e with
  |true=>if 0<=l/\l<=h/\h<=((n:Nat):Int) then K (.cell ⟨.list e,(List.take (h.toNat-l.toNat) (List.drop l.toNat (xs:List (den T.U e))))⟩) else none
  |false=>none
 | .own i=>match H[i]? with
  |some (.row _ ty xs)=>
   let l:=a.getD 0
   let h:=b.getD ((xs.length:Nat):Int)
   match eIs T P t ty with
   |true=>if 0<=l/\l<=h/\h<=((xs.length:Nat):Int) then K (.sl i (szT T ty) l.toNat (h.toNat-l.toNat)) else none
   |false=>none
  |_=>none
 | .sl i sz o n=>match H[i]? with
  |some (.row _ ty xs)=>
   let l:=a.getD 0
   let h:=b.getD ((n:Nat):Int)
   match eIs T P t ty,Nat.beq sz (szT T ty) with
   |true,true=>if 0<=l/\l<=h/\(h<=((n:Nat):Int)\/(((o:Nat):Int)+h<=((xs.length:Nat):Int)/\(o=0\/0<n))) then K (.sl i sz (o+l.toNat) (h.toNat-l.toNat)) else none
   |_,_=>none
  |_=>none
 | .asl i o sz n c m=>
  let l:=a.getD 0
  let h:=b.getD ((m:Nat):Int)
  match zt9 P t with
  |some (_,s,_,_)=>match Nat.beq s sz with
   |true=>if 0<=l/\l<=h/\((c:Nat):Int)+h<=((n:Nat):Int) then K (.asl i o sz n (c+l.toNat) (h.toNat-l.toNat)) else none
   |false=>none
  |none=>none
 |_=>none
def vm2 (ty:Ty) (t:TypeId) (a:Nat) (ps:List (Nat×AV T.U)):Option (TypeId×List (den T.U ty)):=
 match zt9 P t with
 |some (e,sz,_,b)=>match Nat.beq sz (szT T ty)&&(Nat.ble 1 sz&&Nat.ble (a*sz) 16777216) with
  |true=>match ja0 T (fun j=>some (j*sz,sz)) ((List.range (a*sz)).map fun j=>yw9 T (b[j%sz]!)) ps with
   |some cs=>match js2 T ty a cs with|some xs=>some (e,xs)|none=>none
   |none=>none
  |false=>none
 |none=>none
def qn9 (t:TypeId) (a:Nat) (ps:List (Nat×AV T.U)):Option (TypeId×Nat×List (AV T.U)):=
 match zt9 P t with
 |some (e,sz,_,b)=>match Nat.ble 1 sz&&Nat.ble (a*sz) 16777216 with
  |true=>match ja0 T (fun j=>some (j*sz,sz)) ((List.range (a*sz)).map fun j=>yw9 T (b[j%sz]!)) ps with
   |some cs=>match cs.all (zb7 T) with|true=>some (e,sz,cs)|false=>none
   |none=>none
  |false=>none
 |none=>none
def yr4 (t:TypeId) (H:List (Ent T.U)) (s:AV T.U) (K:AV T.U->List (Ent T.U)->Option R):Option R:=
 match s with
 | .mp i=>match H[i]?,P.underlying t with
  |some (.tmap k ty _),some (.map _ _)=>K (.tup []) (H.set i (.tmap k ty []))
  |_,_=>none
 | .sl i sz o n=>match H[i]? with
  |some (.row e ty xs)=>match zt9 P t with
   |some (_,s,_,a)=>match Nat.beq s (szT T ty)&&Nat.beq sz (szT T ty),cellsOf T (a.toList.map (yw9 T)) with
    |true,some z=>match yu1 T ty z with
     |some b=>if o+n<=xs.length then K (.tup []) (H.set i (.row e ty (xs.take o++(List.replicate n b++xs.drop (o+n))))) else none
     |none=>none
    |_,_=>none
   |none=>none
  |_=>none
 |_=>none
def wj8 (x y:Int):Bool:=x==y
def eqBB (x y:Bool):Bool:=x==y
def vq7:AV T.U->AV T.U->Bool
 | .cell ⟨.int k,x⟩,.cell ⟨.int c,y⟩=>zf9 k c&&wj8 x y
 | .cell ⟨.bool,a⟩,.cell ⟨.bool,b⟩=>eqBB a b
 |_,_=>false
def qb8:List (AV T.U)->List (AV T.U)->Option (List (AV T.U))
 | [],r=>some r
 |_::_,[]=>none
 |a::z,b::r=>match vq7 T a b with|true=>qb8 z r|false=>none
def qb4 (z:List (AV T.U)):Nat->List (AV T.U)->Bool
 |0,r=>r.isEmpty
 |n+1,r=>match qb8 T z r with|some s=>qb4 z n s|none=>false
def qp2 {U:Nat->Type}:AV U->Bool| .raw (.slice none 0 0)=>true|_=>false
def vo3 (n:Nat) (aS:List (AV T.U)):(t:Ty)->Option (List (den T.U t))
 | .nl e=>match aS.all qp2&&Nat.beq aS.length n with|true=>some (List.replicate n ([]:List (den T.U e)))|false=>none
 |_=>none
def gq1 (t:Ty) (n:Nat) (aS:List (AV T.U)):Option (List (den T.U t)):=
 match vo3 T n aS t with
 |some xs=>some xs
 |none=>match cellsOf T (aS.take (szT T t)) with
  |some l=>match yu1 T t l with
   |some x=>match qb4 T (aS.take (szT T t)) n aS with|true=>some (List.replicate n x)|false=>js2 T t n aS
   |none=>none
  |none=>none
abbrev Lay:=List (Option (Ty×Nat))
def yy1:Lay->List (AV T.U)->Option (List (AV T.U))
 | [],aS=>match aS with| []=>some []|_::_=>none
 |none::r,aS=>match aS with
  |a::s=>match zb7 T a with|true=>(match yy1 r s with|some l=>some (a::l)|none=>none)|false=>none
  | []=>none
 |some (t,n)::r,aS=>match gq1 T t n (aS.take (n*szT T t)),yy1 r (aS.drop (n*szT T t)) with|some xs,some l=>some (.arr t n xs::l)|_,_=>none
def gz4 (ls:Option Lay) (aS:List (AV T.U)):Option (List (AV T.U)):=
 match ls with
 |none=>match aS.all (zb7 T) with|true=>some aS|false=>none
 |some l=>yy1 T l aS
def boxA (b:Option Lay) (a:AV T.U):Option (List (AV T.U)):=
 match jg9 a with
 |some _=>some [a]
 |none=>match yc6 T a with|true=>gz4 T b (zf8 T a)|false=>none
def appA (ty:Ty) (t:TypeId) (H:List (Ent T.U)) (s x:AV T.U) (K:AV T.U->List (Ent T.U)->Option R):Option R:=
 match zt9 P t with
 |some (e,sz,by_,_)=>match Nat.beq sz (szT T ty)&&(Nat.ble 1 sz&&(Nat.ble 1 by_&&eOk e H s)) with
  |true=>rowB ty H s fun xs=>rowX ty H x fun ys=>if (xs.length+ys.length)*by_<=140737488355328 then K (.own H.length) (goneA H s++ [.row e ty (xs++ys)]) else none
  |false=>none
 |none=>none
where
 rowIn (ty:Ty) (H:List (Ent T.U)):AV T.U->Option (List (den T.U ty))
  | .cell c=>match c.aS (.list ty) with|some xs=>some xs|none=>none
  | .own i=>match H[i]? with|some (.row _ ty' xs)=>(if h:ty'=ty then some (h▸xs) else none)|_=>none
  | .raw (.slice none 0 0)=>some []
  |_=>none
 rowX {R:Type} (ty:Ty) (H:List (Ent T.U)) (x:AV T.U) (K:List (den T.U ty)->Option R):Option R:=
  match rowIn ty H x with
  |some ys=>K ys
  |none=>match x with
   | .sl i sz o n=>match H[i]? with
    |some (.row _ ty' xs)=>match Nat.beq sz (szT T ty') with
     |true=>(if h:ty'=ty then (if o+n<=xs.length then K ((h▸xs:List (den T.U ty)).drop o |>.take n) else none) else none)
     |false=>none
    |_=>none
   |_=>none
 rowB {R:Type} (ty:Ty) (H:List (Ent T.U)) (s:AV T.U) (K:List (den T.U ty)->Option R):Option R:=
  match s with
  | .sl i sz o n=>match H[i]? with
   |some (.row _ ty' xs)=>match Nat.beq sz (szT T ty')&&Nat.beq o 0 with
    |true=>(if h:ty'=ty then (if n<=xs.length then K ((h▸xs:List (den T.U ty)).take n) else none) else none)
    |false=>none
   |_=>none
  |s=>match rowIn ty H s with|some xs=>K xs|none=>none
 eOk (e:TypeId) (H:List (Ent T.U)):AV T.U->Bool
  | .own i=>match H[i]? with|some (.row e' _ _)=>Nat.beq e' e|_=>false
  | .sl i _ _ _=>match H[i]? with|some (.row e' _ _)=>Nat.beq e' e|_=>false
  | .cell _=>false
  |_=>true
 goneA (H:List (Ent T.U)):AV T.U->List (Ent T.U)
  | .own i=>H.set i .gone
  | .sl i _ _ _=>H.set i .gone
  |_=>H
def qc9 (ty:Ty) (t:TypeId) (H:List (Ent T.U)) (l c:Int) (K:AV T.U->List (Ent T.U)->Option R):Option R:=
 match zt9 P t with
 |some (e,sz,a,b)=>match Nat.beq sz (szT T ty),cellsOf T (b.toList.map (yw9 T)) with
  |true,some z=>match yu1 T ty z with
   |some d=>if 0<=l/\l<=c/\a*c.toNat<=281474976710656/\c<=9223372036854775807 then K (.own H.length) (H++ [.row e ty (List.replicate l.toNat d)]) else none
   |none=>none
  |_,_=>none
 |none=>none
def vl9 (e:TypeId):Option (AV T.U):=match P.info? e with|some i=>(match i.zero with|some z=>some (ofV T z)|none=>none)|none=>none
def jc2 (a:AV T.U) (at_:TypeId) (b:Bool):Option (AV T.U):=
 match P.underlying at_,a with
 |some d,.ifc t x=>match d with
  | .interface _=>none
  |_=>match Nat.beq t at_ with
   |true=>match b with|true=>some (.tup [x,cB T true])|false=>some x
   |false=>match b,vl9 T P at_ with
    |true,some z=>some (.tup [z,cB T false])
    |_,_=>none
 |_,_=>none
def vz3 (ty:Ty):List (Int×den T.U ty)->Int->den T.U ty
 | [],_=>ya7 T ty
 |(y,a)::r,x=>if x=y then a else vz3 ty r x
def kp9 {α:Type}:List (Int×α)->Int->Bool
 | [],_=>false
 |(y,_)::r,x=>if x=y then true else kp9 r x
def yw1 {α:Type}:List (Int×α)->Int->α->List (Int×α)
 | [],x,a=> [(x,a)]
 |(y,b)::r,x,a=>if x=y then (x,a)::r else (y,b)::yw1 r x a
def yx2 {α:Type}:List (Int×α)->Int->List (Int×α)
 | [],_=> []
 |(y,b)::r,x=>if x=y then r else (y,b)::yx2 r x
def zTy:Ty->Value->Bool
 | .int k,.int a x=>zf9 k a&&eqZ x
 | .bool,.bool b=> !b
 | .list _,.slice none n c=>Nat.beq n 0&&Nat.beq c 0
 |_,_=>false
where
 eqZ (x:Int):Bool:=x==0
def gu3 (e:TypeId) (ty:Ty):Bool:=match P.info? e with|some i=>(match i.zero with|some z=>zTy ty z|none=>false)|none=>false
def vo1 (a:Bool) (ty:Ty) (es:List (Int×den T.U ty)) (x:Int):AV T.U:=
 match a with|true=>.tup [.cell ⟨ty,vz3 T ty es x⟩,cB T (kp9 es x)]|false=>.cell ⟨ty,vz3 T ty es x⟩
def wm2 (ty:Ty) (a:AV T.U):Option (den T.U ty):=match a with| .cell c=>c.aS ty|_=>none
def qg3 (t:TypeId):Option (IntKind×TypeId×TypeId):=
 match P.underlying t with
 |some (.map a b)=>match P.underlying a with|some (.int k)=>some (k,a,b)|_=>none
 |_=>none
def jj5 (b:Bool) (z:AV T.U) (x:Int) (K:AV T.U->Option R):List (Int×AV T.U)->Option R
 | []=>K (match b with|true=>.tup [z,cB T false]|false=>z)
 |(y,a)::r=>if x=y then K (match b with|true=>.tup [a,cB T true]|false=>a) else jj5 b z x K r
def jp1 (t:TypeId) (b:Bool) (H:List (Ent T.U)) (m:AV T.U) (c:IntKind) (x:Int) (K:AV T.U->Option R):Option R:=
 match m,qg3 P t with
 | .mp i,some (k,_,d)=>match H[i]? with
  |some (.map a es)=>match zf9 k a&&zf9 c a,vl9 T P d with|true,some z=>jj5 T b z x K es|_,_=>none
  |some (.tmap a ty es)=>match zf9 k a&&(zf9 c a&&gu3 P d ty) with|true=>K (vo1 T b ty es x)|false=>none
  |_=>none
 |_,_=>none
def gi1 (t:TypeId) (H:List (Ent T.U)) (m:AV T.U) (c:IntKind) (x:Int) (a:AV T.U):Option (List (Ent T.U)):=
 match m,qg3 P t with
 | .mp i,some (k,_,_)=>match H[i]? with
  |some (.map b es)=>match zf9 k b&&zf9 c b with|true=>some (H.set i (.map b (yw1 es x a)))|false=>none
  |some (.tmap b ty es)=>match zf9 k b&&zf9 c b,wm2 T ty a with|true,some y=>some (H.set i (.tmap b ty (yw1 es x y)))|_,_=>none
  |_=>none
 |_,_=>none
def gw3 (t:TypeId) (H:List (Ent T.U)) (m:AV T.U) (b:IntKind) (x:Int):Option (List (Ent T.U)):=
 match m,qg3 P t with
 | .mp i,some (k,_,_)=>match H[i]? with
  |some (.map a es)=>match zf9 k a&&zf9 b a with|true=>some (H.set i (.map a (yx2 es x)))|false=>none
  |some (.tmap a ty es)=>match zf9 k a&&zf9 b a with|true=>some (H.set i (.tmap a ty (yx2 es x)))|false=>none
  |_=>none
 |_,_=>none
end
end
end Go.X
namespace Go.X
open Go.RowKit Go.V
section
variable (T:Tab) (P:Program) {w:World} {S:List Nat} {φ:Nat->RA}
def FR (w:World) (S:List Nat) (φ:Nat->RA) (F:AF T) (b:PF):Prop:= ∀i a,F.get T i=some a-> ∃v,b.get i=some v/\VR T w S φ a v
def jb0 (v):VR T w S φ (yw9 T v) v:=by
 cases v<;>first|exact .int _ _|exact .bool _|exact .str _|rfl
def ye7: ∀(l),VRL T w S φ (l.map (yw9 T)) l
 | []=>trivial
 |v::r=>⟨jb0 T v,ye7 r⟩
def ql6 (v):VR T w S φ (ofV T v) v:=by
 have h:VR T w S φ (yw9 T v) v:=jb0 T v;cases v<;>first|exact h|exact ⟨_,rfl,ye7 T _⟩
variable {T}
def u0 {F:AF T} {F':PF} (hF:FR T w S φ F F') {x:Operand} {a:AV T.U} (h:aev T F x=some a): ∃v,ev F' x=some v/\VR T w S φ a v:=by
 cases x with
 |tmp t=>exact hF t a h
 |const v=>simp only [aev,X0] at h;subst h;exact ⟨v,rfl,ql6 T v⟩
 |global g=>cases h
 |func f=>simp only [aev,X0] at h;subst h;exact ⟨_,rfl,#[],#[],rfl,trivial,trivial⟩
def yf3 {F:AF T} {F':PF} (hF:FR T w S φ F F'): ∀ {l:List Operand} {aS:List (AV T.U)},zx4 T F l=some aS->VRL T w S φ aS (l.map (evD F'))
 | [],aS,h=>by simp only [zx4,X0] at h;subst h;trivial
 |x::r,aS,h=>by
  unfold zx4 at h;split at h
  ·rename_i a l ha hl;simp only [X0] at h;subst h;obtain ⟨v,h1,h2⟩:=u0 hF ha;exact ⟨by simpa [evD,h1] using h2,yf3 hF hl⟩
  ·cases h
def u9 {a x v} (h:ev a x=some v):evD a x=v:=by simp [evD,h]
def zb0 {k x v} (h:VR T w S φ (.cell ⟨.int k,x⟩) v):v=.int k x:=by
 have h:CR T w S (.int k) x v:=h;cases h;rfl
def zh2 {b v} (h:VR T w S φ (.cell ⟨.bool,b⟩) v):v=.bool b:=by
 have h:CR T w S .bool b v:=h;cases h;rfl
def zq4 {s v} (h:VR T w S φ (.cell ⟨.str,s⟩) v):v=.string s:=by
 have h:CR T w S .str s v:=h;cases h;rfl
def qe5 {a u v} (h:kk7 T a=some u) (b:VR T w S φ a v):v=u:=by
 unfold kk7 at h;split at h
 ·simp only [X0] at h;subst h;exact zb0 b
 ·simp only [X0] at h;subst h;exact zh2 b
 ·simp only [X0] at h;subst h;exact zq4 b
 ·simp only [X0] at h;subst h;exact b
 ·cases h
def qe6: ∀ {aS:List (AV T.U)} {us vs:List Value},vf3 T aS=some us->VRL T w S φ aS vs->vs=us
 | [],us,vs,h,hv=>by
  simp only [vf3,X0] at h;subst h;cases vs with|nil=>rfl|cons _ _=>exact hv.elim
 |a::r,us,vs,h,hv=>by
  unfold vf3 at h;split at h
  ·rename_i u l hu hl;simp only [X0] at h;subst h;cases vs with
   |nil=>exact hv.elim
   |cons v s=>rw [qe5 hu hv.1,qe6 hl hv.2]
  ·cases h
def yz2 {a u v} (h:wj4 T a=some u) (b:VR T w S φ a v):v=u:=by
 unfold wj4 at h;split at h
 ·split at h
  ·rename_i l c;simp only [X0] at h;subst h;obtain ⟨vs,rfl,d⟩:=b;have:=qe6 c d;cases vs;simp_all
  ·cases h
 ·exact qe5 h b
def zb6 {a b} (h:zf9 a b=true):a=b:=by cases a<;>cases b<;>first|rfl|cases h
def kr3 {b k x y a} (h:wj0 T b k x y=some a) (t): ∃v,(∀w0,(binOp b t (.int k x) (.int k y)).run P w0=.ok v w0)/\VR T w S φ a v:=by
 cases b<;>simp only [wj0,X0,reduceCtorEq] at h<;>subst h<;>first|(refine ⟨_,fun w0=>?_,CR.int _ _⟩;simp [binOp,Op.intArith,Op.intBits,zb4,bOr,qw0,vr9];done)|(refine ⟨_,fun w0=>?_,CR.bool _⟩;simp [binOp,Op.intCmp];done)
def go8:Value->Bool| .pointer _=>true| .slice _ _ _=>true| .map _=>true| .func _ _ _=>true| .nilFunc=>true| .iface _ _=>true| .nilIface=>true|_=>false
def jd1 {t X Y r b neg} (a:b=if neg then .neq else .eql) (c:go8 X=true) (d:go8 Y=true) (h: ∀w0,(Op.equalIn 10000 t X Y).run P w0=.ok r w0) (w0):(binOp b t X Y).run P w0=.ok (.bool (zh1 neg r)) w0:=by
 subst a;cases X<;>first|(cases c;done)|(cases Y<;>first|(cases d;done)|(cases neg<;>simp [binOp,Op.equal,Op.maxDepth,h,zh1]))
def jf3 {t X Y b} (a c) (d:go8 X=true) (e:go8 Y=true) (f:X≠.nilIface\/Y≠.nilIface) (w0):(eqGuard b t a c X Y).run P w0=.ok () w0:=by
 cases X<;>first|(cases d;done)|(cases Y<;>first|(cases e;done)|(simp at f;done)|(cases b<;>simp [eqGuard]))
def zn7 {t e} (b:P.underlying t=some (.pointer e)) (a w0):(Op.equalIn (9999+1) t (.pointer none) (.pointer a)).run P w0=.ok a.isNone w0/\(Op.equalIn (9999+1) t (.pointer a) (.pointer none)).run P w0=.ok a.isNone w0:=by
 cases a<;>constructor<;>(rw [Op.equalIn];simp [run_underlying b])
def jd0 {t e} (b:P.underlying t=some (.slice e)) (m c a m' c' w0):(Op.equalIn (9999+1) t (.slice none m c) (.slice a m' c')).run P w0=.ok a.isNone w0/\(Op.equalIn (9999+1) t (.slice a m' c') (.slice none m c)).run P w0=.ok a.isNone w0:=by
 cases a<;>constructor<;>(rw [Op.equalIn];simp [run_underlying b])
def yz9 {t e b} (c:P.underlying t=some (.map e b)) (a w0):(Op.equalIn (9999+1) t (.map none) (.map a)).run P w0=.ok a.isNone w0/\(Op.equalIn (9999+1) t (.map a) (.map none)).run P w0=.ok a.isNone w0:=by
 cases a<;>constructor<;>(rw [Op.equalIn];simp [run_underlying c])
def qy1 {lit t x y r} (h:wl9 T P t lit x y=some r) {X Y} (p:VR T w S φ x X) (d:VR T w S φ y Y) {b neg} (k:b=if neg then .neq else .eql) (f i) (z:lit=true->jo7 f=true\/jo7 i=true):
  ((∀w0,(eqGuard b t f i X Y).run P w0=.ok () w0)/\ ∀w0,(eqGuard b t f i Y X).run P w0=.ok () w0)/\(∀w0,(binOp b t X Y).run P w0=.ok (.bool (zh1 neg r)) w0)/\ ∀w0,(binOp b t Y X).run P w0=.ok (.bool (zh1 neg r)) w0:=by
 have c: ∀X Y:Value,go8 X=true->go8 Y=true->(X≠.nilIface\/Y≠.nilIface)->(∀w0,(Op.equalIn (9999+1) t X Y).run P w0=.ok r w0)->(∀w0,(Op.equalIn (9999+1) t Y X).run P w0=.ok r w0)->
   ((∀w0,(eqGuard b t f i X Y).run P w0=.ok () w0)/\ ∀w0,(eqGuard b t f i Y X).run P w0=.ok () w0)/\(∀w0,(binOp b t X Y).run P w0=.ok (.bool (zh1 neg r)) w0)/\ ∀w0,(binOp b t Y X).run P w0=.ok (.bool (zh1 neg r)) w0:=
  fun X Y e l q A B=>⟨⟨jf3 P f i e l q,jf3 P f i l e q.symm⟩,jd1 P k e l A,jd1 P k l e B⟩
 have j: ∀w0,lit=true->(eqGuard b t f i .nilIface .nilIface).run P w0=.ok () w0:=by
  intro w0 m;unfold eqGuard;rcases z m with e|e
  ·cases f<;>first|(cases e;done)|(cases b<;>simp)
  ·cases i<;>first|(cases e;done)|(cases b<;>simp)
 unfold wl9 at h;split at h
 ·rename_i n;rw [VR] at p;subst p;split at h
  ·rename_i a;split at h
   ·split at h<;>simp only [X0,reduceCtorEq] at h<;>subst h
    ·rw [VR] at d;subst d;exact c _ _ rfl rfl (.inl (by simp)) (fun w0=>(zn7 P a _ w0).1) (fun w0=>(zn7 P a _ w0).2)
    ·obtain ⟨g,_,rfl⟩:=d;exact c _ _ rfl rfl (.inl (by simp)) (fun w0=>(zn7 P a _ w0).1) (fun w0=>(zn7 P a _ w0).2)
    ·obtain ⟨g,_,rfl⟩:=d;exact c _ _ rfl rfl (.inl (by simp)) (fun w0=>(zn7 P a _ w0).1) (fun w0=>(zn7 P a _ w0).2)
    ·obtain ⟨ad,cap,_,_,rfl⟩:=d;exact c _ _ rfl rfl (.inl (by simp)) (fun w0=>(zn7 P a _ w0).1) (fun w0=>(zn7 P a _ w0).2)
    ·obtain ⟨g,_,_,rfl⟩:=d;exact c _ _ rfl rfl (.inl (by simp)) (fun w0=>(zn7 P a _ w0).1) (fun w0=>(zn7 P a _ w0).2)
   ·cases h
  ·rename_i a;split at h
   ·split at h<;>simp only [X0,reduceCtorEq] at h<;>subst h
    ·rw [VR] at d;subst d;exact c _ _ rfl rfl (.inl (by simp)) (fun w0=>by rw [Op.equalIn];simp [run_underlying a]) (fun w0=>by rw [Op.equalIn];simp [run_underlying a])
    ·obtain ⟨D,E,rfl,_⟩:=d;exact c _ _ rfl rfl (.inl (by simp)) (fun w0=>by rw [Op.equalIn];simp [run_underlying a]) (fun w0=>by rw [Op.equalIn];simp [run_underlying a])
   ·cases h
  ·rename_i F a;split at h
   ·split at h
    ·simp only [X0] at h;subst h;obtain ⟨u,rfl,_⟩:=d;exact c _ _ rfl rfl (.inr (by simp)) (fun w0=>by rw [Op.equalIn];simp [run_underlying a]) (fun w0=>by rw [Op.equalIn];simp [run_underlying a])
    ·split at h
     ·rename_i o;simp only [X0] at h;subst h;rw [VR] at d;subst d;have s: ∀w0,(eqGuard b t f i .nilIface .nilIface).run P w0=.ok () w0:=by
       intro w0;rcases (J2 _ _).mp o with e|e
       ·exact j w0 e
       ·have C:(Op.eqGuardIn Op.maxDepth t .nilIface .nilIface).run P w0=.ok false w0:=by
         rw [show Op.maxDepth=9999+1 from rfl,Op.eqGuardIn];simp [run_underlying a,e]
        unfold eqGuard;cases b<;>simp [C]<;>(split<;>rfl)
      have v: ∀w0,(Op.equalIn (9999+1) t .nilIface .nilIface).run P w0=.ok true w0:=fun w0=>by rw [Op.equalIn];simp [run_underlying a]
      exact ⟨⟨s,s⟩,jd1 P k rfl rfl v,jd1 P k rfl rfl v⟩
     ·cases h
    ·cases h
   ·cases h
  ·rename_i a;split at h
   ·split at h<;>simp only [X0,reduceCtorEq] at h<;>subst h
    ·rw [VR] at d;subst d;exact c _ _ rfl rfl (.inl (by simp)) (fun w0=>(yz9 P a _ w0).1) (fun w0=>(yz9 P a _ w0).2)
    ·obtain ⟨g,_,rfl⟩:=d;exact c _ _ rfl rfl (.inl (by simp)) (fun w0=>(yz9 P a _ w0).1) (fun w0=>(yz9 P a _ w0).2)
   ·cases h
  ·rename_i a;split at h
   ·split at h<;>simp only [X0,reduceCtorEq] at h<;>subst h
    ·rw [VR] at d;subst d;exact c _ _ rfl rfl (.inl (by simp)) (fun w0=>(jd0 P a _ _ _ _ _ w0).1) (fun w0=>(jd0 P a _ _ _ _ _ w0).2)
    ·obtain ⟨g,ad,_,rfl,_⟩:=d;exact c _ _ rfl rfl (.inl (by simp)) (fun w0=>(jd0 P a _ _ _ _ _ w0).1) (fun w0=>(jd0 P a _ _ _ _ _ w0).2)
   ·cases h
  ·cases h
 ·cases h
def vs7 {b neg} (e:b=if neg then .neq else .eql) {lit t x y a} (h:eqA T P t lit x y neg=some a) {X Y} (f:VR T w S φ x X) (g:VR T w S φ y Y) (i j) (z:lit=true->jo7 i=true\/jo7 j=true):
  (∀w0,(eqGuard b t i j X Y).run P w0=.ok () w0)/\ ∃v,(∀w0,(binOp b t X Y).run P w0=.ok v w0)/\VR T w S φ a v:=by
 unfold eqA at h;split at h
 ·rename_i r d;simp only [X0] at h;subst h;obtain ⟨⟨k,_⟩,l,_⟩:=qy1 P d f g e i j z;exact ⟨k,_,l,CR.bool _⟩
 split at h
 ·rename_i r d;simp only [X0] at h;subst h;obtain ⟨⟨_,k⟩,_,l⟩:=qy1 P d g f e i j z;exact ⟨k,_,l,CR.bool _⟩
 split at h
 ·rename_i p q m n;have o:=yz2 m f;have s:=yz2 n g;subst o;subst s;split at h
  ·rename_i r d;simp only [X0] at h;subst h;have c:=jn7 (P:=P) 10000 t _ _ r d;subst e;refine ⟨fun w0=>by cases neg<;>simp [eqGuard],_,fun w0=>?_,CR.bool _⟩;cases neg<;>simp [binOp,Op.equal,Op.maxDepth,c]
  ·cases h
 ·rename_i p q m n;have o:=yz2 m f;have s:=yz2 n g;subst o;subst s;simp only at h;split at h
  ·rename_i A;split at h
   ·rename_i r d;simp only [X0] at h;subst h;have c:=jn7 (P:=P) 10000 t _ _ r d;have u: ∀w0,(program).run P w0=.ok P w0:=fun _=>rfl;subst e;refine ⟨fun w0=>by cases neg<;>simp [eqGuard,u,A],_,fun w0=>?_,CR.bool _⟩;cases neg<;>simp [binOp,Op.equal,Op.maxDepth,c]
   ·cases h
  ·cases h
 ·cases h
def kr2 {b t lit x y a} (h:gv7 T P b t lit x y=some a) {X Y} (c:VR T w S φ x X) (d:VR T w S φ y Y) (g i) (j:lit=true->jo7 g=true\/jo7 i=true):
  (∀w0,(eqGuard b t g i X Y).run P w0=.ok () w0)/\ ∃v,(∀w0,(binOp b t X Y).run P w0=.ok v w0)/\VR T w S φ a v:=by
 unfold gv7 at h;split at h
 ·split at h
  ·rename_i k;have:=zb6 k;subst this;have e:=zb0 c;have f:=zb0 d;subst e;subst f;exact ⟨fun w0=>by simp [eqGuard],kr3 P h t⟩
  ·cases h
 ·simp only [X0] at h;subst h;have e:=zq4 c;have f:=zq4 d;subst e;subst f;exact ⟨fun w0=>by simp [eqGuard],_,fun w0=>by simp [binOp,Op.stringOp],CR.bool _⟩
 ·simp only [X0] at h;subst h;have e:=zq4 c;have f:=zq4 d;subst e;subst f;exact ⟨fun w0=>by simp [eqGuard],_,fun w0=>by simp [binOp,Op.stringOp],CR.bool _⟩
 ·exact vs7 P (neg:=false) rfl h c d g i j
 ·exact vs7 P (neg:=true) rfl h c d g i j
 ·cases h
def wi5 {u x a} (h:unA T u x=some a) {X} (c:VR T w S φ x X): ∃v,(∀w0,(Op.unary u X).run P w0=.ok v w0)/\VR T w S φ a v:=by
 unfold unA at h;split at h
 ·have b:=zb0 c;subst b;unfold unI at h;split at h
  ·simp only [X0] at h;subst h;exact ⟨_,fun w0=>by simp [Op.unary,Op.intArith],CR.int _ _⟩
  ·simp only [X0] at h;subst h;exact ⟨_,fun w0=>by simp [Op.unary,Op.intBits,qw0],CR.int _ _⟩
  ·cases h
 ·have b:=zh2 c;subst b;split at h
  ·simp only [X0] at h;subst h;exact ⟨_,fun w0=>by simp [Op.unary],CR.bool _⟩
  ·cases h
 ·cases h
def zx5 {α:Type} (vs:Array α) (o n:Nat):(vs.extract o (o+n)).toList=(vs.toList.drop o).take n:=by
 simp_all
def ks1 {cs:List (AV T.U)} {vs:Array Value} (h:VRL T w S φ cs vs.toList) {o n:Nat} {ag:Bool} {a:AV T.U} (hc:jy7 T cs o n ag=some a):
  ∃v,(if ag then some (Value.agg (vs.extract o (o+n))) else vs[o]?)=some v/\VR T w S φ a v/\(ag=true->o+n<=vs.size):=by
 unfold jy7 at hc;split at hc
 ·split at hc
  ·rename_i hle;simp only [X0] at hc;subst hc;refine ⟨_,rfl,⟨_,rfl,?_⟩,fun _=>?_⟩
   ·rw [zx5];exact (h.drop T o).take T n
   ·have h1:=Y1 hle;have h2:=h.len T;simp at h2;omega
  ·cases hc
 ·obtain ⟨v,h1,h2⟩:=h.get T hc
  grind
def jf7: ∀ {cs l:List (AV T.U)} {o:Nat},jd3 T cs o=some l->yb1 T cs-> ∃pre,cs=pre++l/\(zj2 T pre).length=o
 | [],_,_,h,_=>by cases h
 |a::r,l,o,h,hl=>by
  unfold jd3 at h;split at h
  ·rename_i ho;simp only [X0] at h;subst h;exact ⟨[],rfl,(X1 ho).symm⟩
  ·split at h
   ·rename_i hle;obtain ⟨pre,h1,h2⟩:=jf7 h hl.2;refine ⟨a::pre,by rw [h1];rfl,?_⟩;rw [zj2,X9,yg1 T hl.1,h2];simp_all
   ·cases h
def jt1 {f:List (AV T.U)->Option (List (AV T.U))}: ∀ {cs cs':List (AV T.U)} {o:Nat},jb9 T f cs o=some cs'->yb1 T cs-> ∃pre l l',cs=pre++l/\cs'=pre++l'/\f l=some l'/\(zj2 T pre).length=o
 | [],_,o,h,_=>by
  unfold jb9 at h;split at h
  ·rename_i ho;exact ⟨[],_,_,rfl,rfl,h,(X1 ho).symm⟩
  ·cases h
 |a::r,cs',o,h,hl=>by
  unfold jb9 at h;split at h
  ·rename_i ho;exact ⟨[],_,_,rfl,rfl,h,(X1 ho).symm⟩
  ·split at h
   ·rename_i hle;split at h
    ·rename_i l0 hl0;simp only [X0] at h;subst h;obtain ⟨pre,l,l',h1,h2,h3,h4⟩:=jt1 hl0 hl.2;refine ⟨a::pre,l,l',by rw [h1];rfl,by rw [h2];rfl,h3,?_⟩;rw [zj2,X9,yg1 T hl.1,h4];simp_all
    ·cases h
   ·cases h
def zu3 {U:Nat->Type} {a:AV U} {t:Ty} {n:Nat} {xs:List (den U t)} (h:jg9 a=some ⟨t,n,xs⟩):a=.arr t n xs:=by
 cases a<;>simp only [jg9,X0,reduceCtorEq,Sigma.mk.injEq] at h
 grind
def BR.at {cs:List (AV T.U)} {vs:List Value} (h:BR T w S φ cs vs) {pre l:List (AV T.U)} (he:cs=pre++l) {o:Nat} (ho:(zj2 T pre).length=o):BR T w S φ l (vs.drop o)/\o+(zj2 T l).length=vs.length:=by
 obtain ⟨h1,h2⟩:=h;have hl:=h1.len T;rw [he,yg2] at h1 hl;rw [he,jf6] at h2;have:=h1.drop T o;rw [List.drop_append_of_le_length (by omega),T4 (by omega),M2] at this;refine ⟨⟨this,h2.2⟩,?_⟩
 grind
def BR.swap {a b:AV T.U} (ha:zb7 T a=true) (hb:zb7 T b=true) (hi: ∀v,VR T w S φ a v->VR T w S φ b v): ∀ {cs:List (AV T.U)} {vs:List Value} {c:Nat},BR T w S φ cs vs->cs[c]?=some a->BR T w S φ (cs.set c b) vs
 | [],_,_,_,h=>by simp at h
 |x::r,vs,0,h,hc=>by
  simp only [Y4,X0] at hc;subst hc;obtain ⟨h1,h2⟩:=h;rw [zj2,zq6 T ha] at h1
  match vs,h1 with
  |v::vs,h1=>exact ⟨by rw [List.set_cons_zero,zj2,zq6 T hb];exact ⟨hi v h1.1,h1.2⟩,ye6 T hb,h2.2⟩
 |x::r,vs,c+1,h,hc=>by
  obtain ⟨h3,h4⟩:=BR.at h (pre:= [x]) (l:=r) rfl rfl;have h5:=BR.swap ha hb hi h3 (by simpa using hc);have h6:=h.1.take T (zj2 T [x]).length;have he:zj2 T (x::r)=zj2 T [x]++zj2 T r:=yg2 T [x] r;rw [he,Z7 (W6 _),Q4 (W6 _)] at h6;refine ⟨?_,h.2.1,h5.2⟩;rw [List.set_cons_succ];have he2:zj2 T (x::r.set c b)=zj2 T [x]++zj2 T (r.set c b):=yg2 T [x] _;rw [he2];have:=VRL.app T h6 h5.1;simp_all
def VRL.cells: ∀ {cs vs},VRL T w S φ (cs.map .cell) vs↔CellsR T w S cs vs:=by
 intro cs;induction cs with
 |nil=>
  intro vs;cases vs with
  |nil=>exact ⟨fun _=>⟨rfl,fun j c v h=>by simp at h⟩,fun _=>trivial⟩
  |cons v r=>exact ⟨fun h=>h.elim,fun h=>by cases h.1⟩
 |cons c r e=>
  intro vs;cases vs with
  |nil=>exact ⟨fun h=>h.elim,fun h=>by cases h.1⟩
  |cons v s=>
   constructor
   ·intro h;obtain ⟨f,g⟩:=e.1 h.2;refine ⟨by simp [f],fun j c' d a b=>?_⟩;cases j with
    |zero=>simp only [Y4,X0] at a b;subst a;subst b;exact h.1
    |succ j=>exact g j c' d (by simpa using a) (by simpa using b)
   ·intro h;refine ⟨h.2 0 c v rfl rfl,e.2 ⟨by have:=h.1;simpa using this,fun j c' d a b=>h.2 (j+1) c' d (by simpa using a) (by simpa using b)⟩⟩
def ks3 {cs:List (AV T.U)} {vs:Array Value} (h:BR T w S φ cs vs.toList) {o n:Nat} {ag:Bool} {a:AV T.U} (hc:gg6 T cs o n ag=some a):
  ∃v,(if ag then some (Value.agg (vs.extract o (o+n))) else vs[o]?)=some v/\VR T w S φ a v/\(ag=true->o+n<=vs.size):=by
 unfold gg6 at hc;split at hc
 ·rename_i b r hloc;obtain ⟨pre,h1,h2⟩:=jf7 hloc h.2;obtain ⟨h3,h4⟩:=BR.at h h1 h2;have h4:o+(zj2 T (b::r)).length=vs.size:=by rw [h4];simp
  split at hc
  ·split at hc
   ·rename_i hna;simp only [X0] at hc;subst hc;have h5:=h3.1;rw [zj2,zq6 T hna,List.singleton_append] at h5;obtain ⟨v,h6,h7⟩:=h5.get T (j:=0) rfl
    grind
   ·cases hc
  ·split at hc
   ·rename_i t m xs ha;have:=zu3 ha;subst this;split at hc
    ·rename_i hn;simp only [X0] at hc;subst hc;have hn:=X1 hn;have hlen:(jo0 T (.arr t m xs)).length=n:=by rw [yg1 T h3.2.1];exact hn
     rw [zj2,X9,hlen] at h4;refine ⟨_,rfl,⟨_,rfl,h3.2.1,?_⟩,fun _=>by omega⟩;rw [zx5];have h5:=h3.1.take T n;rw [zj2,Z7 (by omega),Q4 (by omega)] at h5;exact VRL.cells.1 h5
    ·cases hc
   ·split at hc
    ·rename_i hb;simp only [X3] at hb;obtain ⟨hle,hall⟩:=hb;simp only [X0] at hc;subst hc;have hle:=Y1 hle;have hsp:zj2 T (b::r)=(b::r).take n++zj2 T ((b::r).drop n):=by
      conv=>lhs;rw [<-List.take_append_drop n (b::r)]
      rw [yg2,ju3 T hall]
     have htl:((b::r).take n).length=n:=by rw [Y6,U3];omega
     rw [hsp,X9,htl] at h4;refine ⟨_,rfl,⟨_,rfl,?_⟩,fun _=>by omega⟩;rw [zx5];have h5:=h3.1.take T n
     grind
    ·cases hc
 ·cases hc
def ku1 {cs l:List (AV T.U)} {o:Nat} (h:jd3 T cs o=some l): ∀i∈za1 l,i∈za1 cs:=by
 induction cs generalizing o with
 |nil=>cases h
 |cons a r ih=>
  unfold jd3 at h;split at h
  ·grind
  ·split at h
   ·exact fun i hi=>by rw [za1];exact X4.2 (.inr (ih h i hi))
   ·cases h
def kb7 {l:List (AV T.U)} {n:Nat}: ∀i∈za1 (l.take n),i∈za1 l:=by
 intro i hi
 conv at hi=>skip
 rw [<-List.take_append_drop n l,yn1]
 grind
def ks2 {cs o n f a} (h:gg6 T cs o n f=some a): ∀i∈a.ids,i∈za1 cs:=by
 unfold gg6 at h;split at h
 ·rename_i b r d;have e:=ku1 d;split at h
  ·split at h
   ·simp only [X0] at h;subst h;exact fun i c=>e i (by rw [za1];exact X4.2 (.inl c))
   ·cases h
  ·split at h
   ·split at h
    ·simp only [X0] at h;subst h;intro i c;cases c
    ·cases h
   ·split at h
    ·simp only [X0] at h;subst h;intro i c;rw [AV.ids] at c;exact e i (kb7 i c)
    ·cases h
 ·cases h
def jh5 {t:TypeId} {j:Nat} {ft:TypeId} {o n:Nat} {ag:Bool} (h:qo8 P t j=some (ft,o,n,ag)): ∃fs f i d,P.underlying t=some (.struct fs)/\fs[j]?=some f/\f.type=ft/\f.offset=o/\P.info? ft=some i/\i.size=n/\P.underlying ft=some d/\ye3 d=ag:=by
 unfold qo8 at h
 grind
def vg0 {t:TypeId} {j:Nat} {x a:AV T.U} (h:qo7 T P t j x=some a) {X:Value} (hx:VR T w S φ x X): ∃v,(∀w0,(Instr.field t X j).run P w0=.ok v w0)/\VR T w S φ a v:=by
 unfold qo7 at h;split at h
 ·split at h
  ·rename_i cs p ft o n ag hp;obtain ⟨fs,f,i,d,h1,h2,h3,h4,h5,h6,h7,h8⟩:=jh5 P hp;subst h3;subst h4;subst h6;subst h8;obtain ⟨vs,rfl,hvs⟩:=hx;obtain ⟨v,hv1,hv2,_⟩:=ks1 hvs h;refine ⟨v,fun w0=>?_,hv2⟩;have hu:(underlying t).run P w0=.ok (.struct fs) w0:=by simp [underlying,h1]
   have hpart:(part f.type vs f.offset).run P w0=.ok v w0:=by
    apply yq0;unfold jb4
    grind
   unfold Instr.field;rw [Sem.run_bind,hu];simp [h2,asAgg,hpart]
  ·cases h
 ·cases h
def yw7 {a} (h:zx8 T a=true) {v} (b:VR T w S φ a v):v.cells= #[v]/\v.oneCell'=true:=by
 cases a with
 |cell c=>have b:CR T w S c.t c.x v:=b;generalize c.x=x at b;generalize c.t=t at *;cases b<;>exact ⟨rfl,rfl⟩
 |ptr i o=>obtain ⟨g,_,rfl⟩:=b;exact ⟨rfl,rfl⟩
 |own i=>rw [VR] at b;subst b;exact ⟨rfl,rfl⟩
 |sl i sz o n=>obtain ⟨ad,rfl,_⟩:=b;exact ⟨rfl,rfl⟩
 |fn f x y=>obtain ⟨d,e,rfl,_⟩:=b;exact ⟨rfl,rfl⟩
 |ifc t x=>obtain ⟨u,rfl,_⟩:=b;exact ⟨rfl,rfl⟩
 |raw u=>rw [VR] at b;subst b;cases v<;>first|exact ⟨rfl,rfl⟩|cases h
 |aptr i o sz n k c=>obtain ⟨g,_,_,rfl⟩:=b;exact ⟨rfl,rfl⟩
 |asl i o sz n j m=>obtain ⟨g,ad,_,rfl,_⟩:=b;exact ⟨rfl,rfl⟩
 |mp i=>obtain ⟨g,_,rfl⟩:=b;exact ⟨rfl,rfl⟩
 |hmp i=>rw [VR] at b;subst b;exact ⟨rfl,rfl⟩
 |_=>cases h
def yr3 {a} (h:yc6 T a=true):(∃cs,a=.agg cs)\/(zx8 T a=true/\zf8 T a= [a]):=by
 cases a<;>first|exact .inl ⟨_,rfl⟩|exact .inr ⟨h,rfl⟩
def zk9 {a} (h:yc6 T a=true) {v} (b:VR T w S φ a v):VRL T w S φ (zf8 T a) v.cells.toList:=by
 rcases yr3 h with ⟨cs,rfl⟩|⟨d,c⟩
 ·obtain ⟨vs,rfl,c⟩:=b;exact c
 ·rw [c,(yw7 d b).1];exact ⟨b,trivial⟩
def jh7: ∀(l:List Value) (o:Nat) (c:Array Value) (cs aS:List (AV T.U)),VRL T w S φ cs c.toList->VRL T w S φ aS l->VRL T w S φ (yl7 T cs o aS) (yj2 c o l).toList
 | [],_,_,_,[],h,_=>h
 | [],_,_,_,_::_,_,h=>h.elim
 |_::_,_,_,_,[],_,h=>h.elim
 |v::r,o,c,cs,a::s,h,h'=>by
  rw [yl7,yj2];exact jh7 r (o+1) _ _ s (by rw [T8];exact h.set T o h'.1) h'.2
def jo3 (o): ∀(l j c),(l.zipIdx j).foldl (fun cs (p:Value×Nat)=>cs.setIfInBounds (o+p.2) p.1) c=yj2 c (o+j) l
 | [],_,_=>rfl
 |v::r,j,c=>by
  rw [List.zipIdx_cons,List.foldl_cons,jo3 o r (j+1)];rfl
def yq3: ∀(l o c),(yj2 c o l).size=c.size
 | [],_,_=>rfl
 |v::r,o,c=>by rw [yj2,yq3 r];simp
def yp1 {place:Nat->Option (Nat×Nat)}: ∀ {ps:List (Nat×AV T.U)} {pv:List (Nat×Value)} {cs:List (AV T.U)} {c:Array Value} {cs':List (AV T.U)},
  VRL T w S φ cs c.toList->ps.map Prod.fst=pv.map Prod.fst->VRL T w S φ (ps.map Prod.snd) (pv.map Prod.snd)->ja0 T place cs ps=some cs'->
  ∃c',Instr.fill place c pv=some c'/\VRL T w S φ cs' c'.toList
 | [],[],cs,c,cs',h,_,_,hf=>by simp only [ja0,X0] at hf;subst hf;exact ⟨c,rfl,h⟩
 | [],_::_,_,_,_,_,he,_,_=>by simp at he
 |_::_,[],_,_,_,_,he,_,_=>by simp at he
 |(i,a)::r,(j,v)::s,cs,c,cs',h,he,hr,hf=>by
  simp only [U0,List.cons.injEq] at he hr;obtain ⟨rfl,he⟩:=he;unfold ja0 at hf;split at hf
  ·rename_i o n hpl;split at hf
   ·rename_i hok;simp only [X3] at hok;obtain ⟨h1,h2,h3⟩:=hok;have hc:=zk9 h1 hr.1;have l1:=hc.len T;have l2:=h.len T;have e2:=X1 h2;have e3:=Y1 h3;obtain ⟨c',g1,g2⟩:=yp1 (jh7 v.cells.toList o c cs _ h hc) he hr.2 hf;refine ⟨c',?_,g2⟩;simp at l1 l2;unfold Instr.fill;rw [hpl];simp only;rw [if_neg (by simp;omega)];have hfold:v.cells.zipIdx.foldl (fun cs (p:Value×Nat)=>cs.setIfInBounds (o+p.2) p.1) c=yj2 c o v.cells.toList:=by
     rw [<-Array.foldl_toList,Array.toList_zipIdx,jo3];rfl
    grind
   ·cases hf
  ·cases hf
def qx7 {α b:Type} {f:α->Option b} {g:α->Sem b} {w0:World} (a: ∀x y,f x=some y->(g x).run P w0=.ok y w0): ∀ {l:List α} {r:List b},wa3 f l=some r->(l.mapM g).run P w0=.ok r w0
 | [],r,h=>by simp only [wa3,X0] at h;subst h;rfl
 |x::l,r,h=>by
  unfold wa3 at h;split at h
  ·rename_i y s c d;simp only [X0] at h;subst h;simp only [T2,Sem.run_bind,a x y c,qx7 a d,Result.andThen_ok,Sem.run_pure]
  ·cases h
def qj9 {t:TypeId} {pl:List (Nat×Nat)} (h:zi0 P t=some pl): ∃fs,P.underlying t=some (.struct fs)/\ ∀w0,(fs.mapM fun f=>(do pure (f.offset,<-sizeOf f.type):Sem (Nat×Nat))).run P w0=.ok pl.toArray w0:=by
 unfold zi0 at h;split at h
 ·rename_i fs hfs;refine ⟨fs,hfs,fun w0=>?_⟩;rw [T7];have:=qx7 P (w0:=w0) (g:=fun f=>(do pure (f.offset,<-sizeOf f.type):Sem (Nat×Nat))) (fun f y hy=>by
   unfold gk5 at hy;split at hy
   ·rename_i i hi;simp only [X0] at hy;subst hy;have hs:(sizeOf f.type).run P w0=.ok i.size w0:=by simp [sizeOf,typeInfo,hi]
    simp_all
   ·cases hy) h
  simp_all
 ·cases h
def yj0 {F:AF T} {F':PF} (hF:FR T w S φ F F'): ∀ {l:List (Nat×Operand)} {aS:List (Nat×AV T.U)},zy5 T F l=some aS->
  aS.map Prod.fst=(l.map fun p=>(p.1,evD F' p.2)).map Prod.fst/\VRL T w S φ (aS.map Prod.snd) ((l.map fun p=>(p.1,evD F' p.2)).map Prod.snd)
 | [],aS,h=>by simp only [zy5,X0] at h;subst h;exact ⟨rfl,trivial⟩
 |(i,x)::r,aS,h=>by
  unfold zy5 at h;split at h
  ·rename_i a l ha hl;simp only [X0] at h;subst h;obtain ⟨v,h1,h2⟩:=u0 hF ha;obtain ⟨e1,e2⟩:=yj0 hF hl;exact ⟨by simpa using e1,by simpa [evD,h1] using h2,e2⟩
  ·cases h
def kd9 {a b f} (h:vh7 T a f=some b) {v} (d:VR T w S φ a v): ∃ad:Addr,v=.pointer (some ad)/\ad.spot=none/\VR T w S φ b (.pointer (some ⟨ad.block,ad.off+f,none⟩)):=by
 unfold vh7 at h;split at h<;>simp only [X0,reduceCtorEq] at h<;>subst h
 ·obtain ⟨g,c,rfl⟩:=d;exact ⟨_,rfl,rfl,g,c,rfl⟩
 ·obtain ⟨g,c,rfl⟩:=d;exact ⟨_,rfl,rfl,g,c,by simp [U2]⟩
 ·obtain ⟨ad,cap,c,e,rfl⟩:=d;exact ⟨_,rfl,rfl,ad,cap,c,e,by simp [U2]⟩
 ·obtain ⟨g,c,e,rfl⟩:=d;exact ⟨_,rfl,rfl,g,c,e,by simp [U2]⟩
def ke9 {o F a} (h:jq9 T P o F=some a) {D} (hF:FR T w S φ F D) (op) (g:op.op=o): ∃v,(∀w0,(execOp (evD D) op).run P w0=.ok (.value v) w0)/\VR T w S φ a v:=by
 unfold jq9 at h;split at h
 ·obtain ⟨v,r,u⟩:=u0 hF h;exact ⟨v,fun w0=>by simp [execOp,g,u9 r],u⟩
 ·obtain ⟨v,r,u⟩:=u0 hF h;exact ⟨v,fun w0=>by simp [execOp,g,u9 r],u⟩
 ·split at h
  ·rename_i x y _ A V;obtain ⟨X,r,u⟩:=u0 hF A;obtain ⟨Y,H,Q⟩:=u0 hF V;rename_i b t xo yo _ _ _;obtain ⟨G,v,C,I⟩:=kr2 P h u Q xo yo fun h=>(J2 _ _).mp h;exact ⟨v,fun w0=>by simp [execOp,g,u9 r,u9 H,G,C],I⟩
  ·cases h
 ·split at h
  ·rename_i x A;obtain ⟨X,r,u⟩:=u0 hF A;obtain ⟨v,C,I⟩:=wi5 P h u;exact ⟨v,fun w0=>by simp [execOp,g,u9 r,C],I⟩
  ·cases h
 ·split at h
  ·rename_i k d A J K;simp only [X0] at h;subst h;obtain ⟨X,r,u⟩:=u0 hF A;have e:=zb0 u;subst e;refine ⟨_,fun w0=>?_,CR.int _ _⟩;rename_i W dst xop _ _ _ k' x;unfold gi2 at J;split at J
   ·rename_i k2 Z;simp only [X0] at J;subst J;have hd':(underlying dst).run P w0=.ok (.int k2) w0:=by simp [underlying,Z]
    have hs':(underlying W).run P w0=.ok d w0:=by simp [underlying,K]
    simp only [execOp,g,u9 r,convert,Sem.run_bind,hs',hd',Result.andThen_ok,Conv.intToInt];rfl
   ·cases J
  ·cases h
 ·split at h
  ·rename_i vs A;obtain ⟨X,r,u⟩:=u0 hF A;obtain ⟨us,rfl,H⟩:=u;obtain ⟨v,Q,h5⟩:=H.get T h;refine ⟨v,fun w0=>?_,h5⟩;simp at Q;simp [execOp,g,u9 r,Instr.extract,Q]
  ·cases h
 ·split at h
  ·rename_i x A;obtain ⟨X,r,u⟩:=u0 hF A;obtain ⟨v,C,I⟩:=vg0 P h u;exact ⟨v,fun w0=>by simp [execOp,g,u9 r,C],I⟩
  ·cases h
 ·split at h
  ·rename_i x d A Z;obtain ⟨X,r,u⟩:=u0 hF A;split at h
   ·cases h
   ·simp only [X0] at h;subst h;refine ⟨_,fun w0=>?_,X,rfl,u⟩;have E: ∀t,P.underlying t=some d->(underlying t).run P w0=.ok d w0:=fun t ht=>by simp [underlying,ht]
    simp only [execOp,g,u9 r,Instr.makeInterface,Sem.run_bind,E _ Z,Result.andThen_ok];rfl
  ·cases h
 ·split at h
  ·rename_i x y A V;simp only [X0] at h;subst h;rename_i f xs ys _ _;refine ⟨.func f (xs.map (evD D)) (ys.map (evD D)),fun w0=>by simp [execOp,g,Instr.makeFunc],_,_,rfl,?_,?_⟩
   ·simpa using yf3 hF A
   ·simpa using yf3 hF V
  ·cases h
 ·split at h
  ·rename_i pf z l q L hl;split at h
   ·rename_i cs hcs;simp only [X0] at h;subst h;rename_i t ps _ _ _ _;unfold qt4 at L;split at L
    ·rename_i c hc;simp only [X0] at L;subst L;obtain ⟨i,R,hi,hzv,rfl⟩:=jj1 hc;obtain ⟨e1,e2⟩:=yj0 hF hl;obtain ⟨c',G,C⟩:=yp1 (ye7 T R.cells.toList) e1 e2 hcs;refine ⟨.agg c',fun w0=>?_,c',rfl,C⟩;have M:(zeroValue t).run P w0=.ok R w0:=by simp [zeroValue,typeInfo,hi,hzv]
     have B:(ps.map fun p=>(p.1,evD D p.2)).toList=ps.toList.map fun p=>(p.1,evD D p.2):=by simp
     unfold gk4 at q;split at q
     ·split at q
      ·rename_i pl N;simp only [X0] at q;subst q;obtain ⟨fs,hfs,hpr⟩:=qj9 P N;have E:(underlying t).run P w0=.ok (.struct fs) w0:=by simp [underlying,hfs]
       simp only [execOp,g,Instr.build,Sem.run_bind,M,E,Result.andThen_ok,hpr];have hg:Instr.fill (fun x=>pl.toArray[x]?) R.cells (Array.map (fun x=>(x.fst,evD D x.snd)) ps).toList=some c':=by rw [B];simpa using G
       rw [hg];rfl
      ·cases q
     ·rename_i m e hme;split at q
      ·rename_i j hj;simp only [X0] at q;subst q;have E:(underlying t).run P w0=.ok (.array m e) w0:=by simp [underlying,hme]
       have K:(sizeOf e).run P w0=.ok j.size w0:=by simp [sizeOf,typeInfo,hj]
       simp only [execOp,g,Instr.build,Sem.run_bind,M,E,Result.andThen_ok,K];have hg:Instr.fill (fun x=>some (x*j.size,j.size)) R.cells (Array.map (fun x=>(x.fst,evD D x.snd)) ps).toList=some c':=by rw [B];simpa using G
       rw [hg];rfl
      ·cases q
     ·cases q
    ·cases L
   ·cases h
  ·cases h
 ·split at h
  ·rename_i x ft f n ag A hp;split at h
   ·cases h
   ·rename_i hn;obtain ⟨X,r,u⟩:=u0 hF A;obtain ⟨fs,fl,i,d,G,C,rfl,rfl,g5,rfl,g7,g8⟩:=jh5 P hp;obtain ⟨ad,rfl,O,H⟩:=kd9 h u;rename_i s xo j _ _ _;refine ⟨_,fun w0=>?_,H⟩;have E:(underlying s).run P w0=.ok (.struct fs) w0:=by simp [underlying,G]
    have K:(sizeOf fl.type).run P w0=.ok i.size w0:=by simp [sizeOf,typeInfo,g5]
    have hn0: ¬i.size=0:=by intro e;rw [e] at hn;cases hn
    have hfp:(fieldPlace ad fl).run P w0=.ok ⟨ad.block,ad.off+fl.offset,none⟩ w0:=by
     unfold fieldPlace;simp only [Sem.run_bind,K,Result.andThen_ok,hn0,if_false,Sem.run_pure];unfold Addr.add;cases ad;simp at O;subst O;split<;>simp_all
    simp only [execOp,g,u9 r,Instr.fieldAt,Instr.sureAddr,Sem.run_bind,E,Result.andThen_ok,C,hfp,Sem.run_pure]
  ·cases h
 ·cases h
end
end Go.X
