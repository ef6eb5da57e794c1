import Derived.Test.YthhhfnfgmijggaaGreatA1
set_option linter.defProp false
namespace Go.X
open Go.RowKit Go.V
inductive Ty where
 |int (k:IntKind)|bool|str|list (e:Ty)|user (i:Nat)
 deriving DecidableEq
def den (U:Nat->Type):Ty->Type
 | .int _=>Int
 | .bool=>Bool
 | .str=>ByteArray
 | .list e=>List (den U e)
 | .user i=>U i
structure Cell (U:Nat->Type) where
 t:Ty
 x:den U t
def Ty.scal:Ty->Bool| .int _=>true| .bool=>true| .str=>true|_=>false
structure Tab where
 U:Nat->Type
 d:(i:Nat)->U i
 size:Nat->Nat
 cells:(i:Nat)->U i->List (Cell U)
 len: ∀i x,(cells i x).length=size i
 pack:(i:Nat)->List (Cell U)->Option (U i)
 packed: ∀i cs x,pack i cs=some x->cells i x=cs
 scal:Nat->Bool
 scals: ∀i x,scal i=true-> ∀c∈cells i x,c.t.scal=true
section
variable (T:Tab)
def szT:Ty->Nat
 | .user i=>T.size i
 |_=>1
def zc8:(t:Ty)->den T.U t->List (Cell T.U)
 | .user i,x=>T.cells i x
 | .int k,x=> [⟨.int k,x⟩]
 | .bool,x=> [⟨.bool,x⟩]
 | .str,x=> [⟨.str,x⟩]
 | .list e,x=> [⟨.list e,x⟩]
def yb3:(t:Ty)->den T.U t
 | .user i=>T.d i
 | .int _=>(0:Int)
 | .bool=>false
 | .str=>ByteArray.empty
 | .list _=> []
def w6 (t x):(zc8 T t x).length=szT T t:=by
 cases t<;>first|rfl|exact T.len _ _
def Cell.as {U:Nat->Type} (c:Cell U) (t:Ty):Option (den U t):=if h:c.t=t then some (h▸c.x) else none
def Cell.as_eq {U} {c:Cell U} {t x} (h:c.as t=some x):c=⟨t,x⟩:=by
 unfold Cell.as at h;split at h
 ·rename_i a;subst a;simp only [X0] at h;subst h;rfl
 ·cases h
def Ty.one:Ty->Bool| .user _=>false|_=>true
def yz3 {t} (h:t.one=true) (x):zc8 T t x= [⟨t,x⟩]:=by cases t<;>first|rfl|cases h
def wd6 {U:Nat->Type} (t:Ty):List (Cell U)->Option (den U t)
 | [c]=>c.as t
 |_=>none
def yt3 (t:Ty) (cs:List (Cell T.U)):Option (den T.U t):=
 match t with
 | .user i=>T.pack i cs
 |t=>wd6 t cs
def zp2 {t cs x} (h:yt3 T t cs=some x):zc8 T t x=cs:=by
 have a: ∀t:Ty,t.one=true-> ∀x:den T.U t,wd6 t cs=some x->zc8 T t x=cs:=by
  intro t b x h;unfold wd6 at h;split at h
  ·rw [Cell.as_eq h,yz3 T b]
  ·cases h
 cases t with
 |user i=>exact T.packed _ _ _ h
 |int k=>exact a _ rfl x h
 |bool=>exact a _ rfl x h
 |str=>exact a _ rfl x h
 |list e=>exact a _ rfl x h
structure RA where
 ad:Option Addr
 n:Nat
 cap:Nat
 xs:List Nat
inductive AV (U:Nat->Type) where
 |cell (c:Cell U)
 |ptr (i o:Nat)
 |eptr (i sz k c:Nat)
 |lptr (e:Ty) (xs:List (den U e)) (k o:Nat)
 |own (i:Nat)
 |sl (i sz o n:Nat)
 |agg (cs:List (AV U))
 |tup (vs:List (AV U))
 |fn (f:Fn) (first a:List (AV U))
 |ifc (t:TypeId) (v:AV U)
 |raw (v:Value)
 |arr (t:Ty) (n:Nat) (xs:List (den U t))
 |aptr (i o sz n k c:Nat)
 |asl (i o sz n b m:Nat)
 |mp (i:Nat)
inductive Ent (U:Nat->Type) where
 |blk (e:TypeId) (cs:List (AV U))
 |row (e:TypeId) (t:Ty) (xs:List (den U t))
 |map (k:IntKind) (es:List (Int×AV U))
 |tmap (k:IntKind) (t:Ty) (m:List (Int×den U t))
 |drow (e:TypeId) (d:Nat) (fe:List TypeId) (xs:List (U d)) (op:Option (Nat×List (AV U)))
 |gone
inductive CR (w:World) (S:List Nat):(t:Ty)->den T.U t->Value->Prop
 |int (k:IntKind) (x:Int):CR w S (.int k) x (.int k x)
 |bool (b:Bool):CR w S .bool b (.bool b)
 |str (s:ByteArray):CR w S .str s (.string s)
 |list (e:Ty) (xs:List (den T.U e)) (ad:Option Addr) (cap:Nat) (u:Nat->Nat->Value) (d:xs.length<=cap) (f:ad=none->xs.length=0/\cap=0)
   (h:xs≠ []->ad=some ⟨bk ad,of ad,none⟩/\bk ad<w.heap.size/\bk ad∉S)
   (a: ∀k j (c:Cell T.U),(xs[k]?.map fun x=>(zc8 T e x)[j]?)=some (some c)->w.cell? ⟨bk ad,of ad+(k*szT T e+j),none⟩=some (u k j))
   (g: ∀k j (c:Cell T.U),(xs[k]?.map fun x=>(zc8 T e x)[j]?)=some (some c)->CR w S c.t c.x (u k j)):CR w S (.list e) xs (.slice ad xs.length cap)
abbrev yv0 (w:World) (S:List Nat) (c:Cell T.U) (v:Value):Prop:=CR T w S c.t c.x v
def CellsR (w:World) (S:List Nat) (cs:List (Cell T.U)) (vs:List Value):Prop:=cs.length=vs.length/\ ∀(j:Nat) (c:Cell T.U) (v:Value),cs[j]?=some c->vs[j]?=some v->yv0 T w S c v
mutual
def VR (w:World) (S:List Nat) (φ:Nat->RA):AV T.U->Value->Prop
 | .cell c,v=>yv0 T w S c v
 | .ptr i o,v=> ∃g,(φ i).ad=some ⟨g,0,none⟩/\v=.pointer (some ⟨g,o,none⟩)
 | .eptr i sz k c,v=> ∃g,(φ i).ad=some ⟨g,0,none⟩/\v=.pointer (some ⟨g,0+(k*sz+c),none⟩)
 | .lptr e xs k o,v=> ∃ad cap,CR T w S (.list e) xs (.slice ad xs.length cap)/\k<xs.length/\v=.pointer (some ⟨bk ad,of ad+(k*szT T e+o),none⟩)
 | .own i,v=>v=.slice (φ i).ad (φ i).n (φ i).cap
 | .sl i sz o n,v=> ∃ad,v=.slice ad n ((φ i).cap-o)/\o+n<=(φ i).cap/\(n=0\/ ∃g,(φ i).ad=some ⟨g,0,none⟩/\ad=some ⟨g,0+o*sz,none⟩)/\(ad=none->n=0/\(φ i).cap-o=0)/\(o=0->ad=(φ i).ad)
 | .agg cs,v=> ∃vs:Array Value,v=.agg vs/\VRL w S φ cs vs.toList
 | .tup cs,v=> ∃vs:Array Value,v=.tuple vs/\VRL w S φ cs vs.toList
 | .fn f a b,v=> ∃h j:Array Value,v=.func f h j/\VRL w S φ a h.toList/\VRL w S φ b j.toList
 | .ifc t a,v=> ∃u,v=.iface t u/\VR w S φ a u
 | .raw u,v=>v=u
 | .arr t n xs,v=> ∃vs:Array Value,v=.agg vs/\xs.length=n/\CellsR T w S (xs.flatMap (zc8 T t)) vs.toList
 | .aptr i o sz n k c,v=> ∃g,(φ i).ad=some ⟨g,0,none⟩/\k<n/\v=.pointer (some ⟨g,o+(k*sz+c),none⟩)
 | .asl i o sz n d m,v=> ∃g ad,(φ i).ad=some ⟨g,0,none⟩/\v=.slice (some ad) m (n-d)/\d+m<=n/\(d=n\/ad=⟨g,o+d*sz,none⟩)
 | .mp i,v=> ∃g,(φ i).ad=some ⟨g,0,none⟩/\v=.map (some g)
def VRL (w:World) (S:List Nat) (φ:Nat->RA):List (AV T.U)->List Value->Prop
 | [],[]=>True
 |a::r,v::s=>VR w S φ a v/\VRL w S φ r s
 |_,_=>False
end
def gf3 {Tc w w' a v} (b:Chg Tc w w') (c:a.block∉Tc) (h:w.cell? a=some v):w'.cell? a=some v:=
 (World.cell?_of_block (b.block _ (World.block_lt_of_cell? w _ h) c)).trans h
def CR.chg {Tc S S' w w'} (n:Chg Tc w w') (q: ∀b∈Tc,b∈S) (r: ∀b∈S',b∈S\/w.heap.size<=b) {t x v} (h:CR T w S t x v):CR T w' S' t x v:=by
 induction h with
 |int k x=>exact .int k x
 |bool b=>exact .bool b
 |str s=>exact .str s
 |list e xs ad cap u d f g a o y=>
  refine .list e xs ad cap u d f ?_ ?_ y
  ·intro i;obtain ⟨z,A,l⟩:=g i;refine ⟨z,U9 A n.size,fun m=>?_⟩;rcases r _ m with h|h
   ·exact l h
   ·omega
  ·intro k j c p;have i:xs≠ []:=by intro e;subst e;simp at p
   obtain ⟨_,_,l⟩:=g i;exact gf3 n (fun m=>l (q _ m)) (a k j c p)
def CellsR.chg {Tc S S' w w'} (a:Chg Tc w w') (d: ∀b∈Tc,b∈S) (e: ∀b∈S',b∈S\/w.heap.size<=b) {cs vs} (h:CellsR T w S cs vs):CellsR T w' S' cs vs:=
 ⟨h.1,fun j c v f g=>(h.2 j c v f g).chg T a d e⟩
mutual
def VR.chg {Tc S S' w w' φ} (j:Chg Tc w w') (l: ∀b∈Tc,b∈S) (p: ∀b∈S',b∈S\/w.heap.size<=b): ∀ {a v},VR T w S φ a v->VR T w' S' φ a v
 | .cell c,v,h=>CR.chg T j l p h
 | .ptr i o,v,h=>h
 | .eptr i sz k c,v,h=>h
 | .lptr e xs k o,v,h=>by obtain ⟨ad,cap,d,g,q⟩:=h;exact ⟨ad,cap,d.chg T j l p,g,q⟩
 | .own i,v,h=>h
 | .sl i sz o n,v,h=>h
 | .agg cs,v,h=>by obtain ⟨vs,d,g⟩:=h;exact ⟨vs,d,VRL.chg j l p g⟩
 | .tup cs,v,h=>by obtain ⟨vs,d,g⟩:=h;exact ⟨vs,d,VRL.chg j l p g⟩
 | .fn f a b,v,h=>by obtain ⟨r,s,d,g,q⟩:=h;exact ⟨r,s,d,VRL.chg j l p g,VRL.chg j l p q⟩
 | .ifc t a,v,h=>by obtain ⟨u,d,g⟩:=h;exact ⟨u,d,VR.chg j l p g⟩
 | .raw u,v,h=>h
 | .arr t n xs,v,h=>by obtain ⟨vs,d,g,q⟩:=h;exact ⟨vs,d,g,q.chg T j l p⟩
 | .aptr i o sz n k c,v,h=>h
 | .asl i o sz n x m,v,h=>h
 | .mp i,v,h=>h
def VRL.chg {Tc S S' w w' φ} (a:Chg Tc w w') (c: ∀b∈Tc,b∈S) (d: ∀b∈S',b∈S\/w.heap.size<=b): ∀ {as vs},VRL T w S φ as vs->VRL T w' S' φ as vs
 | [],[],_=>trivial
 | [],_::_,h=>h.elim
 |_::_,[],h=>h.elim
 |_::_,_::_,h=>⟨VR.chg a c d h.1,VRL.chg a c d h.2⟩
end
def VRL.len {S w φ}: ∀ {as vs},VRL T w S φ as vs->as.length=vs.length
 | [],[],_=>rfl
 | [],_::_,h=>h.elim
 |_::_,[],h=>h.elim
 |_::r,_::s,h=>by simp [VRL.len h.2]
def VRL.get {S:List Nat} {w:World} {φ:Nat->RA}: ∀ {as:List (AV T.U)} {vs:List Value} {j:Nat} {a:AV T.U},VRL T w S φ as vs->as[j]?=some a-> ∃v,vs[j]?=some v/\VR T w S φ a v
 | [],_,_,_,_,h=>by simp at h
 |_::_,[],_,_,h,_=>h.elim
 |_::_,v::_,0,b,h,c=>by simp at c;subst c;exact ⟨v,rfl,h.1⟩
 |_::_,_::_,j+1,b,h,c=>by simp at c;simpa using VRL.get h.2 c
def VRL.app {S w φ}: ∀ {as a vs us},VRL T w S φ as vs->VRL T w S φ a us->VRL T w S φ (as++a) (vs++us)
 | [],_,[],_,_,h=>h
 | [],_,_::_,_,h,_=>h.elim
 |_::_,_,[],_,h,_=>h.elim
 |_::_,_,_::_,_,h,b=>⟨h.1,VRL.app h.2 b⟩
def VRL.drop {S w φ}: ∀ {as vs} (n),VRL T w S φ as vs->VRL T w S φ (as.drop n) (vs.drop n)
 |_,_,0,h=>h
 | [],[],_+1,_=>trivial
 | [],_::_,_+1,h=>h.elim
 |_::_,[],_+1,h=>h.elim
 |_::r,_::s,n+1,h=>VRL.drop (as:=r) (vs:=s) n h.2
def VRL.take {S w φ}: ∀ {as vs} (n),VRL T w S φ as vs->VRL T w S φ (as.take n) (vs.take n)
 |_,_,0,_=>by simp [VRL]
 | [],[],_+1,_=>by simp [VRL]
 | [],_::_,_+1,h=>h.elim
 |_::_,[],_+1,h=>h.elim
 |_::r,_::s,n+1,h=>⟨h.1,VRL.take (as:=r) (vs:=s) n h.2⟩
def VRL.set {S w φ}: ∀ {as vs} (n) {a v},VRL T w S φ as vs->VR T w S φ a v->VRL T w S φ (as.set n a) (vs.set n v)
 | [],[],_,_,_,_,_=>trivial
 | [],_::_,_,_,_,h,_=>h.elim
 |_::_,[],_,_,_,h,_=>h.elim
 |_::_,_::_,0,_,_,h,b=>⟨b,h.2⟩
 |_::r,_::s,n+1,_,_,h,b=>⟨h.1,VRL.set (as:=r) (vs:=s) n h.2 b⟩
mutual
def AV.ids {U:Nat->Type}:AV U->List Nat
 | .cell _=> []
 | .ptr i _=> [i]
 | .eptr i _ _ _=> [i]
 | .lptr _ _ _ _=> []
 | .own i=> [i]
 | .sl i _ _ _=> [i]
 | .agg cs=>v5 cs
 | .tup cs=>v5 cs
 | .fn _ a b=>v5 a++v5 b
 | .ifc _ a=>a.ids
 | .raw _=> []
 | .arr _ _ _=> []
 | .aptr i _ _ _ _ _=> [i]
 | .asl i _ _ _ _ _=> [i]
 | .mp i=> [i]
def v5 {U:Nat->Type}:List (AV U)->List Nat
 | []=> []
 |a::r=>a.ids++v5 r
end
mutual
def AV.ren {U:Nat->Type} (ρ:Nat->Nat):AV U->AV U
 | .cell c=>.cell c
 | .ptr i o=>.ptr (ρ i) o
 | .eptr i sz k c=>.eptr (ρ i) sz k c
 | .lptr e xs k o=>.lptr e xs k o
 | .own i=>.own (ρ i)
 | .sl i sz o n=>.sl (ρ i) sz o n
 | .agg cs=>.agg (zj9 ρ cs)
 | .tup cs=>.tup (zj9 ρ cs)
 | .fn f a b=>.fn f (zj9 ρ a) (zj9 ρ b)
 | .ifc t a=>.ifc t (a.ren ρ)
 | .raw v=>.raw v
 | .arr t n xs=>.arr t n xs
 | .aptr i o sz n k c=>.aptr (ρ i) o sz n k c
 | .asl i o sz n d m=>.asl (ρ i) o sz n d m
 | .mp i=>.mp (ρ i)
def zj9 {U:Nat->Type} (ρ:Nat->Nat):List (AV U)->List (AV U)
 | []=> []
 |a::r=>a.ren ρ::zj9 ρ r
end
def RSame (r a:RA):Prop:=r.ad=a.ad/\r.n=a.n/\r.cap=a.cap
def RSame.trans {r b a} (h:RSame r b) (k:RSame b a):RSame r a:=⟨h.1.trans k.1,h.2.1.trans k.2.1,h.2.2.trans k.2.2⟩
def RSame.symm {r a} (h:RSame r a):RSame a r:=⟨h.1.symm,h.2.1.symm,h.2.2.symm⟩
def RSame.of {r a} (h:r=a):RSame r a:=by subst h;exact ⟨rfl,rfl,rfl⟩
mutual
def VR.renS {S w φ φ' ρ}: ∀ {a v},(∀i∈a.ids,RSame (φ' (ρ i)) (φ i))->VR T w S φ a v->VR T w S φ' (a.ren ρ) v
 | .cell c,v,_,h=>by rw [AV.ren];exact h
 | .ptr i o,v,d,h=>by rw [AV.ren];obtain ⟨g,j,l⟩:=h;exact ⟨g,(d i (by simp [AV.ids])).1.trans j,l⟩
 | .eptr i sz k c,v,d,h=>by rw [AV.ren];obtain ⟨g,j,l⟩:=h;exact ⟨g,(d i (by simp [AV.ids])).1.trans j,l⟩
 | .lptr e xs k o,v,_,h=>by rw [AV.ren];exact h
 | .own i,v,d,h=>by obtain ⟨j,l,p⟩:=d i (by simp [AV.ids]);rw [AV.ren,VR,j,l,p];exact h
 | .sl i sz o n,v,d,h=>by
  obtain ⟨s,B,x⟩:=d i (by simp [AV.ids]);rw [AV.ren];obtain ⟨ad,j,l,p,y,r⟩:=h;rw [VR,s,x];refine ⟨ad,j,l,?_,y,r⟩;rcases p with p|⟨g,p,r⟩
  ·exact .inl p
  ·exact .inr ⟨g,p,r⟩
 | .agg cs,v,d,h=>by rw [AV.ren];obtain ⟨vs,j,l⟩:=h;exact ⟨vs,j,VRL.renS (fun i q=>d i (by rw [AV.ids];exact q)) l⟩
 | .tup cs,v,d,h=>by rw [AV.ren];obtain ⟨vs,j,l⟩:=h;exact ⟨vs,j,VRL.renS (fun i q=>d i (by rw [AV.ids];exact q)) l⟩
 | .fn f a b,v,d,h=>by
  rw [AV.ren];obtain ⟨z,A,j,l,p⟩:=h;exact ⟨z,A,j,VRL.renS (fun i q=>d i (by rw [AV.ids];exact X4.2 (.inl q))) l,VRL.renS (fun i q=>d i (by rw [AV.ids];exact X4.2 (.inr q))) p⟩
 | .ifc t a,v,d,h=>by rw [AV.ren];obtain ⟨u,j,l⟩:=h;exact ⟨u,j,VR.renS (fun i q=>d i (by rw [AV.ids];exact q)) l⟩
 | .raw u,v,_,h=>by rw [AV.ren];exact h
 | .arr t n xs,v,_,h=>by rw [AV.ren];exact h
 | .aptr i o sz n k c,v,d,h=>by rw [AV.ren];obtain ⟨g,j,l⟩:=h;exact ⟨g,(d i (by simp [AV.ids])).1.trans j,l⟩
 | .asl i o sz n C m,v,d,h=>by rw [AV.ren];obtain ⟨g,ad,j,l⟩:=h;exact ⟨g,ad,(d i (by simp [AV.ids])).1.trans j,l⟩
 | .mp i,v,d,h=>by rw [AV.ren];obtain ⟨g,j,l⟩:=h;exact ⟨g,(d i (by simp [AV.ids])).1.trans j,l⟩
def VRL.renS {S w φ φ' ρ}: ∀ {as vs},(∀i∈v5 as,RSame (φ' (ρ i)) (φ i))->VRL T w S φ as vs->VRL T w S φ' (zj9 ρ as) vs
 | [],[],_,_=>trivial
 | [],_::_,_,h=>h.elim
 |_::_,[],_,h=>h.elim
 |a::r,v::s,c,h=>⟨VR.renS (fun i b=>c i (by rw [v5];exact X4.2 (.inl b))) h.1,VRL.renS (fun i b=>c i (by rw [v5];exact X4.2 (.inr b))) h.2⟩
end
def VR.ren {S w φ φ' ρ a v} (b: ∀i∈a.ids,φ' (ρ i)=φ i) (h:VR T w S φ a v):VR T w S φ' (a.ren ρ) v:=VR.renS T (fun i m=>RSame.of (b i m)) h
def VRL.ren {S w φ φ' ρ as vs} (a: ∀i∈v5 as,φ' (ρ i)=φ i) (h:VRL T w S φ as vs):VRL T w S φ' (zj9 ρ as) vs:=VRL.renS T (fun i m=>RSame.of (a i m)) h
def wd:AV T.U->Nat| .arr t n _=>n*szT T t|_=>1
def jr2:AV T.U->List (AV T.U)| .arr t _ xs=>(xs.flatMap (zc8 T t)).map .cell|a=> [a]
def zh6:List (AV T.U)->List (AV T.U)
 | []=> []
 |a::r=>jr2 T a++zh6 r
def qb0:AV T.U->Prop| .arr _ n xs=>xs.length=n|_=>True
def yb9:List (AV T.U)->Prop
 | []=>True
 |a::r=>qb0 T a/\yb9 r
def zb1:AV T.U->Bool| .arr _ _ _=>false|_=>true
def zq0 {a} (h:zb1 T a=true):jr2 T a= [a]:=by cases a<;>first|rfl|cases h
def ye8 {a} (h:zb1 T a=true):qb0 T a:=by cases a<;>first|trivial|cases h
def qq3 {a} (h:zb1 T a=true):wd T a=1:=by cases a<;>first|rfl|cases h
def flatMap_lenT {α b:Type} {f:α->List b} {sz:Nat} (c: ∀y,(f y).length=sz) (l:List α):(l.flatMap f).length=l.length*sz:=by
 induction l with
 |nil=>simp
 |cons a r d=>rw [J2,X9,c,d,U5,J1,V5]
def yg6 {a} (h:qb0 T a):(jr2 T a).length=wd T a:=by
 cases a<;>try rfl
 rename_i t n xs;rw [jr2,V3,flatMap_lenT (w6 T t),wd,show xs.length=n from h]
def yg4 (as bs):zh6 T (as++bs)=zh6 T as++zh6 T bs:=by
 induction as with
 |nil=>rfl
 |cons a r b=>rw [M0,zh6,zh6,b,Q2]
def vb2 {cs} (h:cs.all (zb1 T)=true):zh6 T cs=cs:=by
 induction cs with
 |nil=>rfl
 |cons a r b=>rw [J0,X3] at h;rw [zh6,zq0 T h.1,b h.2];rfl
def vz6 {cs} (h:cs.all (zb1 T)=true):yb9 T cs:=by
 induction cs with
 |nil=>trivial
 |cons a r b=>rw [J0,X3] at h;exact ⟨ye8 T h.1,b h.2⟩
def jd9 {as b}:yb9 T (as++b)↔yb9 T as/\yb9 T b:=by
 induction as with
 |nil=>simp [yb9]
 |cons a r c=>rw [M0,yb9,yb9,c,and_assoc]
def yn0 {U} (as b:List (AV U)):v5 (as++b)=v5 as++v5 b:=by
 induction as with
 |nil=>rfl
 |cons a r c=>rw [M0,v5,v5,c,Q2]
def yv6 {U} (cs:List (Cell U)):v5 (cs.map AV.cell)= []:=by
 induction cs with
 |nil=>rfl
 |cons a r b=>rw [U1,v5,b];rfl
def kx9 (a):v5 (jr2 T a)=a.ids:=by
 cases a<;>first|exact yv6 _|exact M5 _
def jt6 (cs):v5 (zh6 T cs)=v5 cs:=by
 induction cs with
 |nil=>rfl
 |cons a r b=>rw [zh6,yn0,kx9,b,v5]
def gc4 {U} (ρ:Nat->Nat) (as b:List (AV U)):zj9 ρ (as++b)=zj9 ρ as++zj9 ρ b:=by
 induction as with
 |nil=>rfl
 |cons a r c=>rw [M0,zj9,zj9,c];rfl
def ve6 {U} (ρ:Nat->Nat) (cs:List (Cell U)):zj9 ρ (cs.map AV.cell)=cs.map AV.cell:=by
 induction cs with
 |nil=>rfl
 |cons a r b=>rw [U1,zj9,b];rfl
def kx1 (ρ a):jr2 T (a.ren ρ)=zj9 ρ (jr2 T a):=by
 cases a<;>first|exact (ve6 ρ _).symm|rfl
def qt8 (ρ cs):zh6 T (zj9 ρ cs)=zj9 ρ (zh6 T cs):=by
 induction cs with
 |nil=>rfl
 |cons a r b=>rw [zj9,zh6,zh6,gc4,b,kx1]
def kh4 {ρ a} (h:qb0 T a):qb0 T (a.ren ρ):=by cases a<;>first|trivial|exact h
def qf5 {ρ cs} (h:yb9 T cs):yb9 T (zj9 ρ cs):=by
 induction cs with
 |nil=>trivial
 |cons a r b=>exact ⟨kh4 T h.1,b h.2⟩
def BR (w:World) (S:List Nat) (φ:Nat->RA) (cs:List (AV T.U)) (vs:List Value):Prop:=VRL T w S φ (zh6 T cs) vs/\yb9 T cs
def BR.of {w S φ cs vs} (h:VRL T w S φ cs vs) (a:cs.all (zb1 T)=true):BR T w S φ cs vs:=⟨by rw [vb2 T a];exact h,vz6 T a⟩
def BR.chg {Tc S S' w w' φ} (a:Chg Tc w w') (c: ∀b∈Tc,b∈S) (d: ∀b∈S',b∈S\/w.heap.size<=b) {cs vs} (h:BR T w S φ cs vs):BR T w' S' φ cs vs:=⟨h.1.chg T a c d,h.2⟩
def BR.ren {S w φ φ' ρ cs vs} (a: ∀i∈v5 cs,φ' (ρ i)=φ i) (h:BR T w S φ cs vs):BR T w S φ' (zj9 ρ cs) vs:=
 ⟨by rw [qt8];exact VRL.ren T (by rw [jt6];exact a) h.1,qf5 T h.2⟩
def BR.renS {S w φ φ' ρ cs vs} (a: ∀i∈v5 cs,RSame (φ' (ρ i)) (φ i)) (h:BR T w S φ cs vs):BR T w S φ' (zj9 ρ cs) vs:=
 ⟨by rw [qt8];exact VRL.renS T (by rw [jt6];exact a) h.1,qf5 T h.2⟩
def MR (w:World) (S:List Nat) (φ:Nat->RA) (k:IntKind):List (Int×AV T.U)->List MapEntry->Prop
 | [],[]=>True
 |(x,a)::r,e::s=>e.key=.int k x/\VR T w S φ a e.val/\MR w S φ k r s
 |_,_=>False
def idsM {U:Nat->Type}:List (Int×AV U)->List Nat
 | []=> []
 |(_,a)::r=>a.ids++idsM r
def qk2 {U:Nat->Type} (ρ:Nat->Nat):List (Int×AV U)->List (Int×AV U)
 | []=> []
 |(x,a)::r=>(x,a.ren ρ)::qk2 ρ r
def MR.chg {Tc S S' w w' φ} (a:Chg Tc w w') (c: ∀b∈Tc,b∈S) (d: ∀b∈S',b∈S\/w.heap.size<=b) {k}: ∀ {es l},MR T w S φ k es l->MR T w' S' φ k es l
 | [],[],_=>trivial
 | [],_::_,h=>h.elim
 |_::_,[],h=>h.elim
 |(_,_)::_,_::_,h=>⟨h.1,h.2.1.chg T a c d,MR.chg a c d h.2.2⟩
def MR.ren {S w φ φ' ρ k}: ∀ {es l},(∀i∈idsM es,φ' (ρ i)=φ i)->MR T w S φ k es l->MR T w S φ' k (qk2 ρ es) l
 | [],[],_,_=>trivial
 | [],_::_,_,h=>h.elim
 |_::_,[],_,h=>h.elim
 |(_,a)::r,_::_,c,h=>⟨h.1,h.2.1.ren T fun i b=>c i (by rw [idsM];exact X4.2 (.inl b)),MR.ren (fun i b=>c i (by rw [idsM];exact X4.2 (.inr b))) h.2.2⟩
def MR.renS {S w φ φ' ρ k}: ∀ {es l},(∀i∈idsM es,RSame (φ' (ρ i)) (φ i))->MR T w S φ k es l->MR T w S φ' k (qk2 ρ es) l
 | [],[],_,_=>trivial
 | [],_::_,_,h=>h.elim
 |_::_,[],_,h=>h.elim
 |(_,a)::r,_::_,c,h=>⟨h.1,h.2.1.renS T fun i b=>c i (by rw [idsM];exact X4.2 (.inl b)),MR.renS (fun i b=>c i (by rw [idsM];exact X4.2 (.inr b))) h.2.2⟩
def TR (w:World) (S:List Nat) (k:IntKind) (t:Ty):List (Int×den T.U t)->List MapEntry->Prop
 | [],[]=>True
 |(x,a)::r,e::s=>e.key=.int k x/\CR T w S t a e.val/\TR w S k t r s
 |_,_=>False
def TR.chg {Tc S S' w w'} (a:Chg Tc w w') (c: ∀b∈Tc,b∈S) (d: ∀b∈S',b∈S\/w.heap.size<=b) {k t}: ∀ {es l},TR T w S k t es l->TR T w' S' k t es l
 | [],[],_=>trivial
 | [],_::_,h=>h.elim
 |_::_,[],h=>h.elim
 |(_,_)::_,_::_,h=>⟨h.1,h.2.1.chg T a c d,TR.chg a c d h.2.2⟩
def DC (w:World) (S:List Nat) (e:TypeId):Cell T.U->Value->Prop
 |⟨.list t,ys⟩,v=>(e=0->yv0 T w S ⟨.list t,ys⟩ v)/\(e≠0-> ∃B ad cap a,v=.slice ad (List.length (α:=den T.U t) ys) cap/\Own w B e (szT T t) ad (List.length (α:=den T.U t) ys) cap a/\B<=w.heap.size/\CellsR T w S (List.flatMap (zc8 T t) (ys:List (den T.U t))) a)
 |c,v=>yv0 T w S c v
def zz4 (e:TypeId) (c:Cell T.U) (v:Value):List Nat:=match Nat.beq e 0 with|true=> []|false=>match c.t,v with| .list _,.slice ad _ _=>zn8 ad|_,_=> []
def vr6 (sz:Nat) (op:Option (Nat×List (AV T.U))) (j:Nat):Prop:=match op with|some (a,_)=>a*sz<=j/\j<a*sz+sz|none=>False
structure DRel (w:World) (S:List Nat) (φ:Nat->RA) (r:RA) (d:Nat) (fe:List TypeId) (xs:List (T.U d)) (op:Option (Nat×List (AV T.U))) (e:List Value):Prop where
 cl: ∀j c v,(xs.flatMap (T.cells d))[j]?=some c->e[j]?=some v-> ¬vr6 T (T.size d) op j->DC T w S (fe.getD (j%T.size d) 0) c v/\ ∀b∈zz4 T (fe.getD (j%T.size d) 0) c v,b∈r.xs/\ ∀a,r.ad=some a->a.block≠b
 ap: ∀j g c c' v h,j≠g->(xs.flatMap (T.cells d))[j]?=some c->e[j]?=some v-> ¬vr6 T (T.size d) op j->(xs.flatMap (T.cells d))[g]?=some c'->e[g]?=some h-> ¬vr6 T (T.size d) op g-> ∀b∈zz4 T (fe.getD (j%T.size d) 0) c v,b∉zz4 T (fe.getD (g%T.size d) 0) c' h
 opn: ∀a cs,op=some (a,cs)->a<xs.length/\cs.length=T.size d/\ ∀f x,cs[f]?=some x-> ∃v,e[a*T.size d+f]?=some v/\VR T w S φ x v
def EntR (w:World) (S:List Nat) (φ:Nat->RA) (i:Nat):Ent T.U->Prop
 | .blk e cs=> ∃g c,(φ i).ad=some ⟨g,0,none⟩/\Blk w g c e/\g∈S/\BR T w S φ cs c.toList
 | .row e t xs=> ∃B b,Own w B e (szT T t) (φ i).ad (φ i).n (φ i).cap b/\(φ i).n=xs.length/\B<=w.heap.size/\CellsR T w S (xs.flatMap (zc8 T t)) b/\ ∀a,(φ i).ad=some a->a.block∈S
 | .map k es=> ∃g l c,(φ i).ad=some ⟨g,0,none⟩/\Mp w g l c/\g∈S/\MR T w S φ k es l.toList
 | .tmap k t m=> ∃g l c,(φ i).ad=some ⟨g,0,none⟩/\Mp w g l c/\g∈S/\TR T w S k t m l.toList/\MapKept.Stamped l c
 | .drow e d fe xs op=> ∃B b,Own w B e (T.size d) (φ i).ad (φ i).n (φ i).cap b/\(φ i).n=xs.length/\B<=w.heap.size/\(∀a,(φ i).ad=some a->a.block∈S)/\DRel T w S φ (φ i) d fe xs op b
 | .gone=>True
def At (r:RA) (a:Addr):Prop:=r.ad=some a\/a.block∈r.xs
def DC.chg {Tc S S' w w' e c v} (d:Chg Tc w w') (i: ∀b∈Tc,b∈S) (j: ∀b∈S',b∈S\/w.heap.size<=b) (k: ∀b∈zz4 T e c v,b∉Tc) (h:DC T w S e c v):DC T w' S' e c v:=by
 obtain ⟨t,x⟩:=c;cases t with
 |list t=>
  refine ⟨fun g=>(h.1 g).chg T d i j,fun g=>?_⟩;obtain ⟨B,ad,cap,f,rfl,l,m,n⟩:=h.2 g;refine ⟨B,ad,cap,f,rfl,l.chg d ?_,U2 m d.size,n.chg T d i j⟩;have o:Nat.beq e 0=false:=by cases k:Nat.beq e 0;rfl;exact absurd (X1 k) g
  cases had:ad with
  |none=>exact .inr rfl
  |some a=>subst had;exact .inl (k _ (by simp [zz4,o,zn8,bk]))
 |_=>exact CR.chg T d i j h
def DRel.chg {Tc S S' w w' φ r d fe xs op e} (l:Chg Tc w w') (m: ∀b∈Tc,b∈S) (n: ∀b∈S',b∈S\/w.heap.size<=b) (p: ∀b∈r.xs,(∀a,r.ad=some a->a.block≠b)->b∉Tc) (h:DRel T w S φ r d fe xs op e):DRel T w' S' φ r d fe xs op e:=
 ⟨fun j c v g i k=>⟨((h.cl j c v g i k).1).chg T l m n fun b o=>p b ((h.cl j c v g i k).2 b o).1 ((h.cl j c v g i k).2 b o).2,(h.cl j c v g i k).2⟩,h.ap,
  fun a cs g=>⟨(h.opn a cs g).1,(h.opn a cs g).2.1,fun f x q=>by obtain ⟨v,i,k⟩:=(h.opn a cs g).2.2 f x q;exact ⟨v,i,k.chg T l m n⟩⟩⟩
def Ent.live {U:Nat->Type}:Ent U->Bool| .gone=>false|_=>true
def EntR.chg {Tc S S' w w' φ} (j:Chg Tc w w') (s: ∀b∈Tc,b∈S) (u: ∀b∈S',b∈S\/w.heap.size<=b) {i e} (h:EntR T w S φ i e)
  (p:e.live=true-> ∀a,At (φ i) a->a.block∉Tc/\a.block∈S'):EntR T w' S' φ i e:=by
 cases e with
 |blk e cs=>
  obtain ⟨g,c,f,o,x,q⟩:=h;obtain ⟨r,v⟩:=p rfl _ (.inl f);exact ⟨g,c,f,o.chg j r,v,q.chg T j s u⟩
 |row e t xs=>
  obtain ⟨B,n,f,y,o,x,q⟩:=h;refine ⟨B,n,?_,y,U2 o j.size,x.chg T j s u,fun a z=>(p rfl a (.inl z)).2⟩;cases hφ:(φ i).ad with
  |none=>rw [hφ] at f;exact f.chg j (.inr rfl)
  |some a=>rw [hφ] at f;exact f.chg j (.inl (p rfl a (.inl hφ)).1)
 |map k es=>
  obtain ⟨g,l,c,f,o,x,q⟩:=h;obtain ⟨r,v⟩:=p rfl _ (.inl f);exact ⟨g,l,c,f,o.chg j r,v,q.chg T j s u⟩
 |tmap k t m=>
  obtain ⟨g,l,c,f,o,x,q,A⟩:=h;obtain ⟨r,v⟩:=p rfl _ (.inl f);exact ⟨g,l,c,f,o.chg j r,v,q.chg T j s u,A⟩
 |drow e d fe xs op=>
  obtain ⟨B,n,f,y,o,q,r⟩:=h;refine ⟨B,n,?_,y,U2 o j.size,fun a z=>(p rfl a (.inl z)).2,r.chg T j s u fun b C _=>(p rfl ⟨b,0,none⟩ (.inr C)).1⟩;cases hφ:(φ i).ad with
  |none=>rw [hφ] at f;exact f.chg j (.inr rfl)
  |some a=>rw [hφ] at f;exact f.chg j (.inl (p rfl a (.inl hφ)).1)
 |gone=>trivial
def wu0 {U:Nat->Type}:Option (Nat×List (AV U))->List Nat|some (_,cs)=>v5 cs|none=> []
def ks2 {U:Nat->Type} (ρ:Nat->Nat):Option (Nat×List (AV U))->Option (Nat×List (AV U))|some (a,cs)=>some (a,zj9 ρ cs)|none=>none
def vb4 {U:Nat->Type} {ρ:Nat->Nat} {x:AV U}: ∀ {cs:List (AV U)} {f:Nat},(zj9 ρ cs)[f]?=some x-> ∃y,cs[f]?=some y/\x=y.ren ρ
 | [],f,h=>by simp [zj9] at h
 |a::r,0,h=>by simp [zj9] at h;exact ⟨a,rfl,h.symm⟩
 |a::r,f+1,h=>by simp [zj9] at h;simpa using vb4 h
def qw1 {U ρ}: ∀(cs:List (AV U)),(zj9 ρ cs).length=cs.length
 | []=>rfl
 |a::r=>by simp [zj9,qw1 r]
def vu1 {U:Nat->Type} {i:Nat} {x:AV U}: ∀ {cs:List (AV U)} {f:Nat},cs[f]?=some x->i∈x.ids->i∈v5 cs
 | [],f,h,_=>by simp at h
 |a::r,0,h,b=>by simp at h;subst h;rw [v5];exact X4.2 (.inl b)
 |a::r,f+1,h,b=>by simp at h;rw [v5];exact X4.2 (.inr (vu1 h b))
def js4 {sz j ρ} (op):vr6 T sz (ks2 ρ op) j↔vr6 T sz op j:=by cases op<;>exact Iff.rfl
def DRel.renS {w S φ φ' ρ r d fe xs op b} (t: ∀k∈wu0 op,RSame (φ' (ρ k)) (φ k)) (h:DRel T w S φ r d fe xs op b):DRel T w S φ' r d fe xs (ks2 ρ op) b:=by
 refine ⟨fun j c v g l m=>h.cl j c v g l fun q=>m ((js4 T op).2 q),fun j u c c' v z A g l m n o B=>h.ap j u c c' v z A g l (fun q=>m ((js4 T op).2 q)) n o fun q=>B ((js4 T op).2 q),fun a cs e=>?_⟩;cases op with
 |none=>cases e
 |some p=>
  obtain ⟨F,C⟩:=p;simp only [ks2,X0,X7] at e;obtain ⟨rfl,rfl⟩:=e;obtain ⟨g,l,m⟩:=h.opn _ _ rfl;refine ⟨g,by rw [qw1];exact l,fun f x D=>?_⟩;obtain ⟨y,s,rfl⟩:=vb4 D;obtain ⟨v,n,o⟩:=m f y s;exact ⟨v,n,o.renS T fun i E=>t i (vu1 s E)⟩
end
end Go.X
namespace Go.X
open Go.RowKit Go.V
section
variable (T:Tab) (P:Program)
abbrev AF:=List (Nat×AV T.U)
def AF.get:AF T->Nat->Option (AV T.U)
 | [],_=>none
 |(j,v)::r,i=>match Nat.beq j i with|true=>some v|false=>AF.get r i
def zb2 (F:AF T) (dst:Option Tmp) (v:AV T.U):AF T:=match dst with|some d=>(d,v)::F|none=>F
structure St where
 F:AF T
 H:List (Ent T.U)
def yw8:Value->AV T.U
 | .int k x=>.cell ⟨.int k,x⟩
 | .bool b=>.cell ⟨.bool,b⟩
 | .string s=>.cell ⟨.str,s⟩
 |v=>.raw v
def ofV:Value->AV T.U
 | .agg cs=>.agg (cs.toList.map (yw8 T))
 |v=>yw8 T v
def aev (F:AF T):Operand->Option (AV T.U)
 | .tmp t=>F.get T t
 | .const v=>some (ofV T v)
 | .func f=>some (.fn (.func f) [] [])
 | .global _=>none
def zx1 (F:AF T):List Operand->Option (List (AV T.U))
 | []=>some []
 |x::r=>match aev T F x,zx1 F r with|some a,some l=>some (a::l)|_,_=>none
def kn7:AV T.U->Option Value
 | .cell ⟨.int k,x⟩=>some (.int k x)
 | .cell ⟨.bool,b⟩=>some (.bool b)
 | .cell ⟨.str,s⟩=>some (.string s)
 | .raw v=>some v
 |_=>none
def vg6:List (AV T.U)->Option (List Value)
 | []=>some []
 |a::r=>match kn7 T a,vg6 r with|some v,some l=>some (v::l)|_,_=>none
def wp9:AV T.U->Option Value
 | .agg cs=>match vg6 T cs with|some l=>some (.agg l.toArray)|none=>none
 |a=>kn7 T a
abbrev cI (k:IntKind) (x:Int):AV T.U:=.cell ⟨.int k,x⟩
abbrev cB (b:Bool):AV T.U:=.cell ⟨.bool,b⟩
def wz8 (b:BinOp) (k:IntKind) (x y:Int):Option (AV T.U):=
 match b with
 | .add=>some (cI T k (k.wrap (x+y)))
 | .sub=>some (cI T k (k.wrap (x-y)))
 | .mul=>some (cI T k (k.wrap (x*y)))
 | .and=>some (cI T k (g9 k x y))
 | .or=>some (cI T k (bOr k x y))
 | .xor=>some (cI T k (yl9 k x y))
 | .andNot=>some (cI T k (vx4 k x y))
 | .eql=>some (cB T (x==y))
 | .neq=>some (cB T (x != y))
 | .lss=>some (cB T (decide (x<y)))
 | .leq=>some (cB T (decide (x<=y)))
 | .gtr=>some (cB T (decide (x>y)))
 | .geq=>some (cB T (decide (x>=y)))
 |_=>none
def zi2 (a b:IntKind):Bool:=match a,b with
 | .i8,.i8| .i16,.i16| .i32,.i32| .i64,.i64| .u8,.u8| .u16,.u16| .u32,.u32| .u64,.u64=>true
 |_,_=>false
def wo8 (t:TypeId) (b:Bool):AV T.U->AV T.U->Option Bool
 | .raw n,a=>match P.underlying t with
  |some (.pointer _)=>match n with
   | .pointer none=>(match a with| .raw (.pointer none)=>some true| .ptr _ _=>some false| .eptr _ _ _ _=>some false| .lptr _ _ _ _=>some false| .aptr _ _ _ _ _ _=>some false|_=>none)
   |_=>none
  |some (.func _ _ _)=>match n with
   | .nilFunc=>(match a with| .raw .nilFunc=>some true| .fn _ _ _=>some false|_=>none)
   |_=>none
  |some (.interface c)=>match n with
   | .nilIface=>(match a with| .ifc _ _=>some false| .raw .nilIface=>(match b||c.isEmpty with|true=>some true|false=>none)|_=>none)
   |_=>none
  |some (.map _ _)=>match n with
   | .map none=>(match a with| .raw (.map none)=>some true| .mp _=>some false|_=>none)
   |_=>none
  |some (.slice _)=>match n with
   | .slice none _ _=>(match a with| .raw (.slice none _ _)=>some true| .asl _ _ _ _ _ _=>some false|_=>none)
   |_=>none
  |_=>none
 |_,_=>none
def zc0 (neg r:Bool):Bool:=match neg with|true=> !r|false=>r
def eqA (t:TypeId) (c:Bool) (a b:AV T.U) (neg:Bool):Option (AV T.U):=
 match wo8 T P t c a b with
 |some r=>some (cB T (zc0 neg r))
 |none=>match wo8 T P t c b a with
 |some r=>some (cB T (zc0 neg r))
 |none=>match wp9 T a,wp9 T b with
 |some (.bool x),some (.bool y)=>match eqB P 10000 t (.bool x) (.bool y) with|some r=>some (cB T (match neg with|true=> !r|false=>r))|none=>none
 |some (.agg x),some (.agg y)=>let x:=Value.agg x;let y:=Value.agg y;match P.eqGuardType P.depth t with
  |false=>match eqB P 10000 t x y with|some r=>some (cB T (match neg with|true=> !r|false=>r))|none=>none
  |true=>none
 |_,_=>none
def jp0:Operand->Bool| .const _=>true|_=>false
def wm7 (b:BinOp) (t:TypeId) (a:Bool) (x y:AV T.U):Option (AV T.U):=
 match b,x,y with
 |b,.cell ⟨.int k,x⟩,.cell ⟨.int c,y⟩=>match zi2 k c with|true=>wz8 T b k x y|false=>none
 | .eql,.cell ⟨.str,x⟩,.cell ⟨.str,y⟩=>some (cB T (ByteArray.toList x==ByteArray.toList y))
 | .neq,.cell ⟨.str,x⟩,.cell ⟨.str,y⟩=>some (cB T (!(ByteArray.toList x==ByteArray.toList y)))
 | .eql,x,y=>eqA T P t a x y false
 | .neq,x,y=>eqA T P t a x y true
 |_,_,_=>none
def unI (u:UnOp) (k:IntKind) (x:Int):Option (AV T.U):=match u with| .neg=>some (cI T k (k.wrap (0-x)))| .xor=>some (cI T k (yl9 k (if k.signed then-1 else k.max) x))|_=>none
def unA (u:UnOp):AV T.U->Option (AV T.U)
 | .cell ⟨.int k,x⟩=>unI T u k x
 | .cell ⟨.bool,b⟩=>match u with| .not=>some (cB T (!b))|_=>none
 |_=>none
def qr0 (t:TypeId) (j:Nat):Option (TypeId×Nat×Nat×Bool):=
 match P.underlying t with
 |some (.struct a)=>match a[j]? with
  |some f=>match P.info? f.type,P.underlying f.type with|some i,some d=>some (f.type,f.offset,i.size,ye9 d)|_,_=>none
  |none=>none
 |_=>none
def jz1 (cs:List (AV T.U)) (o n:Nat) (agg:Bool):Option (AV T.U):=
 match agg with
 |true=>match Nat.ble (o+n) cs.length with|true=>some (.agg ((cs.drop o).take n))|false=>none
 |false=>cs[o]?
def qm9 (t:TypeId) (j:Nat):AV T.U->Option (AV T.U)
 | .agg cs=>match qr0 P t j with|some (_,o,n,a)=>jz1 T cs o n a|none=>none
 |_=>none
def ze9:AV T.U->List (AV T.U)
 | .agg cs=>cs
 |a=> [a]
def yk8 (cs:List (AV T.U)) (o:Nat):List (AV T.U)->List (AV T.U)
 | []=>cs
 |a::r=>yk8 (cs.set o a) (o+1) r
def uc0:AV T.U->Option Int
 | .cell ⟨.int _,x⟩=>some x
 |_=>none
def zag0 (c:Bool) (x y:Int):Int:=if c=true then x else y
def zak9 (c:Bool) (x y:Bool):Bool:=if c=true then x else y
def gv3 (c:Bool):AV T.U->AV T.U->Option (AV T.U)
 | .cell ⟨.int k,x⟩,.cell ⟨.int a,y⟩=>match zi2 k a with|true=>some (cI T k (zag0 c x y))|false=>none
 | .cell ⟨.bool,x⟩,.cell ⟨.bool,y⟩=>some (cB T (zak9 c x y))
 |_,_=>none
def placeP (f:Field):Option (Nat×Nat):=match P.info? f.type with|some i=>some (f.offset,i.size)|none=>none
def wj0 {α a:Type} (f:α->Option a):List α->Option (List a)
 | []=>some []
 |x::r=>match f x,wj0 f r with|some y,some l=>some (y::l)|_,_=>none
def zd8 (t:TypeId):Option (List (Nat×Nat)):=
 match P.underlying t with
 |some (.struct a)=>wj0 (placeP P) a.toList
 |_=>none
def gg7 (t:TypeId):Option (Nat->Option (Nat×Nat)):=
 match P.underlying t with
 |some (.struct _)=>match zd8 P t with|some a=>some (fun i=>a[i]?)|none=>none
 |some (.array _ e)=>match P.info? e with|some i=>some (fun k=>some (k*i.size,i.size))|none=>none
 |_=>none
def zy1:AV T.U->Bool
 | .agg _=>false| .tup _=>false| .eptr _ _ _ _=>false| .lptr _ _ _ _=>false| .raw (.agg _)=>false| .raw (.tuple _)=>false| .arr _ _ _=>false
 |_=>true
def yd3:AV T.U->Bool
 | .agg _=>true
 |a=>zy1 T a
def ja6 (b:Nat->Option (Nat×Nat)) (cs:List (AV T.U)):List (Nat×AV T.U)->Option (List (AV T.U))
 | []=>some cs
 |(i,a)::r=>match b i with
  |some (o,n)=>match yd3 T a&&(Nat.beq (ze9 T a).length n&&Nat.ble (o+(ze9 T a).length) cs.length) with
   |true=>ja6 b (yk8 T cs o (ze9 T a)) r
   |false=>none
  |none=>none
def qn8 (e:TypeId):Option (List (AV T.U)):=match qn0 P e with|some c=>some (c.toList.map (yw8 T))|none=>none
def yc8 (F:AF T):List (Nat×Operand)->Option (List (Nat×AV T.U))
 | []=>some []
 |(i,x)::r=>match aev T F x,yc8 F r with|some a,some l=>some ((i,a)::l)|_,_=>none
def minA:List (AV T.U)->Option (AV T.U)
 | [.cell ⟨.int k,x⟩]=>some (cI T k x)
 | [.cell ⟨.int k,x⟩,.cell ⟨.int a,y⟩]=>match zi2 k a with|true=>some (cI T k (zo7 x y))|false=>none
 |_=>none
def maxA:List (AV T.U)->Option (AV T.U)
 | [.cell ⟨.int k,x⟩]=>some (cI T k x)
 | [.cell ⟨.int k,x⟩,.cell ⟨.int a,y⟩]=>match zi2 k a with|true=>some (cI T k (zh7 x y))|false=>none
 |_=>none
def gs3 (t:TypeId):Option IntKind:=match P.underlying t with|some (.int k)=>some k|_=>none
def vf7 (a:AV T.U) (f:Nat):Option (AV T.U):=
 match a with
 | .ptr i o=>some (.ptr i (o+f))
 | .eptr i sz k c=>some (.eptr i sz k (c+f))
 | .lptr e xs k c=>some (.lptr e xs k (c+f))
 | .aptr i o sz n k c=>some (.aptr i o sz n k (c+f))
 |_=>none
def jq5 (o:Op) (F:AF T):Option (AV T.U):=
 match o with
 | .move x=>aev T F x
 | .assign x=>aev T F x
 | .binOp b t x y _=>match aev T F x,aev T F y with|some a,some c=>wm7 T P b t (jp0 x||jp0 y) a c|_,_=>none
 | .unOp u _ x=>match aev T F x with|some a=>unA T u a|none=>none
 | .convert s d x=>match aev T F x,gs3 P d,P.underlying s with|some (.cell ⟨.int _,x⟩),some k,some _=>some (cI T k (k.wrap x))|_,_,_=>none
 | .extract x i=>match aev T F x with|some (.tup vs)=>vs[i]?|_=>none
 | .field t x j=>match aev T F x with|some a=>qm9 T P t j a|none=>none
 | .makeInterface t x=>match aev T F x,P.underlying t with
  |some a,some d=>(match d with| .interface _=>none|_=>some (.ifc t a))
  |_,_=>none
 | .makeFunc f a b=>match zx1 T F a.toList,zx1 T F b.toList with|some x,some y=>some (.fn f x y)|_,_=>none
 | .build t e=>match gg7 P t,qn8 T P t,yc8 T F e.toList with
  |some g,some z,some l=>(match ja6 T g z l with|some cs=>some (.agg cs)|none=>none)
  |_,_,_=>none
 | .fieldAddr t x j=>match aev T F x,qr0 P t j with
  |some a,some (_,f,n,_)=>(match Nat.beq n 0 with|true=>none|false=>vf7 T a f)
  |_,_=>none
 |_=>none
def divA {R:Type} (b:BinOp) (x y:AV T.U) (K:AV T.U->Option R):Option R:=
 match b,x,y with
 | .quo,.cell ⟨.int k,x⟩,.cell ⟨.int a,y⟩=>match zi2 k a with|true=>divI k x y K|false=>none
 | .rem,.cell ⟨.int k,x⟩,.cell ⟨.int a,y⟩=>match zi2 k a with|true=>remI k x y K|false=>none
 | .shl,.cell ⟨.int k,x⟩,.cell ⟨.int _,y⟩=>shlI k x y K
 | .shr,.cell ⟨.int k,x⟩,.cell ⟨.int _,y⟩=>shrI k x y K
 |_,_,_=>none
where
 divI {R:Type} (k:IntKind) (x y:Int) (K:AV T.U->Option R):Option R:=if y=0 then none else K (cI T k (k.wrap (x.tdiv y)))
 remI {R:Type} (k:IntKind) (x y:Int) (K:AV T.U->Option R):Option R:=if y=0 then none else K (cI T k (x.tmod y))
 shlI {R:Type} (k:IntKind) (x y:Int) (K:AV T.U->Option R):Option R:=if y<0 then none else K (cI T k (zr4 k x y))
 shrI {R:Type} (k:IntKind) (x y:Int) (K:AV T.U->Option R):Option R:=if y<0 then none else K (cI T k (za6 k x y))
def jh9 {R:Type} (s:ByteArray) (j:Int) (K:Int->Option R):Option R:=match (if 0<=j then s[j.toNat]? else none) with|some b=>K (b.toNat:Int)|none=>none
def lenA (H:List (Ent T.U)):AV T.U->Option Nat
 | .cell ⟨.list _,xs⟩=>some (List.length (α:=den T.U _) xs)
 | .own i=>match H[i]? with|some (.row _ _ xs)=>some xs.length|some (.drow _ _ _ xs _)=>some xs.length|_=>none
 | .sl _ _ _ n=>some n
 | .asl _ _ _ _ _ m=>some m
 | .raw (.slice none 0 0)=>some 0
 |_=>none
section
variable {R:Type}
def zt5 (t:TypeId) (cs:List (AV T.U)) (o:Nat):Option (AV T.U):=
 match P.info? t,P.underlying t with
 |some i,some d=>jz1 T cs o i.size (ye9 d)
 |_,_=>none
def jf8:List (AV T.U)->Nat->Option (List (AV T.U))
 | [],_=>none
 |a::r,o=>match Nat.beq o 0 with
  |true=>some (a::r)
  |false=>match Nat.ble (wd T a) o with|true=>jf8 r (o-wd T a)|false=>none
def yz1 (f:List (AV T.U)->Option (List (AV T.U))):List (AV T.U)->Nat->Option (List (AV T.U))
 | [],o=>match Nat.beq o 0 with|true=>f []|false=>none
 |a::r,o=>match Nat.beq o 0 with
  |true=>f (a::r)
  |false=>match Nat.ble (wd T a) o with
   |true=>(match yz1 f r (o-wd T a) with|some l=>some (a::l)|none=>none)
   |false=>none
def jl5 {U:Nat->Type}:AV U->Option ((t:Ty)×Nat×List (den U t))| .arr t n xs=>some ⟨t,n,xs⟩|_=>none
def gn9 (cs:List (AV T.U)) (o n:Nat) (agg:Bool):Option (AV T.U):=
 match jf8 T cs o with
 |some (a::r)=>match agg with
  |false=>match zb1 T a with|true=>some a|false=>none
  |true=>match jl5 a with
   |some ⟨t,m,xs⟩=>match Nat.beq (m*szT T t) n with|true=>some (.arr t m xs)|false=>none
   |none=>match Nat.ble n (r.length+1)&&((a::r).take n).all (zb1 T) with|true=>some (.agg ((a::r).take n))|false=>none
 |_=>none
def jh7 (t:TypeId) (cs:List (AV T.U)) (o:Nat):Option (AV T.U):=
 match P.info? t,P.underlying t with
 |some i,some d=>gn9 T cs o i.size (ye9 d)
 |_,_=>none
def zg5 (t:TypeId):Option (Nat×Nat):=
 match P.underlying t with
 |some (.array n e)=>match P.info? e with|some i=>some (n,i.size)|none=>none
 |_=>none
def putOnes:List (AV T.U)->List (AV T.U)->Option (List (AV T.U))
 |cs,[]=>some cs
 | [],_::_=>none
 |a::r,b::l=>match zb1 T a&&zb1 T b with|true=>(match putOnes r l with|some s=>some (b::s)|none=>none)|false=>none
def qm8 (t:Ty) (n:Nat) (xs:List (den T.U t)):List (AV T.U)->Option (List (AV T.U))
 |a::r=>match jl5 a with
  |some ⟨b,c,_⟩=>match Nat.beq c n&&Nat.beq (szT T b) (szT T t) with|true=>some (.arr t n xs::r)|false=>none
  |none=>none
 | []=>none
def zv6 (t:Ty) (x:den T.U t):List (AV T.U):=(zc8 T t x).map .cell
def loadA (t:TypeId) (H:List (Ent T.U)):AV T.U->Option (AV T.U)
 | .ptr i o=>match H[i]? with|some (.blk _ cs)=>(match jh7 T P t cs o with|some (.eptr _ _ _ _)=>none|r=>r)|_=>none
 | .aptr i o sz n k c=>match H[i]? with
  |some (.blk _ cs)=>match jf8 T cs o with
   |some (a::_)=>match jl5 a with
    |some ⟨ty,b,xs⟩=>match Nat.beq b n&&Nat.beq (szT T ty) sz with|true=>zt5 T P t (zv6 T ty (xs.getD k (yb3 T ty))) c|false=>none
    |none=>none
   |_=>none
  |_=>none
 | .eptr i _ k c=>match H[i]? with|some (.row _ ty xs)=>zt5 T P t (zv6 T ty (xs.getD k (yb3 T ty))) c|_=>none
 | .lptr e xs k c=>zt5 T P t (zv6 T e (xs.getD k (yb3 T e))) c
 |_=>none
def qn1:AV T.U->Option (Cell T.U)
 | .cell c=>some c
 |_=>none
def cellsOf:List (AV T.U)->Option (List (Cell T.U))
 | []=>some []
 |a::r=>match qn1 T a,cellsOf r with|some c,some l=>some (c::l)|_,_=>none
def go5 (cs:List (Cell T.U)) (o:Nat):List (Cell T.U)->List (Cell T.U)
 | []=>cs
 |a::r=>go5 (cs.set o a) (o+1) r
def jy7 (t:TypeId) (o n:Nat) (a:AV T.U):Bool:=
 match P.info? t with
 |some i=>yd3 T a&&(Nat.beq (ze9 T a).length i.size&&(Nat.ble (o+i.size) n&&(ze9 T a).all (zy1 T)))
 |none=>false
def ql3 (n sz k c:Nat) (l:List (Cell T.U)):List (AV T.U)->Option (List (AV T.U))
 |a::r=>match jl5 a with
  |some ⟨ty,b,xs⟩=>match Nat.beq b n&&(Nat.beq (szT T ty) sz&&Nat.ble (c+l.length) sz) with
   |true=>match yt3 T ty (go5 T (zc8 T ty (xs.getD k (yb3 T ty))) c l) with|some y=>some (.arr ty b (xs.set k y)::r)|none=>none
   |false=>none
  |none=>none
 | []=>none
def jm8 (ty:Ty):Nat->List (AV T.U)->Option (List (den T.U ty))
 |0,[]=>some []
 |0,_=>none
 |n+1,cs=>match cellsOf T (cs.take (szT T ty)) with
  |some l=>match yt3 T ty l,jm8 ty n (cs.drop (szT T ty)) with|some x,some r=>some (x::r)|_,_=>none
  |none=>none
def vp0 (b:List (AV T.U)):List (AV T.U)->Option (List (AV T.U))
 |a::r=>match jl5 a with
  |some ⟨t,n,_⟩=>match jm8 T t n b with|some xs=>qm8 T t n xs (a::r)|none=>none
  |none=>none
 | []=>none
def wl8 (a l:List (AV T.U)):Option (List (AV T.U)):=match putOnes T l a with|some r=>some r|none=>vp0 T a l
def jx2 (t:TypeId) (cs:List (AV T.U)) (o:Nat) (a:AV T.U):Option (List (AV T.U)):=
 match jl5 a with
 |some ⟨ty,n,xs⟩=>match P.info? t with
  |some i=>match Nat.beq (n*szT T ty) i.size with|true=>yz1 T (qm8 T ty n xs) cs o|false=>none
  |none=>none
 |none=>match jy7 T P t 0 (ze9 T a).length a with|true=>yz1 T (wl8 T (ze9 T a)) cs o|false=>none
def jk2 (t:TypeId) (H:List (Ent T.U)) (p a:AV T.U):Option (List (Ent T.U)):=
 match p with
 | .ptr i o=>match H[i]? with
  |some (.blk e cs)=>match jx2 T P t cs o a with|some b=>some (H.set i (.blk e b))|none=>none
  |_=>none
 | .aptr i o sz n k c=>match H[i]? with
  |some (.blk e cs)=>match jy7 T P t 0 (ze9 T a).length a,cellsOf T (ze9 T a) with
   |true,some l=>(match yz1 T (ql3 T n sz k c l) cs o with|some b=>some (H.set i (.blk e b))|none=>none)
   |_,_=>none
  |_=>none
 | .eptr i _ k c=>match H[i]? with
  |some (.row e ty xs)=>match jy7 T P t c (szT T ty) a,cellsOf T (ze9 T a) with
   |true,some l=>match yt3 T ty (go5 T (zc8 T ty (xs.getD k (yb3 T ty))) c l) with|some y=>some (H.set i (.row e ty (xs.set k y)))|none=>none
   |_,_=>none
  |_=>none
 |_=>none
structure Elems where
 ty:TypeId->Option Ty
def yw9 (t:TypeId) (e:Ty):Bool:=match ya4 P t with|some s=>Nat.beq s (szT T e)|none=>false
def yc2 (t:TypeId) (H:List (Ent T.U)) (s:AV T.U) (j:Int) (K:AV T.U->Option R):Option R:=
 match s with
 | .cell ⟨.list e,xs⟩=>match yw9 T P t e with
  |true=>if 0<=j/\j<((List.length (α:=den T.U e) xs:Nat):Int) then K (.lptr e xs j.toNat 0) else none
  |false=>none
 | .own i=>match H[i]? with
  |some (.row _ ty xs)=>match yw9 T P t ty with
   |true=>if 0<=j/\j<((xs.length:Nat):Int) then K (.eptr i (szT T ty) j.toNat 0) else none
   |false=>none
  |_=>none
 | .sl i sz o n=>match H[i]? with
  |some (.row _ ty xs)=>match yw9 T P t ty,Nat.beq sz (szT T ty) with
   |true,true=>if 0<=j/\j<((n:Nat):Int) then (if o+j.toNat<xs.length then K (.eptr i sz (o+j.toNat) 0) else none) else none
   |_,_=>none
  |some (.blk _ _)=>match ya4 P t with
   |some s=>match Nat.beq s sz with
    |true=>if 0<=j/\j<((n:Nat):Int) then K (.ptr i ((o+j.toNat)*sz)) else none
    |false=>none
   |none=>none
  |_=>none
 | .asl i o sz n a m=>match ya4 P t with
  |some s=>match Nat.beq s sz with
   |true=>if 0<=j/\j<((m:Nat):Int) then K (.aptr i o sz n (a+j.toNat) 0) else none
   |false=>none
  |none=>none
 |_=>none
def yh5 (n sz:Nat) (H:List (Ent T.U)) (s:AV T.U) (j:Int) (K:AV T.U->Option R):Option R:=
 match s with
 | .ptr i o=>match H[i]? with
  |some (.blk _ cs)=>match jf8 T cs o with
   |some (a::_)=>match jl5 a with
    |some ⟨ty,m,_⟩=>match Nat.beq m n&&Nat.beq (szT T ty) sz with
     |true=>if 0<=j/\j<((n:Nat):Int) then K (.aptr i o sz n j.toNat 0) else none
     |false=>none
    |none=>if 0<=j/\j<((n:Nat):Int) then K (.ptr i (o+j.toNat*sz)) else none
   |_=>none
  |_=>none
 | .lptr e xs k c=>match Nat.beq (szT T e) sz&&Nat.beq c 0 with
  |true=>if 0<=j/\j<((n:Nat):Int) then (if k+j.toNat<List.length (α:=den T.U e) xs then K (.lptr e xs (k+j.toNat) 0) else none) else none
  |false=>none
 | .eptr i s k c=>match H[i]? with
  |some (.row _ ty xs)=>match Nat.beq (szT T ty) sz&&(Nat.beq s sz&&Nat.beq c 0) with
   |true=>if 0<=j/\j<((n:Nat):Int) then (if k+j.toNat<xs.length then K (.eptr i sz (k+j.toNat) 0) else none) else none
   |false=>none
  |_=>none
 |_=>none
def yr5 (n sz:Nat) (H:List (Ent T.U)) (s:AV T.U) (b d:Option Int) (K:AV T.U->Option R):Option R:=
 let l:=b.getD 0
 let h:=d.getD ((n:Nat):Int)
 match s with
 | .ptr i o=>match H[i]? with
  |some (.blk _ cs)=>match jf8 T cs o with
   |some (a::_)=>match jl5 a with
    |some ⟨ty,m,_⟩=>match Nat.beq m n&&Nat.beq (szT T ty) sz with
     |true=>if 0<=l/\l<=h/\h<=((n:Nat):Int) then K (.asl i o sz n l.toNat (h.toNat-l.toNat)) else none
     |false=>none
    |none=>none
   |_=>none
  |_=>none
 | .lptr e xs k c=>match Nat.beq (szT T e) sz&&(Nat.beq c 0&&Nat.beq k 0) with
  |true=>if n<=List.length (α:=den T.U e) xs then (if 0<=l/\l<=h/\h<=((n:Nat):Int) then K (.cell ⟨.list e,(List.take (h.toNat-l.toNat) (List.drop l.toNat (xs:List (den T.U e))))⟩) else none) else none
  |false=>none
 |_=>none
def yr7 (n sz:Nat) (H:List (Ent T.U)) (s:AV T.U) (K:AV T.U->Option R):Option R:=
 match s with
 | .cell ⟨.list e,xs⟩=>match Nat.beq (szT T e) sz&&Nat.ble 1 n with
  |true=>if n<=List.length (α:=den T.U e) xs then K (.lptr e xs 0 0) else none
  |false=>none
 | .own i=>match H[i]? with
  |some (.row _ ty xs)=>match Nat.beq (szT T ty) sz&&Nat.ble 1 n with
   |true=>if n<=xs.length then K (.eptr i sz 0 0) else none
   |false=>none
  |_=>none
 |_=>none
def yq7 (n sz:Nat) (a:Bool) (H:List (Ent T.U)) (s:AV T.U) (K:AV T.U->Option R) (D:Option R):Option R:=
 match s with
 | .lptr e xs k c=>match a&&(Nat.beq (szT T e) sz&&Nat.beq c 0) with
  |true=>if k+n<=List.length (α:=den T.U e) xs then K (.arr e n (List.take n (List.drop k (xs:List (den T.U e))))) else none
  |false=>D
 | .eptr i s k c=>match H[i]? with
  |some (.row _ ty xs)=>match a&&(Nat.beq (szT T ty) sz&&(Nat.beq s sz&&Nat.beq c 0)) with
   |true=>if k+n<=xs.length then K (.arr ty n (List.take n (List.drop k xs))) else none
   |false=>D
  |_=>D
 |_=>D
def eIs (t:TypeId) (e:Ty):Bool:=match zy4 P t with|some (_,sz,_,_)=>Nat.beq sz (szT T e)|none=>false
def yh4 (t:TypeId) (H:List (Ent T.U)) (s:AV T.U) (a b:Option Int) (K:AV T.U->Option R):Option R:=
 match s with
 | .cell ⟨.list e,xs⟩=>
  let n:=List.length (α:=den T.U e) xs
  let l:=a.getD 0
  let h:=b.getD ((n:Nat):Int)
  match eIs T P t e with
  |true=>if 0<=l/\l<=h/\h<=((n:Nat):Int) then K (.cell ⟨.list e,(List.take (h.toNat-l.toNat) (List.drop l.toNat (xs:List (den T.U e))))⟩) else none
  |false=>none
 | .own i=>match H[i]? with
  |some (.row _ ty xs)=>
   let l:=a.getD 0
   let h:=b.getD ((xs.length:Nat):Int)
   match eIs T P t ty with
   |true=>if 0<=l/\l<=h/\h<=((xs.length:Nat):Int) then K (.sl i (szT T ty) l.toNat (h.toNat-l.toNat)) else none
   |false=>none
  |_=>none
 | .sl i sz o n=>match H[i]? with
  |some (.row _ ty xs)=>
   let l:=a.getD 0
   let h:=b.getD ((n:Nat):Int)
   match eIs T P t ty,Nat.beq sz (szT T ty) with
   |true,true=>if 0<=l/\l<=h/\(h<=((n:Nat):Int)\/(((o:Nat):Int)+h<=((xs.length:Nat):Int)/\(o=0\/0<n))) then K (.sl i sz (o+l.toNat) (h.toNat-l.toNat)) else none
   |_,_=>none
  |_=>none
 | .asl i o sz n c m=>
  let l:=a.getD 0
  let h:=b.getD ((m:Nat):Int)
  match zy4 P t with
  |some (_,s,_,_)=>match Nat.beq s sz with
   |true=>if 0<=l/\l<=h/\((c:Nat):Int)+h<=((n:Nat):Int) then K (.asl i o sz n (c+l.toNat) (h.toNat-l.toNat)) else none
   |false=>none
  |none=>none
 |_=>none
def vp1 (ty:Ty) (t:TypeId) (len:Nat) (a:List (Nat×AV T.U)):Option (TypeId×List (den T.U ty)):=
 match zy4 P t with
 |some (e,sz,_,b)=>match Nat.beq sz (szT T ty)&&(Nat.ble 1 sz&&Nat.ble (len*sz) 16777216) with
  |true=>match ja6 T (fun j=>some (j*sz,sz)) ((List.range (len*sz)).map fun j=>yw8 T (b[j%sz]!)) a with
   |some cs=>match jm8 T ty len cs with|some xs=>some (e,xs)|none=>none
   |none=>none
  |false=>none
 |none=>none
def vo8 (t:TypeId) (len:Nat) (a:List (Nat×AV T.U)):Option (TypeId×Nat×List (AV T.U)):=
 match zy4 P t with
 |some (e,sz,_,b)=>match Nat.ble 1 sz&&Nat.ble (len*sz) 16777216 with
  |true=>match ja6 T (fun j=>some (j*sz,sz)) ((List.range (len*sz)).map fun j=>yw8 T (b[j%sz]!)) a with
   |some cs=>match cs.all (zb1 T) with|true=>some (e,sz,cs)|false=>none
   |none=>none
  |false=>none
 |none=>none
def ys5 (t:TypeId) (H:List (Ent T.U)) (s:AV T.U) (K:AV T.U->List (Ent T.U)->Option R):Option R:=
 match s with
 | .mp i=>match H[i]?,P.underlying t with
  |some (.tmap k ty _),some (.map _ _)=>K (.tup []) (H.set i (.tmap k ty []))
  |_,_=>none
 | .sl i sz o n=>match H[i]? with
  |some (.row e ty xs)=>match zy4 P t with
   |some (_,s,_,a)=>match Nat.beq s (szT T ty)&&Nat.beq sz (szT T ty),cellsOf T (a.toList.map (yw8 T)) with
    |true,some z=>match yt3 T ty z with
     |some b=>if o+n<=xs.length then K (.tup []) (H.set i (.row e ty (xs.take o++(List.replicate n b++xs.drop (o+n))))) else none
     |none=>none
    |_,_=>none
   |none=>none
  |_=>none
 |_=>none
def wk7 (x y:Int):Bool:=x==y
def eqBB (x y:Bool):Bool:=x==y
def vo4:AV T.U->AV T.U->Bool
 | .cell ⟨.int k,x⟩,.cell ⟨.int c,y⟩=>zi2 k c&&wk7 x y
 | .cell ⟨.bool,a⟩,.cell ⟨.bool,b⟩=>eqBB a b
 |_,_=>false
def jy2:List (AV T.U)->List (AV T.U)->Option (List (AV T.U))
 | [],r=>some r
 |_::_,[]=>none
 |a::z,b::r=>match vo4 T a b with|true=>jy2 z r|false=>none
def jy8 (z:List (AV T.U)):Nat->List (AV T.U)->Bool
 |0,r=>r.isEmpty
 |n+1,r=>match jy2 T z r with|some s=>jy8 z n s|none=>false
def gx2 (t:Ty) (n:Nat) (as:List (AV T.U)):Option (List (den T.U t)):=
 match cellsOf T (as.take (szT T t)) with
 |some l=>match yt3 T t l with
  |some x=>match jy8 T (as.take (szT T t)) n as with|true=>some (List.replicate n x)|false=>jm8 T t n as
  |none=>none
 |none=>none
abbrev Lay:=List (Option (Ty×Nat))
def yx7:Lay->List (AV T.U)->Option (List (AV T.U))
 | [],as=>match as with| []=>some []|_::_=>none
 |none::r,as=>match as with
  |a::s=>match zb1 T a with|true=>(match yx7 r s with|some l=>some (a::l)|none=>none)|false=>none
  | []=>none
 |some (t,n)::r,as=>match gx2 T t n (as.take (n*szT T t)),yx7 r (as.drop (n*szT T t)) with|some xs,some l=>some (.arr t n xs::l)|_,_=>none
def wk3 (a:Option Lay) (as:List (AV T.U)):Option (List (AV T.U)):=
 match a with
 |none=>match as.all (zb1 T) with|true=>some as|false=>none
 |some l=>yx7 T l as
def boxA (b:Option Lay) (a:AV T.U):Option (List (AV T.U)):=
 match jl5 a with
 |some _=>some [a]
 |none=>match yd3 T a with|true=>wk3 T b (ze9 T a)|false=>none
def appA (ty:Ty) (t:TypeId) (H:List (Ent T.U)) (s x:AV T.U) (K:AV T.U->List (Ent T.U)->Option R):Option R:=
 match zy4 P t with
 |some (e,sz,a,_)=>match Nat.beq sz (szT T ty)&&(Nat.ble 1 sz&&(Nat.ble 1 a&&eOk e H s)) with
  |true=>match rowIn ty H s with
   |some xs=>rowX ty H x fun ys=>if (xs.length+ys.length)*a<=140737488355328 then K (.own H.length) (goneA H s++ [.row e ty (xs++ys)]) else none
   |none=>none
  |false=>none
 |none=>none
where
 rowIn (ty:Ty) (H:List (Ent T.U)):AV T.U->Option (List (den T.U ty))
  | .cell c=>match c.as (.list ty) with|some xs=>some xs|none=>none
  | .own i=>match H[i]? with|some (.row _ ty' xs)=>(if h:ty'=ty then some (h▸xs) else none)|_=>none
  | .raw (.slice none 0 0)=>some []
  |_=>none
 rowX {R:Type} (ty:Ty) (H:List (Ent T.U)) (x:AV T.U) (K:List (den T.U ty)->Option R):Option R:=
  match rowIn ty H x with
  |some ys=>K ys
  |none=>match x with
   | .sl i sz o n=>match H[i]? with
    |some (.row _ ty' xs)=>match Nat.beq sz (szT T ty') with
     |true=>(if h:ty'=ty then (if o+n<=xs.length then K ((h▸xs:List (den T.U ty)).drop o |>.take n) else none) else none)
     |false=>none
    |_=>none
   |_=>none
 eOk (e:TypeId) (H:List (Ent T.U)):AV T.U->Bool
  | .own i=>match H[i]? with|some (.row e' _ _)=>Nat.beq e' e|_=>false
  | .cell _=>false
  |_=>true
 goneA (H:List (Ent T.U)):AV T.U->List (Ent T.U)
  | .own i=>H.set i .gone
  |_=>H
def jz9 (ty:Ty) (t:TypeId) (H:List (Ent T.U)) (l c:Int) (K:AV T.U->List (Ent T.U)->Option R):Option R:=
 match zy4 P t with
 |some (e,sz,a,b)=>match Nat.beq sz (szT T ty),cellsOf T (b.toList.map (yw8 T)) with
  |true,some z=>match yt3 T ty z with
   |some d=>if 0<=l/\l<=c/\a*c.toNat<=281474976710656/\c<=9223372036854775807 then K (.own H.length) (H++ [.row e ty (List.replicate l.toNat d)]) else none
   |none=>none
  |_,_=>none
 |none=>none
def vd8 (e:TypeId):Option (AV T.U):=match P.info? e with|some i=>(match i.zero with|some z=>some (ofV T z)|none=>none)|none=>none
def jb2 (a:AV T.U) (at_:TypeId) (b:Bool):Option (AV T.U):=
 match P.underlying at_,a with
 |some d,.ifc t x=>match d with
  | .interface _=>none
  |_=>match Nat.beq t at_ with
   |true=>match b with|true=>some (.tup [x,cB T true])|false=>some x
   |false=>match b,vd8 T P at_ with
    |true,some z=>some (.tup [z,cB T false])
    |_,_=>none
 |_,_=>none
def vt0 (ty:Ty):List (Int×den T.U ty)->Int->den T.U ty
 | [],_=>yb3 T ty
 |(y,a)::r,x=>if x=y then a else vt0 ty r x
def ks9 {α:Type}:List (Int×α)->Int->Bool
 | [],_=>false
 |(y,_)::r,x=>if x=y then true else ks9 r x
def vx5 {α:Type}:List (Int×α)->Int->α->List (Int×α)
 | [],x,a=> [(x,a)]
 |(y,b)::r,x,a=>if x=y then (x,a)::r else (y,b)::vx5 r x a
def vw3 {α:Type}:List (Int×α)->Int->List (Int×α)
 | [],_=> []
 |(y,b)::r,x=>if x=y then r else (y,b)::vw3 r x
def zTy:Ty->Value->Bool
 | .int k,.int a x=>zi2 k a&&eqZ x
 | .bool,.bool b=> !b
 | .list _,.slice none n c=>Nat.beq n 0&&Nat.beq c 0
 |_,_=>false
where
 eqZ (x:Int):Bool:=x==0
def wd0 (e:TypeId) (ty:Ty):Bool:=match P.info? e with|some i=>(match i.zero with|some z=>zTy ty z|none=>false)|none=>false
def vn6 (a:Bool) (ty:Ty) (es:List (Int×den T.U ty)) (x:Int):AV T.U:=
 match a with|true=>.tup [.cell ⟨ty,vt0 T ty es x⟩,cB T (ks9 es x)]|false=>.cell ⟨ty,vt0 T ty es x⟩
def wy3 (ty:Ty) (a:AV T.U):Option (den T.U ty):=match a with| .cell c=>c.as ty|_=>none
def qt2 (t:TypeId):Option (IntKind×TypeId×TypeId):=
 match P.underlying t with
 |some (.map a b)=>match P.underlying a with|some (.int k)=>some (k,a,b)|_=>none
 |_=>none
def ji0 (b:Bool) (z:AV T.U) (x:Int) (K:AV T.U->Option R):List (Int×AV T.U)->Option R
 | []=>K (match b with|true=>.tup [z,cB T false]|false=>z)
 |(y,a)::r=>if x=y then K (match b with|true=>.tup [a,cB T true]|false=>a) else ji0 b z x K r
def js0 (t:TypeId) (b:Bool) (H:List (Ent T.U)) (m:AV T.U) (c:IntKind) (x:Int) (K:AV T.U->Option R):Option R:=
 match m,qt2 P t with
 | .mp i,some (k,_,d)=>match H[i]? with
  |some (.map a es)=>match zi2 k a&&zi2 c a,vd8 T P d with|true,some z=>ji0 T b z x K es|_,_=>none
  |some (.tmap a ty es)=>match zi2 k a&&(zi2 c a&&wd0 P d ty) with|true=>K (vn6 T b ty es x)|false=>none
  |_=>none
 |_,_=>none
def gq8 (t:TypeId) (H:List (Ent T.U)) (m:AV T.U) (c:IntKind) (x:Int) (a:AV T.U):Option (List (Ent T.U)):=
 match m,qt2 P t with
 | .mp i,some (k,_,_)=>match H[i]? with
  |some (.map b es)=>match zi2 k b&&(zi2 c b&&es.all fun p=> !wk7 x p.1) with|true=>some (H.set i (.map b (es++ [(x,a)])))|false=>none
  |some (.tmap b ty es)=>match zi2 k b&&zi2 c b,wy3 T ty a with|true,some y=>some (H.set i (.tmap b ty (vx5 es x y)))|_,_=>none
  |_=>none
 |_,_=>none
def wi0 (t:TypeId) (H:List (Ent T.U)) (m:AV T.U) (b:IntKind) (x:Int):Option (List (Ent T.U)):=
 match m,qt2 P t with
 | .mp i,some (k,_,_)=>match H[i]? with
  |some (.tmap a ty es)=>match zi2 k a&&zi2 b a with|true=>some (H.set i (.tmap a ty (vw3 es x)))|false=>none
  |_=>none
 |_,_=>none
end
end
end Go.X
namespace Go.X
open Go.RowKit Go.V
section
variable (T:Tab) (P:Program) {w:World} {S:List Nat} {φ:Nat->RA}
def FR (w:World) (S:List Nat) (φ:Nat->RA) (F:AF T) (b:PF):Prop:= ∀i a,F.get T i=some a-> ∃v,b.get i=some v/\VR T w S φ a v
def yy4 (v):VR T w S φ (yw8 T v) v:=by
 cases v<;>first|exact .int _ _|exact .bool _|exact .str _|rfl
def yf2: ∀(l),VRL T w S φ (l.map (yw8 T)) l
 | []=>trivial
 |v::r=>⟨yy4 T v,yf2 r⟩
def qk9 (v):VR T w S φ (ofV T v) v:=by
 have h:VR T w S φ (yw8 T v) v:=yy4 T v;cases v<;>first|exact h|exact ⟨_,rfl,yf2 T _⟩
variable {T}
def v4 {F:AF T} {F':PF} (hF:FR T w S φ F F') {x:Operand} {a:AV T.U} (h:aev T F x=some a): ∃v,ev F' x=some v/\VR T w S φ a v:=by
 cases x with
 |tmp t=>exact hF t a h
 |const v=>simp only [aev,X0] at h;subst h;exact ⟨v,rfl,qk9 T v⟩
 |global g=>cases h
 |func f=>simp only [aev,X0] at h;subst h;exact ⟨_,rfl,#[],#[],rfl,trivial,trivial⟩
def yh3 {F b} (hF:FR T w S φ F b): ∀ {l as},zx1 T F l=some as->VRL T w S φ as (l.map (evD b))
 | [],as,h=>by simp only [zx1,X0] at h;subst h;trivial
 |x::r,as,h=>by
  unfold zx1 at h;split at h
  ·rename_i a l c d;simp only [X0] at h;subst h;obtain ⟨v,e,f⟩:=v4 hF c;exact ⟨by simpa [evD,e] using f,yh3 hF d⟩
  ·cases h
def v6 {a x v} (h:ev a x=some v):evD a x=v:=by simp [evD,h]
def w7 {k x v} (h:VR T w S φ (.cell ⟨.int k,x⟩) v):v=.int k x:=by
 have h:CR T w S (.int k) x v:=h;cases h;rfl
def zg2 {b v} (h:VR T w S φ (.cell ⟨.bool,b⟩) v):v=.bool b:=by
 have h:CR T w S .bool b v:=h;cases h;rfl
def zq5 {s v} (h:VR T w S φ (.cell ⟨.str,s⟩) v):v=.string s:=by
 have h:CR T w S .str s v:=h;cases h;rfl
def qe5 {a u v} (h:kn7 T a=some u) (b:VR T w S φ a v):v=u:=by
 unfold kn7 at h;split at h
 ·simp only [X0] at h;subst h;exact w7 b
 ·simp only [X0] at h;subst h;exact zg2 b
 ·simp only [X0] at h;subst h;exact zq5 b
 ·simp only [X0] at h;subst h;exact b
 ·cases h
def qf0: ∀ {as us vs},vg6 T as=some us->VRL T w S φ as vs->vs=us
 | [],us,vs,h,b=>by
  simp only [vg6,X0] at h;subst h;cases vs with|nil=>rfl|cons _ _=>exact b.elim
 |a::r,us,vs,h,b=>by
  unfold vg6 at h;split at h
  ·rename_i u l c d;simp only [X0] at h;subst h;cases vs with
   |nil=>exact b.elim
   |cons v s=>rw [qe5 c b.1,qf0 d b.2]
  ·cases h
def ja7 {a u v} (h:wp9 T a=some u) (b:VR T w S φ a v):v=u:=by
 unfold wp9 at h;split at h
 ·split at h
  ·rename_i l c;simp only [X0] at h;subst h;obtain ⟨vs,rfl,d⟩:=b;have:=qf0 c d;cases vs;simp_all
  ·cases h
 ·exact qe5 h b
def zb6 {a b} (h:zi2 a b=true):a=b:=by cases a<;>cases b<;>first|rfl|cases h
def kv2 {b k x y a} (h:wz8 T b k x y=some a) (t): ∃v,(∀w0,(binOp b t (.int k x) (.int k y)).run P w0=.ok v w0)/\VR T w S φ a v:=by
 cases b<;>simp only [wz8,X0,reduceCtorEq] at h<;>subst h<;>first|(refine ⟨_,fun w0=>?_,CR.int _ _⟩;simp [binOp,Op.intArith,Op.intBits,g9,bOr,yl9,vx4];done)|(refine ⟨_,fun w0=>?_,CR.bool _⟩;simp [binOp,Op.intCmp];done)
def gj8:Value->Bool| .pointer _=>true| .slice _ _ _=>true| .map _=>true| .func _ _ _=>true| .nilFunc=>true| .iface _ _=>true| .nilIface=>true|_=>false
def jb5 {t X Y r b neg} (a:b=if neg then .neq else .eql) (c:gj8 X=true) (d:gj8 Y=true) (h: ∀w0,(Op.equalIn 10000 t X Y).run P w0=.ok r w0) (w0):(binOp b t X Y).run P w0=.ok (.bool (zc0 neg r)) w0:=by
 subst a;cases X<;>first|(cases c;done)|(cases Y<;>first|(cases d;done)|(cases neg<;>simp [binOp,Op.equal,Op.maxDepth,h,zc0]))
def jd0 {t X Y b} (x' y') (a:gj8 X=true) (c:gj8 Y=true) (d:X≠.nilIface\/Y≠.nilIface) (w0):(eqGuard b t x' y' X Y).run P w0=.ok () w0:=by
 cases X<;>first|(cases a;done)|(cases Y<;>first|(cases c;done)|(simp at d;done)|(cases b<;>simp [eqGuard]))
def zo2 {t e} (b:P.underlying t=some (.pointer e)) (a w0):(Op.equalIn (9999+1) t (.pointer none) (.pointer a)).run P w0=.ok a.isNone w0/\(Op.equalIn (9999+1) t (.pointer a) (.pointer none)).run P w0=.ok a.isNone w0:=by
 cases a<;>constructor<;>(rw [Op.equalIn];simp [run_underlying b])
def jb0 {t e} (b:P.underlying t=some (.slice e)) (m c a m' c' w0):(Op.equalIn (9999+1) t (.slice none m c) (.slice a m' c')).run P w0=.ok a.isNone w0/\(Op.equalIn (9999+1) t (.slice a m' c') (.slice none m c)).run P w0=.ok a.isNone w0:=by
 cases a<;>constructor<;>(rw [Op.equalIn];simp [run_underlying b])
def yy7 {t e b} (c:P.underlying t=some (.map e b)) (a w0):(Op.equalIn (9999+1) t (.map none) (.map a)).run P w0=.ok a.isNone w0/\(Op.equalIn (9999+1) t (.map a) (.map none)).run P w0=.ok a.isNone w0:=by
 cases a<;>constructor<;>(rw [Op.equalIn];simp [run_underlying c])
def va3 {f t x y r} (h:wo8 T P t f x y=some r) {X Y} (o:VR T w S φ x X) (d:VR T w S φ y Y) {b neg} (j:b=if neg then .neq else .eql) (x' y') (v:f=true->jp0 x'=true\/jp0 y'=true):
  ((∀w0,(eqGuard b t x' y' X Y).run P w0=.ok () w0)/\ ∀w0,(eqGuard b t x' y' Y X).run P w0=.ok () w0)/\(∀w0,(binOp b t X Y).run P w0=.ok (.bool (zc0 neg r)) w0)/\ ∀w0,(binOp b t Y X).run P w0=.ok (.bool (zc0 neg r)) w0:=by
 have c: ∀X Y:Value,gj8 X=true->gj8 Y=true->(X≠.nilIface\/Y≠.nilIface)->(∀w0,(Op.equalIn (9999+1) t X Y).run P w0=.ok r w0)->(∀w0,(Op.equalIn (9999+1) t Y X).run P w0=.ok r w0)->
   ((∀w0,(eqGuard b t x' y' X Y).run P w0=.ok () w0)/\ ∀w0,(eqGuard b t x' y' Y X).run P w0=.ok () w0)/\(∀w0,(binOp b t X Y).run P w0=.ok (.bool (zc0 neg r)) w0)/\ ∀w0,(binOp b t Y X).run P w0=.ok (.bool (zc0 neg r)) w0:=
  fun X Y e k p z A=>⟨⟨jd0 P x' y' e k p,jd0 P x' y' k e p.symm⟩,jb5 P j e k z,jb5 P j k e A⟩
 have i: ∀w0,f=true->(eqGuard b t x' y' .nilIface .nilIface).run P w0=.ok () w0:=by
  intro w0 l;unfold eqGuard;rcases v l with e|e
  ·cases x'<;>first|(cases e;done)|(cases b<;>simp)
  ·cases y'<;>first|(cases e;done)|(cases b<;>simp)
 unfold wo8 at h;split at h
 ·rename_i n;rw [VR] at o;subst o;split at h
  ·rename_i a;split at h
   ·split at h<;>simp only [X0,reduceCtorEq] at h<;>subst h
    ·rw [VR] at d;subst d;exact c _ _ rfl rfl (.inl (by simp)) (fun w0=>(zo2 P a _ w0).1) (fun w0=>(zo2 P a _ w0).2)
    ·obtain ⟨g,_,rfl⟩:=d;exact c _ _ rfl rfl (.inl (by simp)) (fun w0=>(zo2 P a _ w0).1) (fun w0=>(zo2 P a _ w0).2)
    ·obtain ⟨g,_,rfl⟩:=d;exact c _ _ rfl rfl (.inl (by simp)) (fun w0=>(zo2 P a _ w0).1) (fun w0=>(zo2 P a _ w0).2)
    ·obtain ⟨ad,cap,_,_,rfl⟩:=d;exact c _ _ rfl rfl (.inl (by simp)) (fun w0=>(zo2 P a _ w0).1) (fun w0=>(zo2 P a _ w0).2)
    ·obtain ⟨g,_,_,rfl⟩:=d;exact c _ _ rfl rfl (.inl (by simp)) (fun w0=>(zo2 P a _ w0).1) (fun w0=>(zo2 P a _ w0).2)
   ·cases h
  ·rename_i a;split at h
   ·split at h<;>simp only [X0,reduceCtorEq] at h<;>subst h
    ·rw [VR] at d;subst d;exact c _ _ rfl rfl (.inl (by simp)) (fun w0=>by rw [Op.equalIn];simp [run_underlying a]) (fun w0=>by rw [Op.equalIn];simp [run_underlying a])
    ·obtain ⟨C,D,rfl,_⟩:=d;exact c _ _ rfl rfl (.inl (by simp)) (fun w0=>by rw [Op.equalIn];simp [run_underlying a]) (fun w0=>by rw [Op.equalIn];simp [run_underlying a])
   ·cases h
  ·rename_i E a;split at h
   ·split at h
    ·simp only [X0] at h;subst h;obtain ⟨u,rfl,_⟩:=d;exact c _ _ rfl rfl (.inr (by simp)) (fun w0=>by rw [Op.equalIn];simp [run_underlying a]) (fun w0=>by rw [Op.equalIn];simp [run_underlying a])
    ·split at h
     ·rename_i m;simp only [X0] at h;subst h;rw [VR] at d;subst d;have q: ∀w0,(eqGuard b t x' y' .nilIface .nilIface).run P w0=.ok () w0:=by
       intro w0;rcases (V6 _ _).mp m with e|e
       ·exact i w0 e
       ·have B:(Op.eqGuardIn Op.maxDepth t .nilIface .nilIface).run P w0=.ok false w0:=by
         rw [show Op.maxDepth=9999+1 from rfl,Op.eqGuardIn];simp [run_underlying a,e]
        unfold eqGuard;cases b<;>simp [B]<;>(split<;>rfl)
      have s: ∀w0,(Op.equalIn (9999+1) t .nilIface .nilIface).run P w0=.ok true w0:=fun w0=>by rw [Op.equalIn];simp [run_underlying a]
      exact ⟨⟨q,q⟩,jb5 P j rfl rfl s,jb5 P j rfl rfl s⟩
     ·cases h
    ·cases h
   ·cases h
  ·rename_i a;split at h
   ·split at h<;>simp only [X0,reduceCtorEq] at h<;>subst h
    ·rw [VR] at d;subst d;exact c _ _ rfl rfl (.inl (by simp)) (fun w0=>(yy7 P a _ w0).1) (fun w0=>(yy7 P a _ w0).2)
    ·obtain ⟨g,_,rfl⟩:=d;exact c _ _ rfl rfl (.inl (by simp)) (fun w0=>(yy7 P a _ w0).1) (fun w0=>(yy7 P a _ w0).2)
   ·cases h
  ·rename_i a;split at h
   ·split at h<;>simp only [X0,reduceCtorEq] at h<;>subst h
    ·rw [VR] at d;subst d;exact c _ _ rfl rfl (.inl (by simp)) (fun w0=>(jb0 P a _ _ _ _ _ w0).1) (fun w0=>(jb0 P a _ _ _ _ _ w0).2)
    ·obtain ⟨g,ad,_,rfl,_⟩:=d;exact c _ _ rfl rfl (.inl (by simp)) (fun w0=>(jb0 P a _ _ _ _ _ w0).1) (fun w0=>(jb0 P a _ _ _ _ _ w0).2)
   ·cases h
  ·cases h
 ·cases h
def vt7 {b neg} (f:b=if neg then .neq else .eql) {e t x y a} (h:eqA T P t e x y neg=some a) {X Y} (g:VR T w S φ x X) (i:VR T w S φ y Y) (x' y') (u:e=true->jp0 x'=true\/jp0 y'=true):
  (∀w0,(eqGuard b t x' y' X Y).run P w0=.ok () w0)/\ ∃v,(∀w0,(binOp b t X Y).run P w0=.ok v w0)/\VR T w S φ a v:=by
 unfold eqA at h;split at h
 ·rename_i r d;simp only [X0] at h;subst h;obtain ⟨⟨j,_⟩,k,_⟩:=va3 P d g i f x' y' u;exact ⟨j,_,k,CR.bool _⟩
 split at h
 ·rename_i r d;simp only [X0] at h;subst h;obtain ⟨⟨_,j⟩,_,k⟩:=va3 P d i g f x' y' u;exact ⟨j,_,k,CR.bool _⟩
 split at h
 ·rename_i p q l m;have n:=ja7 l g;have o:=ja7 m i;subst n;subst o;split at h
  ·rename_i r d;simp only [X0] at h;subst h;have c:=qk3 (P:=P) 10000 t _ _ r d;subst f;refine ⟨fun w0=>by cases neg<;>simp [eqGuard],_,fun w0=>?_,CR.bool _⟩;cases neg<;>simp [binOp,Op.equal,Op.maxDepth,c]
  ·cases h
 ·rename_i p q l m;have n:=ja7 l g;have o:=ja7 m i;subst n;subst o;simp only at h;split at h
  ·rename_i z;split at h
   ·rename_i r d;simp only [X0] at h;subst h;have c:=qk3 (P:=P) 10000 t _ _ r d;have s: ∀w0,(program).run P w0=.ok P w0:=fun _=>rfl;subst f;refine ⟨fun w0=>by cases neg<;>simp [eqGuard,s,z],_,fun w0=>?_,CR.bool _⟩;cases neg<;>simp [binOp,Op.equal,Op.maxDepth,c]
   ·cases h
  ·cases h
 ·cases h
def ku7 {b t c x y a} (h:wm7 T P b t c x y=some a) {X Y} (d:VR T w S φ x X) (e:VR T w S φ y Y) (x' y') (i:c=true->jp0 x'=true\/jp0 y'=true):
  (∀w0,(eqGuard b t x' y' X Y).run P w0=.ok () w0)/\ ∃v,(∀w0,(binOp b t X Y).run P w0=.ok v w0)/\VR T w S φ a v:=by
 unfold wm7 at h;split at h
 ·split at h
  ·rename_i j;have:=zb6 j;subst this;have f:=w7 d;have g:=w7 e;subst f;subst g;exact ⟨fun w0=>by simp [eqGuard],kv2 P h t⟩
  ·cases h
 ·simp only [X0] at h;subst h;have f:=zq5 d;have g:=zq5 e;subst f;subst g;exact ⟨fun w0=>by simp [eqGuard],_,fun w0=>by simp [binOp,Op.stringOp],CR.bool _⟩
 ·simp only [X0] at h;subst h;have f:=zq5 d;have g:=zq5 e;subst f;subst g;exact ⟨fun w0=>by simp [eqGuard],_,fun w0=>by simp [binOp,Op.stringOp],CR.bool _⟩
 ·exact vt7 P (neg:=false) rfl h d e x' y' i
 ·exact vt7 P (neg:=true) rfl h d e x' y' i
 ·cases h
def we4 {u x a} (h:unA T u x=some a) {X} (c:VR T w S φ x X): ∃v,(∀w0,(Op.unary u X).run P w0=.ok v w0)/\VR T w S φ a v:=by
 unfold unA at h;split at h
 ·have b:=w7 c;subst b;unfold unI at h;split at h
  ·simp only [X0] at h;subst h;exact ⟨_,fun w0=>by simp [Op.unary,Op.intArith],CR.int _ _⟩
  ·simp only [X0] at h;subst h;exact ⟨_,fun w0=>by simp [Op.unary,Op.intBits,yl9],CR.int _ _⟩
  ·cases h
 ·have b:=zg2 c;subst b;split at h
  ·simp only [X0] at h;subst h;exact ⟨_,fun w0=>by simp [Op.unary],CR.bool _⟩
  ·cases h
 ·cases h
def zx3 {α} (vs:Array α) (o n:Nat):(vs.extract o (o+n)).toList=(vs.toList.drop o).take n:=by
 rw [Array.toList_extract,List.extract_eq_take_drop];congr 1;omega
def kx3 {cs} {vs:Array Value} (h:VRL T w S φ cs vs.toList) {o n c a} (b:jz1 T cs o n c=some a):
  ∃v,(if c then some (Value.agg (vs.extract o (o+n))) else vs[o]?)=some v/\VR T w S φ a v/\(c=true->o+n<=vs.size):=by
 unfold jz1 at b;split at b
 ·split at b
  ·rename_i d;simp only [X0] at b;subst b;refine ⟨_,rfl,⟨_,rfl,?_⟩,fun _=>?_⟩
   ·rw [zx3];exact (h.drop T o).take T n
   ·have f:=Y1 d;have e:=h.len T;simp at e;omega
  ·cases b
 ·obtain ⟨v,f,e⟩:=h.get T b;exact ⟨v,by simpa using f,e,fun h=>by cases h⟩
def jf1: ∀ {cs l o},jf8 T cs o=some l->yb9 T cs-> ∃pre,cs=pre++l/\(zh6 T pre).length=o
 | [],_,_,h,_=>by cases h
 |a::r,l,o,h,c=>by
  unfold jf8 at h;split at h
  ·rename_i d;simp only [X0] at h;subst h;exact ⟨[],rfl,(X1 d).symm⟩
  ·split at h
   ·rename_i b;obtain ⟨pre,e,f⟩:=jf1 h c.2;refine ⟨a::pre,by rw [e];rfl,?_⟩;rw [zh6,X9,yg6 T c.1,f];have:=Y1 b;omega
   ·cases h
def jr1 {f}: ∀ {cs b o},yz1 T f cs o=some b->yb9 T cs-> ∃pre l l',cs=pre++l/\b=pre++l'/\f l=some l'/\(zh6 T pre).length=o
 | [],_,o,h,_=>by
  unfold yz1 at h;split at h
  ·rename_i c;exact ⟨[],_,_,rfl,rfl,h,(X1 c).symm⟩
  ·cases h
 |a::r,b,o,h,g=>by
  unfold yz1 at h;split at h
  ·rename_i c;exact ⟨[],_,_,rfl,rfl,h,(X1 c).symm⟩
  ·split at h
   ·rename_i d;split at h
    ·rename_i n e;simp only [X0] at h;subst h;obtain ⟨pre,l,l',i,j,k,m⟩:=jr1 e g.2;refine ⟨a::pre,l,l',by rw [i];rfl,by rw [j];rfl,k,?_⟩;rw [zh6,X9,yg6 T g.1,m];have:=Y1 d;omega
    ·cases h
   ·cases h
def zv5 {U:Nat->Type} {a:AV U} {t:Ty} {n:Nat} {xs:List (den U t)} (h:jl5 a=some ⟨t,n,xs⟩):a=.arr t n xs:=by
 cases a<;>simp only [jl5,X0,reduceCtorEq,Sigma.mk.injEq] at h;obtain ⟨rfl,h⟩:=h;have:=eq_of_heq h;simp only [X7] at this;obtain ⟨rfl,rfl⟩:=this;rfl
def BR.at {cs vs} (h:BR T w S φ cs vs) {pre l} (b:cs=pre++l) {o} (e:(zh6 T pre).length=o):BR T w S φ l (vs.drop o)/\o+(zh6 T l).length=vs.length:=by
 obtain ⟨a,c⟩:=h;have d:=a.len T;rw [b,yg4] at a d;rw [b,jd9] at c;have:=a.drop T o;rw [List.drop_append_of_le_length (by omega),R7 (by omega),N4] at this;refine ⟨⟨this,c.2⟩,?_⟩;rw [X9] at d;omega
def BR.swap {a b} (i:zb1 T a=true) (f:zb1 T b=true) (j: ∀v,VR T w S φ a v->VR T w S φ b v): ∀ {cs vs c},BR T w S φ cs vs->cs[c]?=some a->BR T w S φ (cs.set c b) vs
 | [],_,_,_,h=>by simp at h
 |x::r,vs,0,h,e=>by
  simp only [Y4,X0] at e;subst e;obtain ⟨d,n⟩:=h;rw [zh6,zq0 T i] at d
  match vs,d with
  |v::vs,d=>exact ⟨by rw [List.set_cons_zero,zh6,zq0 T f];exact ⟨j v d.1,d.2⟩,ye8 T f,n.2⟩
 |x::r,vs,c+1,h,e=>by
  obtain ⟨o,q⟩:=BR.at h (pre:= [x]) (l:=r) rfl rfl;have k:=BR.swap i f j o (by simpa using e);have m:=h.1.take T (zh6 T [x]).length;have p:zh6 T (x::r)=zh6 T [x]++zh6 T r:=yg4 T [x] r;rw [p,Z7 (W6 _),Q3 (W6 _)] at m;refine ⟨?_,h.2.1,k.2⟩;rw [List.set_cons_succ];have g:zh6 T (x::r.set c b)=zh6 T [x]++zh6 T (r.set c b):=yg4 T [x] _;rw [g];have:=VRL.app T m k.1;rwa [Q7] at this
def VRL.cells: ∀ {cs vs},VRL T w S φ (cs.map .cell) vs↔CellsR T w S cs vs:=by
 intro cs;induction cs with
 |nil=>
  intro vs;cases vs with
  |nil=>exact ⟨fun _=>⟨rfl,fun j c v h=>by simp at h⟩,fun _=>trivial⟩
  |cons v r=>exact ⟨fun h=>h.elim,fun h=>by cases h.1⟩
 |cons c r e=>
  intro vs;cases vs with
  |nil=>exact ⟨fun h=>h.elim,fun h=>by cases h.1⟩
  |cons v s=>
   constructor
   ·intro h;obtain ⟨f,g⟩:=e.1 h.2;refine ⟨by simp [f],fun j c' d a b=>?_⟩;cases j with
    |zero=>simp only [Y4,X0] at a b;subst a;subst b;exact h.1
    |succ j=>exact g j c' d (by simpa using a) (by simpa using b)
   ·intro h;refine ⟨h.2 0 c v rfl rfl,e.2 ⟨by have:=h.1;simpa using this,fun j c' d a b=>h.2 (j+1) c' d (by simpa using a) (by simpa using b)⟩⟩
def kt3 {cs} {vs:Array Value} (h:BR T w S φ cs vs.toList) {o n q a} (c:gn9 T cs o n q=some a):
  ∃v,(if q then some (Value.agg (vs.extract o (o+n))) else vs[o]?)=some v/\VR T w S φ a v/\(q=true->o+n<=vs.size):=by
 unfold gn9 at c;split at c
 ·rename_i b r e;obtain ⟨pre,A,B⟩:=jf1 e h.2;obtain ⟨f,p⟩:=BR.at h A B;have p:o+(zh6 T (b::r)).length=vs.size:=by rw [p];simp
  split at c
  ·split at c
   ·rename_i s;simp only [X0] at c;subst c;have d:=f.1;rw [zh6,zq0 T s,List.singleton_append] at d;obtain ⟨v,y,C⟩:=d.get T (j:=0) rfl;refine ⟨v,?_,C,fun h=>by cases h⟩;rw [Q5,J5] at y;simpa using y
   ·cases c
  ·split at c
   ·rename_i t m xs D;have:=zv5 D;subst this;split at c
    ·rename_i u;simp only [X0] at c;subst c;have u:=X1 u;have g:(jr2 T (.arr t m xs)).length=n:=by rw [yg6 T f.2.1];exact u
     rw [zh6,X9,g] at p;refine ⟨_,rfl,⟨_,rfl,f.2.1,?_⟩,fun _=>by omega⟩;rw [zx3];have d:=f.1.take T n;rw [zh6,Z7 (by omega),Q3 (by omega)] at d;exact VRL.cells.1 d
    ·cases c
   ·split at c
    ·rename_i z;simp only [X3] at z;obtain ⟨i,k⟩:=z;simp only [X0] at c;subst c;have i:=Y1 i;have l:zh6 T (b::r)=(b::r).take n++zh6 T ((b::r).drop n):=by
      conv=>lhs;rw [<-List.take_append_drop n (b::r)]
      rw [yg4,vb2 T k]
     have x:((b::r).take n).length=n:=by rw [Y6,U5];omega
     rw [l,X9,x] at p;refine ⟨_,rfl,⟨_,rfl,?_⟩,fun _=>by omega⟩;rw [zx3];have d:=f.1.take T n;rw [l,Z7 (by omega),Q3 (by omega)] at d;exact d
    ·cases c
 ·cases c
def kw6 {cs l o} (h:jf8 T cs o=some l): ∀i∈v5 l,i∈v5 cs:=by
 induction cs generalizing o with
 |nil=>cases h
 |cons a r c=>
  unfold jf8 at h;split at h
  ·simp only [X0] at h;subst h;exact fun i b=>b
  ·split at h
   ·exact fun i b=>by rw [v5];exact X4.2 (.inr (c h i b))
   ·cases h
def kj1 {l:List (AV T.U)} {n}: ∀i∈v5 (l.take n),i∈v5 l:=by
 intro i a
 conv at a=>skip
 rw [<-List.take_append_drop n l,yn0];exact X4.2 (.inl a)
def kv4 {cs o n f a} (h:gn9 T cs o n f=some a): ∀i∈a.ids,i∈v5 cs:=by
 unfold gn9 at h;split at h
 ·rename_i b r d;have e:=kw6 d;split at h
  ·split at h
   ·simp only [X0] at h;subst h;exact fun i c=>e i (by rw [v5];exact X4.2 (.inl c))
   ·cases h
  ·split at h
   ·split at h
    ·simp only [X0] at h;subst h;intro i c;cases c
    ·cases h
   ·split at h
    ·simp only [X0] at h;subst h;intro i c;rw [AV.ids] at c;exact e i (kj1 i c)
    ·cases h
 ·cases h
def jg7 {t j a o n e} (h:qr0 P t j=some (a,o,n,e)): ∃b f i d,P.underlying t=some (.struct b)/\b[j]?=some f/\f.type=a/\f.offset=o/\P.info? a=some i/\i.size=n/\P.underlying a=some d/\ye9 d=e:=by
 unfold qr0 at h;split at h
 ·rename_i b c;split at h
  ·rename_i f g;split at h
   ·rename_i i d k l;simp only [X0,X7] at h;obtain ⟨rfl,rfl,rfl,rfl⟩:=h;exact ⟨b,f,i,d,c,g,rfl,rfl,k,rfl,l,rfl⟩
   ·cases h
  ·cases h
 ·cases h
def vf1 {t j x a} (h:qm9 T P t j x=some a) {X} (k:VR T w S φ x X): ∃v,(∀w0,(Instr.field t X j).run P w0=.ok v w0)/\VR T w S φ a v:=by
 unfold qm9 at h;split at h
 ·split at h
  ·rename_i cs p D o n E l;obtain ⟨m,f,i,d,q,r,s,u,y,z,A,B⟩:=jg7 P l;subst s;subst u;subst z;subst B;obtain ⟨vs,rfl,e⟩:=k;obtain ⟨v,c,g,_⟩:=kx3 e h;refine ⟨v,fun w0=>?_,g⟩;have C:(underlying t).run P w0=.ok (.struct m) w0:=by simp [underlying,q]
   have b:(part f.type vs f.offset).run P w0=.ok v w0:=by
    apply yq8;unfold yz9;rw [A];simp only [y];cases hag:ye9 d<;>rw [hag] at c<;>simpa using c
   unfold Instr.field;rw [Sem.run_bind,C];simp [r,asAgg,b]
  ·cases h
 ·cases h
def yw3 {a} (h:zy1 T a=true) {v} (b:VR T w S φ a v):v.cells= #[v]/\v.oneCell'=true:=by
 cases a with
 |cell c=>have b:CR T w S c.t c.x v:=b;generalize c.x=x at b;generalize c.t=t at *;cases b<;>exact ⟨rfl,rfl⟩
 |ptr i o=>obtain ⟨g,_,rfl⟩:=b;exact ⟨rfl,rfl⟩
 |own i=>rw [VR] at b;subst b;exact ⟨rfl,rfl⟩
 |sl i sz o n=>obtain ⟨ad,rfl,_⟩:=b;exact ⟨rfl,rfl⟩
 |fn f x y=>obtain ⟨d,e,rfl,_⟩:=b;exact ⟨rfl,rfl⟩
 |ifc t x=>obtain ⟨u,rfl,_⟩:=b;exact ⟨rfl,rfl⟩
 |raw u=>rw [VR] at b;subst b;cases v<;>first|exact ⟨rfl,rfl⟩|cases h
 |aptr i o sz n k c=>obtain ⟨g,_,_,rfl⟩:=b;exact ⟨rfl,rfl⟩
 |asl i o sz n j m=>obtain ⟨g,ad,_,rfl,_⟩:=b;exact ⟨rfl,rfl⟩
 |mp i=>obtain ⟨g,_,rfl⟩:=b;exact ⟨rfl,rfl⟩
 |_=>cases h
def yt9 {a} (h:yd3 T a=true):(∃cs,a=.agg cs)\/(zy1 T a=true/\ze9 T a= [a]):=by
 cases a<;>first|exact .inl ⟨_,rfl⟩|exact .inr ⟨h,rfl⟩
def zj4 {a} (h:yd3 T a=true) {v} (b:VR T w S φ a v):VRL T w S φ (ze9 T a) v.cells.toList:=by
 rcases yt9 h with ⟨cs,rfl⟩|⟨d,c⟩
 ·obtain ⟨vs,rfl,c⟩:=b;exact c
 ·rw [c,(yw3 d b).1];exact ⟨b,trivial⟩
def jg2: ∀(l o c cs as),VRL T w S φ cs c.toList->VRL T w S φ as l->VRL T w S φ (yk8 T cs o as) (jb3 c o l).toList
 | [],_,_,_,[],h,_=>h
 | [],_,_,_,_::_,_,h=>h.elim
 |_::_,_,_,_,[],_,h=>h.elim
 |v::r,o,c,cs,a::s,h,b=>by
  rw [yk8,jb3];exact jg2 r (o+1) _ _ s (by rw [Array.toList_setIfInBounds];exact h.set T o b.1) b.2
def jr5 (o): ∀(l j c),(l.zipIdx j).foldl (fun cs (p:Value×Nat)=>cs.setIfInBounds (o+p.2) p.1) c=jb3 c (o+j) l
 | [],_,_=>rfl
 |v::r,j,c=>by
  rw [List.zipIdx_cons,List.foldl_cons,jr5 o r (j+1)];rfl
def yp3: ∀(l o c),(jb3 c o l).size=c.size
 | [],_,_=>rfl
 |v::r,o,c=>by rw [jb3,yp3 r];simp
def yp4 {b}: ∀ {l m cs c d},
  VRL T w S φ cs c.toList->l.map Prod.fst=m.map Prod.fst->VRL T w S φ (l.map Prod.snd) (m.map Prod.snd)->ja6 T b cs l=some d->
  ∃c',Instr.fill b c m=some c'/\VRL T w S φ d c'.toList
 | [],[],cs,c,d,h,_,_,e=>by simp only [ja6,X0] at e;subst e;exact ⟨c,rfl,h⟩
 | [],_::_,_,_,_,_,f,_,_=>by simp at f
 |_::_,[],_,_,_,_,f,_,_=>by simp at f
 |(i,a)::r,(j,v)::s,cs,c,d,h,f,q,e=>by
  simp only [U1,List.cons.injEq] at f q;obtain ⟨rfl,f⟩:=f;unfold ja6 at e;split at e
  ·rename_i o n t;split at e
   ·rename_i k;simp only [X3] at k;obtain ⟨x,y,A⟩:=k;have u:=zj4 x q.1;have B:=u.len T;have l2:=h.len T;have E:=X1 y;have F:=Y1 A;obtain ⟨c',C,D⟩:=yp4 (jg2 v.cells.toList o c cs _ h u) f q.2 e;refine ⟨c',?_,D⟩;simp at B l2;unfold Instr.fill;rw [t];simp only;rw [if_neg (by simp;omega)];have g:v.cells.zipIdx.foldl (fun cs (p:Value×Nat)=>cs.setIfInBounds (o+p.2) p.1) c=jb3 c o v.cells.toList:=by
     rw [<-Array.foldl_toList,Array.toList_zipIdx,jr5];rfl
    exact (congrArg (fun z=>Instr.fill b z s) g).trans C
   ·cases e
  ·cases e
def qv8 {α b:Type} {f:α->Option b} {g:α->Sem b} {w0:World} (a: ∀x y,f x=some y->(g x).run P w0=.ok y w0): ∀ {l:List α} {r:List b},wj0 f l=some r->(l.mapM g).run P w0=.ok r w0
 | [],r,h=>by simp only [wj0,X0] at h;subst h;rfl
 |x::l,r,h=>by
  unfold wj0 at h;split at h
  ·rename_i y s c d;simp only [X0] at h;subst h;simp only [List.mapM_cons,Sem.run_bind,a x y c,qv8 a d,Result.andThen_ok,Sem.run_pure]
  ·cases h
def qi6 {t d} (h:zd8 P t=some d): ∃b,P.underlying t=some (.struct b)/\ ∀w0,(b.mapM fun f=>(do pure (f.offset,<-sizeOf f.type):Sem (Nat×Nat))).run P w0=.ok d.toArray w0:=by
 unfold zd8 at h;split at h
 ·rename_i b c;refine ⟨b,c,fun w0=>?_⟩;rw [Array.mapM_eq_mapM_toList];have:=qv8 P (w0:=w0) (g:=fun f=>(do pure (f.offset,<-sizeOf f.type):Sem (Nat×Nat))) (fun f y a=>by
   unfold placeP at a;split at a
   ·rename_i i e;simp only [X0] at a;subst a;have j:(sizeOf f.type).run P w0=.ok i.size w0:=by simp [sizeOf,typeInfo,e]
    simp only [Sem.run_bind,j,Result.andThen_ok,Sem.run_pure]
   ·cases a) h
  simp only [Sem.run_map,this,Result.andThen_ok]
 ·cases h
def yj8 {F b} (hF:FR T w S φ F b): ∀ {l as},yc8 T F l=some as->
  as.map Prod.fst=(l.map fun p=>(p.1,evD b p.2)).map Prod.fst/\VRL T w S φ (as.map Prod.snd) ((l.map fun p=>(p.1,evD b p.2)).map Prod.snd)
 | [],as,h=>by simp only [yc8,X0] at h;subst h;exact ⟨rfl,trivial⟩
 |(i,x)::r,as,h=>by
  unfold yc8 at h;split at h
  ·rename_i a l c d;simp only [X0] at h;subst h;obtain ⟨v,e,f⟩:=v4 hF c;obtain ⟨g,j⟩:=yj8 hF d;exact ⟨by simpa using g,by simpa [evD,e] using f,j⟩
  ·cases h
def ka2 {a b f} (h:vf7 T a f=some b) {v} (d:VR T w S φ a v): ∃ad:Addr,v=.pointer (some ad)/\ad.spot=none/\VR T w S φ b (.pointer (some ⟨ad.block,ad.off+f,none⟩)):=by
 unfold vf7 at h;split at h<;>simp only [X0,reduceCtorEq] at h<;>subst h
 ·obtain ⟨g,c,rfl⟩:=d;exact ⟨_,rfl,rfl,g,c,rfl⟩
 ·obtain ⟨g,c,rfl⟩:=d;exact ⟨_,rfl,rfl,g,c,by simp [U7]⟩
 ·obtain ⟨ad,cap,c,e,rfl⟩:=d;exact ⟨_,rfl,rfl,ad,cap,c,e,by simp [U7]⟩
 ·obtain ⟨g,c,e,rfl⟩:=d;exact ⟨_,rfl,rfl,g,c,e,by simp [U7]⟩
def kc5 {o F a} (h:jq5 T P o F=some a) {D} (hF:FR T w S φ F D) (op) (g:op.op=o): ∃v,(∀w0,(execOp (evD D) op).run P w0=.ok (.value v) w0)/\VR T w S φ a v:=by
 unfold jq5 at h;split at h
 ·obtain ⟨v,r,u⟩:=v4 hF h;exact ⟨v,fun w0=>by simp [execOp,g,v6 r],u⟩
 ·obtain ⟨v,r,u⟩:=v4 hF h;exact ⟨v,fun w0=>by simp [execOp,g,v6 r],u⟩
 ·split at h
  ·rename_i x y _ A V;obtain ⟨X,r,u⟩:=v4 hF A;obtain ⟨Y,H,Q⟩:=v4 hF V;rename_i b t xo yo _ _ _;obtain ⟨G,v,C,I⟩:=ku7 P h u Q xo yo fun h=>(V6 _ _).mp h;exact ⟨v,fun w0=>by simp [execOp,g,v6 r,v6 H,G,C],I⟩
  ·cases h
 ·split at h
  ·rename_i x A;obtain ⟨X,r,u⟩:=v4 hF A;obtain ⟨v,C,I⟩:=we4 P h u;exact ⟨v,fun w0=>by simp [execOp,g,v6 r,C],I⟩
  ·cases h
 ·split at h
  ·rename_i k d A J K;simp only [X0] at h;subst h;obtain ⟨X,r,u⟩:=v4 hF A;have e:=w7 u;subst e;refine ⟨_,fun w0=>?_,CR.int _ _⟩;rename_i Z dst xop _ _ _ k' x;unfold gs3 at J;split at J
   ·rename_i k2 hd;simp only [X0] at J;subst J;have hd':(underlying dst).run P w0=.ok (.int k2) w0:=by simp [underlying,hd]
    have hs':(underlying Z).run P w0=.ok d w0:=by simp [underlying,K]
    simp only [execOp,g,v6 r,convert,Sem.run_bind,hs',hd',Result.andThen_ok,Conv.intToInt];rfl
   ·cases J
  ·cases h
 ·split at h
  ·rename_i vs A;obtain ⟨X,r,u⟩:=v4 hF A;obtain ⟨us,rfl,H⟩:=u;obtain ⟨v,Q,h5⟩:=H.get T h;refine ⟨v,fun w0=>?_,h5⟩;simp at Q;simp [execOp,g,v6 r,Instr.extract,Q]
  ·cases h
 ·split at h
  ·rename_i x A;obtain ⟨X,r,u⟩:=v4 hF A;obtain ⟨v,C,I⟩:=vf1 P h u;exact ⟨v,fun w0=>by simp [execOp,g,v6 r,C],I⟩
  ·cases h
 ·split at h
  ·rename_i x d A hd;obtain ⟨X,r,u⟩:=v4 hF A;split at h
   ·cases h
   ·simp only [X0] at h;subst h;refine ⟨_,fun w0=>?_,X,rfl,u⟩;have E: ∀t,P.underlying t=some d->(underlying t).run P w0=.ok d w0:=fun t ht=>by simp [underlying,ht]
    simp only [execOp,g,v6 r,Instr.makeInterface,Sem.run_bind,E _ hd,Result.andThen_ok];rfl
  ·cases h
 ·split at h
  ·rename_i x y A V;simp only [X0] at h;subst h;rename_i f xs ys _ _;refine ⟨.func f (xs.map (evD D)) (ys.map (evD D)),fun w0=>by simp [execOp,g,Instr.makeFunc],_,_,rfl,?_,?_⟩
   ·simpa using yh3 hF A
   ·simpa using yh3 hF V
  ·cases h
 ·split at h
  ·rename_i pf z l q L hl;split at h
   ·rename_i cs hcs;simp only [X0] at h;subst h;rename_i t R _ _ _ _;unfold qn8 at L;split at L
    ·rename_i c hc;simp only [X0] at L;subst L;obtain ⟨i,U,hi,hzv,rfl⟩:=jg6 hc;obtain ⟨e1,e2⟩:=yj8 hF hl;obtain ⟨c',G,C⟩:=yp4 (yf2 T U.cells.toList) e1 e2 hcs;refine ⟨.agg c',fun w0=>?_,c',rfl,C⟩;have M:(zeroValue t).run P w0=.ok U w0:=by simp [zeroValue,typeInfo,hi,hzv]
     have B:(R.map fun p=>(p.1,evD D p.2)).toList=R.toList.map fun p=>(p.1,evD D p.2):=by simp
     unfold gg7 at q;split at q
     ·split at q
      ·rename_i pl N;simp only [X0] at q;subst q;obtain ⟨fs,hfs,hpr⟩:=qi6 P N;have E:(underlying t).run P w0=.ok (.struct fs) w0:=by simp [underlying,hfs]
       simp only [execOp,g,Instr.build,Sem.run_bind,M,E,Result.andThen_ok,hpr];have hg:Instr.fill (fun x=>pl.toArray[x]?) U.cells (Array.map (fun x=>(x.fst,evD D x.snd)) R).toList=some c':=by rw [B];simpa using G
       rw [hg];rfl
      ·cases q
     ·rename_i m e hme;split at q
      ·rename_i j hj;simp only [X0] at q;subst q;have E:(underlying t).run P w0=.ok (.array m e) w0:=by simp [underlying,hme]
       have K:(sizeOf e).run P w0=.ok j.size w0:=by simp [sizeOf,typeInfo,hj]
       simp only [execOp,g,Instr.build,Sem.run_bind,M,E,Result.andThen_ok,K];have hg:Instr.fill (fun x=>some (x*j.size,j.size)) U.cells (Array.map (fun x=>(x.fst,evD D x.snd)) R).toList=some c':=by rw [B];simpa using G
       rw [hg];rfl
      ·cases q
     ·cases q
    ·cases L
   ·cases h
  ·cases h
 ·split at h
  ·rename_i x ft f n ag A hp;split at h
   ·cases h
   ·rename_i hn;obtain ⟨X,r,u⟩:=v4 hF A;obtain ⟨fs,fl,i,d,G,C,rfl,rfl,g5,rfl,g7,g8⟩:=jg7 P hp;obtain ⟨ad,rfl,O,H⟩:=ka2 h u;rename_i s xo j _ _ _;refine ⟨_,fun w0=>?_,H⟩;have E:(underlying s).run P w0=.ok (.struct fs) w0:=by simp [underlying,G]
    have K:(sizeOf fl.type).run P w0=.ok i.size w0:=by simp [sizeOf,typeInfo,g5]
    have hn0: ¬i.size=0:=by intro e;rw [e] at hn;cases hn
    have hfp:(fieldPlace ad fl).run P w0=.ok ⟨ad.block,ad.off+fl.offset,none⟩ w0:=by
     unfold fieldPlace;simp only [Sem.run_bind,K,Result.andThen_ok,hn0,if_false,Sem.run_pure];unfold Addr.add;cases ad;simp at O;subst O;split<;>simp_all
    simp only [execOp,g,v6 r,Instr.fieldAt,Instr.sureAddr,Sem.run_bind,E,Result.andThen_ok,C,hfp,Sem.run_pure]
  ·cases h
 ·cases h
end
end Go.X
