import Derived.Test.YtliopfopmhhdeaaGreatA1
set_option linter.defProp false
namespace Go.X
open Go.RowKit Go.V
inductive Ty where
 |int (k:IntKind)|bool|str|list (e:Ty)|user (i:Nat)|nl (e:Ty)
 deriving DecidableEq
def den (U:Nat->Type):Ty->Type
 | .int _=>Int
 | .bool=>Bool
 | .str=>ByteArray
 | .list e=>List (den U e)
 | .nl e=>List (den U e)
 | .user i=>U i
structure Cell (U:Nat->Type) where
 t:Ty
 x:den U t
def Ty.scal:Ty->Bool| .int _=>true| .bool=>true| .str=>true|_=>false
inductive AV (U:Nat->Type) where
 |cell (c:Cell U)
 |ptr (i o:Nat)
 |eptr (i sz k c:Nat)
 |lptr (e:Ty) (xs:List (den U e)) (k o:Nat)
 |own (i:Nat)
 |sl (i sz o n:Nat)
 |agg (cs:List (AV U))
 |tup (vs:List (AV U))
 |fn (f:Fn) (first caps:List (AV U))
 |ifc (t:TypeId) (v:AV U)
 |raw (v:Value)
 |arr (t:Ty) (n:Nat) (xs:List (den U t))
 |aptr (i o sz n k c:Nat)
 |asl (i o sz n lo m:Nat)
 |mp (i:Nat)
 |hmp (i:Nat)
mutual
def AV.ids {U:Nat->Type}:AV U->List Nat
 | .cell _=> []
 | .ptr i _=> [i]
 | .eptr i _ _ _=> [i]
 | .lptr _ _ _ _=> []
 | .own i=> [i]
 | .sl i _ _ _=> [i]
 | .agg cs=>j8 cs
 | .tup cs=>j8 cs
 | .fn _ a b=>j8 a++j8 b
 | .ifc _ a=>a.ids
 | .raw _=> []
 | .arr _ _ _=> []
 | .aptr i _ _ _ _ _=> [i]
 | .asl i _ _ _ _ _=> [i]
 | .mp i=> [i]
 | .hmp i=> [i]
def j8 {U:Nat->Type}:List (AV U)->List Nat
 | []=> []
 |a::r=>a.ids++j8 r
end
def ka6 {U:Nat->Type} (aS:List (AV U)):Prop:= ∀t n xs,AV.arr t n xs∈aS->xs.length=n
structure Tab where
 U:Nat->Type
 d:(i:Nat)->U i
 size:Nat->Nat
 cells:(i:Nat)->U i->List (Cell U)
 len: ∀i x,(cells i x).length=size i
 pack:(i:Nat)->List (Cell U)->Option (U i)
 packed: ∀i cs x,pack i cs=some x->cells i x=cs
 scal:Nat->Bool
 scals: ∀i x,scal i=true-> ∀c∈cells i x,c.t.scal=true
 bl:(i:Nat)->U i->List (AV U):=fun _ _=> []
 rb:(i:Nat)->List (AV U)->Option (U i):=fun _ _=>none
 rbl: ∀i aS x,rb i aS=some x->ka6 aS->bl i x=aS:=by intro _ _ _ h;cases h
 bl0: ∀i x,j8 (bl i x)= []:=by intro _ _;rfl
 fe:Nat->List TypeId:=fun _=> []
section
variable (T:Tab)
def szT:Ty->Nat
 | .user i=>T.size i
 |_=>1
def za3:(t:Ty)->den T.U t->List (Cell T.U)
 | .user i,x=>T.cells i x
 | .int k,x=> [⟨.int k,x⟩]
 | .bool,x=> [⟨.bool,x⟩]
 | .str,x=> [⟨.str,x⟩]
 | .list e,x=> [⟨.list e,x⟩]
 | .nl e,x=> [⟨.nl e,x⟩]
def zy1:(t:Ty)->den T.U t
 | .user i=>T.d i
 | .int _=>(0:Int)
 | .bool=>false
 | .str=>ByteArray.empty
 | .list _=> []
 | .nl _=> []
def v8 (t:Ty) (x:den T.U t):(za3 T t x).length=szT T t:=by
 cases t<;>first|rfl|exact T.len _ _
def Cell.aS {U:Nat->Type} (c:Cell U) (t:Ty):Option (den U t):=if h:c.t=t then some (h▸c.x) else none
def Cell.as_eq {U:Nat->Type} {c:Cell U} {t:Ty} {x:den U t} (h:c.aS t=some x):c=⟨t,x⟩:=by
 unfold Cell.aS at h;split at h
 ·rename_i hk;subst hk;simp only [X0] at h;subst h;rfl
 ·cases h
def Ty.one:Ty->Bool| .user _=>false|_=>true
def yr9 {t:Ty} (h:t.one=true) (x:den T.U t):za3 T t x= [⟨t,x⟩]:=by cases t<;>first|rfl|cases h
def ka3 {U:Nat->Type} (t:Ty):List (Cell U)->Option (den U t)
 | [c]=>c.aS t
 |_=>none
def yn3 (t:Ty) (cs:List (Cell T.U)):Option (den T.U t):=
 match t with
 | .user i=>T.pack i cs
 |t=>ka3 t cs
def zm8 {t:Ty} {cs:List (Cell T.U)} {x:den T.U t} (h:yn3 T t cs=some x):za3 T t x=cs:=by
 have key: ∀t:Ty,t.one=true-> ∀x:den T.U t,ka3 t cs=some x->za3 T t x=cs:=by
  intro t ht x h;unfold ka3 at h;split at h
  ·rw [Cell.as_eq h,yr9 T ht]
  ·cases h
 cases t with
 |user i=>exact T.packed _ _ _ h
 |int k=>exact key _ rfl x h
 |bool=>exact key _ rfl x h
 |str=>exact key _ rfl x h
 |list e=>exact key _ rfl x h
 |nl e=>exact key _ rfl x h
structure RA where
 ad:Option Addr
 n:Nat
 cap:Nat
 xs:List Nat
inductive Ent (U:Nat->Type) where
 |blk (e:TypeId) (cs:List (AV U))
 |row (e:TypeId) (t:Ty) (xs:List (den U t))
 |map (k:IntKind) (es:List (Int×AV U))
 |tmap (k:IntKind) (t:Ty) (m:List (Int×den U t))
 |drow (e:TypeId) (d:Nat) (fe:List TypeId) (xs:List (U d)) (op:Option (Nat×List (AV U)))
 |pmap (k:IntKind) (be:TypeId) (d:Nat) (m:List (Int×U d)) (op:Option (Int×Nat))
 |hid
 |gone
inductive CR (w:World) (S:List Nat):(t:Ty)->den T.U t->Value->Prop
 |int (k:IntKind) (x:Int):CR w S (.int k) x (.int k x)
 |bool (b:Bool):CR w S .bool b (.bool b)
 |str (s:ByteArray):CR w S .str s (.string s)
 |list (e:Ty) (xs:List (den T.U e)) (ad:Option Addr) (cap:Nat) (u:Nat->Nat->Value) (hcap:xs.length<=cap) (hnil:ad=none->xs.length=0/\cap=0)
   (had:xs≠ []->ad=some ⟨bk ad,of ad,none⟩/\bk ad<w.heap.size/\bk ad∉S)
   (hcell: ∀k j (c:Cell T.U),(xs[k]?.map fun x=>(za3 T e x)[j]?)=some (some c)->w.cell? ⟨bk ad,of ad+(k*szT T e+j),none⟩=some (u k j))
   (hrel: ∀k j (c:Cell T.U),(xs[k]?.map fun x=>(za3 T e x)[j]?)=some (some c)->CR w S c.t c.x (u k j)):CR w S (.list e) xs (.slice ad xs.length cap)
 |nl (e:Ty) (xs:List (den T.U e)) (ad:Option Addr) (cap:Nat) (h:CR w S (.list e) xs (.slice ad xs.length cap)) (hn:xs= []->ad=none/\cap=0):CR w S (.nl e) xs (.slice ad xs.length cap)
abbrev yj1 (w:World) (S:List Nat) (c:Cell T.U) (v:Value):Prop:=CR T w S c.t c.x v
def CellsR (w:World) (S:List Nat) (cs:List (Cell T.U)) (vs:List Value):Prop:=cs.length=vs.length/\ ∀(j:Nat) (c:Cell T.U) (v:Value),cs[j]?=some c->vs[j]?=some v->yj1 T w S c v
mutual
def VR (w:World) (S:List Nat) (φ:Nat->RA):AV T.U->Value->Prop
 | .cell c,v=>yj1 T w S c v
 | .ptr i o,v=> ∃g,(φ i).ad=some ⟨g,0,none⟩/\v=.pointer (some ⟨g,o,none⟩)
 | .eptr i sz k c,v=> ∃g,(φ i).ad=some ⟨g,0,none⟩/\v=.pointer (some ⟨g,0+(k*sz+c),none⟩)
 | .lptr e xs k o,v=> ∃ad cap,CR T w S (.list e) xs (.slice ad xs.length cap)/\k<xs.length/\v=.pointer (some ⟨bk ad,of ad+(k*szT T e+o),none⟩)
 | .own i,v=>v=.slice (φ i).ad (φ i).n (φ i).cap
 | .sl i sz o n,v=> ∃ad,v=.slice ad n ((φ i).cap-o)/\o+n<=(φ i).cap/\(n=0\/ ∃g,(φ i).ad=some ⟨g,0,none⟩/\ad=some ⟨g,0+o*sz,none⟩)/\(ad=none->n=0/\(φ i).cap-o=0)/\(o=0->ad=(φ i).ad)
 | .agg cs,v=> ∃vs:Array Value,v=.agg vs/\VRL w S φ cs vs.toList
 | .tup cs,v=> ∃vs:Array Value,v=.tuple vs/\VRL w S φ cs vs.toList
 | .fn f a b,v=> ∃va vb:Array Value,v=.func f va vb/\VRL w S φ a va.toList/\VRL w S φ b vb.toList
 | .ifc t a,v=> ∃u,v=.iface t u/\VR w S φ a u
 | .raw u,v=>v=u
 | .arr t n xs,v=> ∃vs:Array Value,v=.agg vs/\xs.length=n/\CellsR T w S (xs.flatMap (za3 T t)) vs.toList
 | .aptr i o sz n k c,v=> ∃g,(φ i).ad=some ⟨g,0,none⟩/\k<n/\v=.pointer (some ⟨g,o+(k*sz+c),none⟩)
 | .asl i o sz n lo m,v=> ∃g ad,(φ i).ad=some ⟨g,0,none⟩/\v=.slice (some ad) m (n-lo)/\lo+m<=n/\(lo=n\/ad=⟨g,o+lo*sz,none⟩)
 | .mp i,v=> ∃g,(φ i).ad=some ⟨g,0,none⟩/\v=.map (some g)
 | .hmp i,v=>v=.map (some (φ i).n)
def VRL (w:World) (S:List Nat) (φ:Nat->RA):List (AV T.U)->List Value->Prop
 | [],[]=>True
 |a::r,v::s=>VR w S φ a v/\VRL w S φ r s
 |_,_=>False
end
def qd8 {Tc:List Nat} {w w':World} {a:Addr} {v:Value} (hc:Chg Tc w w') (hb:a.block∉Tc) (h:w.cell? a=some v):w'.cell? a=some v:=
 (World.cell?_of_block (hc.block _ (World.block_lt_of_cell? w _ h) hb)).trans h
def CR.chg {Tc S S':List Nat} {w w':World} (hc:Chg Tc w w') (hT: ∀b∈Tc,b∈S) (hS: ∀b∈S',b∈S\/w.heap.size<=b) {t:Ty} {x:den T.U t} {v:Value} (h:CR T w S t x v):CR T w' S' t x v:=by
 induction h with
 |int k x=>exact .int k x
 |bool b=>exact .bool b
 |str s=>exact .str s
 |nl e xs ad cap _ hn ih=>exact .nl e xs ad cap ih hn
 |list e xs ad cap u hcap hnil had hcell hrel ih=>
  refine .list e xs ad cap u hcap hnil ?_ ?_ ih
  ·intro hx;obtain ⟨h1,h2,h3⟩:=had hx;refine ⟨h1,V3 h2 hc.size,fun hm=>?_⟩;rcases hS _ hm with h|h
   ·exact h3 h
   ·omega
  ·intro k j c hk;have hx:xs≠ []:=by intro e;subst e;simp at hk
   obtain ⟨_,_,h3⟩:=had hx;exact qd8 hc (fun hm=>h3 (hT _ hm)) (hcell k j c hk)
def CellsR.chg {Tc S S':List Nat} {w w':World} (hc:Chg Tc w w') (hT: ∀b∈Tc,b∈S) (hS: ∀b∈S',b∈S\/w.heap.size<=b) {cs:List (Cell T.U)} {vs:List Value} (h:CellsR T w S cs vs):CellsR T w' S' cs vs:=
 ⟨h.1,fun j c v h1 h2=>(h.2 j c v h1 h2).chg T hc hT hS⟩
mutual
def VR.chg {Tc S S':List Nat} {w w':World} {φ:Nat->RA} (hc:Chg Tc w w') (hT: ∀b∈Tc,b∈S) (hS: ∀b∈S',b∈S\/w.heap.size<=b): ∀ {a:AV T.U} {v:Value},VR T w S φ a v->VR T w' S' φ a v
 | .cell c,v,h=>CR.chg T hc hT hS h
 | .ptr i o,v,h=>h
 | .eptr i sz k c,v,h=>h
 | .lptr e xs k o,v,h=>by obtain ⟨ad,cap,h1,h2,h3⟩:=h;exact ⟨ad,cap,h1.chg T hc hT hS,h2,h3⟩
 | .own i,v,h=>h
 | .sl i sz o n,v,h=>h
 | .agg cs,v,h=>by obtain ⟨vs,h1,h2⟩:=h;exact ⟨vs,h1,VRL.chg hc hT hS h2⟩
 | .tup cs,v,h=>by obtain ⟨vs,h1,h2⟩:=h;exact ⟨vs,h1,VRL.chg hc hT hS h2⟩
 | .fn f a b,v,h=>by obtain ⟨va,vb,h1,h2,h3⟩:=h;exact ⟨va,vb,h1,VRL.chg hc hT hS h2,VRL.chg hc hT hS h3⟩
 | .ifc t a,v,h=>by obtain ⟨u,h1,h2⟩:=h;exact ⟨u,h1,VR.chg hc hT hS h2⟩
 | .raw u,v,h=>h
 | .arr t n xs,v,h=>by obtain ⟨vs,h1,h2,h3⟩:=h;exact ⟨vs,h1,h2,h3.chg T hc hT hS⟩
 | .aptr i o sz n k c,v,h=>h
 | .asl i o sz n lo m,v,h=>h
 | .mp i,v,h=>h
 | .hmp i,v,h=>h
def VRL.chg {Tc S S':List Nat} {w w':World} {φ:Nat->RA} (hc:Chg Tc w w') (hT: ∀b∈Tc,b∈S) (hS: ∀b∈S',b∈S\/w.heap.size<=b): ∀ {aS:List (AV T.U)} {vs:List Value},VRL T w S φ aS vs->VRL T w' S' φ aS vs
 | [],[],_=>trivial
 | [],_::_,h=>h.elim
 |_::_,[],h=>h.elim
 |_::_,_::_,h=>⟨VR.chg hc hT hS h.1,VRL.chg hc hT hS h.2⟩
end
def VRL.len {S:List Nat} {w:World} {φ:Nat->RA}: ∀ {aS:List (AV T.U)} {vs:List Value},VRL T w S φ aS vs->aS.length=vs.length
 | [],[],_=>rfl
 | [],_::_,h=>h.elim
 |_::_,[],h=>h.elim
 |_::r,_::s,h=>by simp [VRL.len h.2]
def VRL.get {S:List Nat} {w:World} {φ:Nat->RA}: ∀ {aS:List (AV T.U)} {vs:List Value} {j:Nat} {a:AV T.U},VRL T w S φ aS vs->aS[j]?=some a-> ∃v,vs[j]?=some v/\VR T w S φ a v
 | [],_,_,_,_,h=>by simp at h
 |_::_,[],_,_,h,_=>h.elim
 |_::_,v::_,0,b,h,hj=>by simp at hj;subst hj;exact ⟨v,rfl,h.1⟩
 |_::_,_::_,j+1,b,h,hj=>by simp at hj;simpa using VRL.get h.2 hj
def VRL.app {S:List Nat} {w:World} {φ:Nat->RA}: ∀ {aS bs:List (AV T.U)} {vs us:List Value},VRL T w S φ aS vs->VRL T w S φ bs us->VRL T w S φ (aS++bs) (vs++us)
 | [],_,[],_,_,h=>h
 | [],_,_::_,_,h,_=>h.elim
 |_::_,_,[],_,h,_=>h.elim
 |_::_,_,_::_,_,h,h'=>⟨h.1,VRL.app h.2 h'⟩
def VRL.drop {S:List Nat} {w:World} {φ:Nat->RA}: ∀ {aS:List (AV T.U)} {vs:List Value} (n:Nat),VRL T w S φ aS vs->VRL T w S φ (aS.drop n) (vs.drop n)
 |_,_,0,h=>h
 | [],[],_+1,_=>trivial
 | [],_::_,_+1,h=>h.elim
 |_::_,[],_+1,h=>h.elim
 |_::r,_::s,n+1,h=>VRL.drop (aS:=r) (vs:=s) n h.2
def VRL.take {S:List Nat} {w:World} {φ:Nat->RA}: ∀ {aS:List (AV T.U)} {vs:List Value} (n:Nat),VRL T w S φ aS vs->VRL T w S φ (aS.take n) (vs.take n)
 |_,_,0,_=>by simp [VRL]
 | [],[],_+1,_=>by simp [VRL]
 | [],_::_,_+1,h=>h.elim
 |_::_,[],_+1,h=>h.elim
 |_::r,_::s,n+1,h=>⟨h.1,VRL.take (aS:=r) (vs:=s) n h.2⟩
def VRL.set {S:List Nat} {w:World} {φ:Nat->RA}: ∀ {aS:List (AV T.U)} {vs:List Value} (n:Nat) {a:AV T.U} {v:Value},VRL T w S φ aS vs->VR T w S φ a v->VRL T w S φ (aS.set n a) (vs.set n v)
 | [],[],_,_,_,_,_=>trivial
 | [],_::_,_,_,_,h,_=>h.elim
 |_::_,[],_,_,_,h,_=>h.elim
 |_::_,_::_,0,_,_,h,h'=>⟨h',h.2⟩
 |_::r,_::s,n+1,_,_,h,h'=>⟨h.1,VRL.set (aS:=r) (vs:=s) n h.2 h'⟩
mutual
def AV.ren {U:Nat->Type} (ρ:Nat->Nat):AV U->AV U
 | .cell c=>.cell c
 | .ptr i o=>.ptr (ρ i) o
 | .eptr i sz k c=>.eptr (ρ i) sz k c
 | .lptr e xs k o=>.lptr e xs k o
 | .own i=>.own (ρ i)
 | .sl i sz o n=>.sl (ρ i) sz o n
 | .agg cs=>.agg (zh7 ρ cs)
 | .tup cs=>.tup (zh7 ρ cs)
 | .fn f a b=>.fn f (zh7 ρ a) (zh7 ρ b)
 | .ifc t a=>.ifc t (a.ren ρ)
 | .raw v=>.raw v
 | .arr t n xs=>.arr t n xs
 | .aptr i o sz n k c=>.aptr (ρ i) o sz n k c
 | .asl i o sz n lo m=>.asl (ρ i) o sz n lo m
 | .mp i=>.mp (ρ i)
 | .hmp i=>.hmp (ρ i)
def zh7 {U:Nat->Type} (ρ:Nat->Nat):List (AV U)->List (AV U)
 | []=> []
 |a::r=>a.ren ρ::zh7 ρ r
end
def RSame (r r':RA):Prop:=r.ad=r'.ad/\r.n=r'.n/\r.cap=r'.cap
def RSame.trans {r r' r'':RA} (h:RSame r r') (k:RSame r' r''):RSame r r'':=⟨h.1.trans k.1,h.2.1.trans k.2.1,h.2.2.trans k.2.2⟩
def RSame.symm {r r':RA} (h:RSame r r'):RSame r' r:=⟨h.1.symm,h.2.1.symm,h.2.2.symm⟩
def RSame.of {r r':RA} (h:r=r'):RSame r r':=by subst h;exact ⟨rfl,rfl,rfl⟩
mutual
def VR.renS {S:List Nat} {w:World} {φ φ':Nat->RA} {ρ:Nat->Nat}: ∀ {a:AV T.U} {v:Value},(∀i∈a.ids,RSame (φ' (ρ i)) (φ i))->VR T w S φ a v->VR T w S φ' (a.ren ρ) v
 | .cell c,v,_,h=>by rw [AV.ren];exact h
 | .ptr i o,v,hi,h=>by rw [AV.ren];obtain ⟨g,h1,h2⟩:=h;exact ⟨g,(hi i (by simp [AV.ids])).1.trans h1,h2⟩
 | .eptr i sz k c,v,hi,h=>by rw [AV.ren];obtain ⟨g,h1,h2⟩:=h;exact ⟨g,(hi i (by simp [AV.ids])).1.trans h1,h2⟩
 | .lptr e xs k o,v,_,h=>by rw [AV.ren];exact h
 | .own i,v,hi,h=>by obtain ⟨h1,h2,h3⟩:=hi i (by simp [AV.ids]);rw [AV.ren,VR,h1,h2,h3];exact h
 | .sl i sz o n,v,hi,h=>by
  obtain ⟨r1,r2,r3⟩:=hi i (by simp [AV.ids]);rw [AV.ren];obtain ⟨ad,h1,h2,h3,h4,h5⟩:=h;rw [VR,r1,r3];refine ⟨ad,h1,h2,?_,h4,h5⟩;rcases h3 with h3|⟨g,h3,h5⟩
  ·exact .inl h3
  ·exact .inr ⟨g,h3,h5⟩
 | .agg cs,v,hi,h=>by rw [AV.ren];obtain ⟨vs,h1,h2⟩:=h;exact ⟨vs,h1,VRL.renS (fun i hm=>hi i (by rw [AV.ids];exact hm)) h2⟩
 | .tup cs,v,hi,h=>by rw [AV.ren];obtain ⟨vs,h1,h2⟩:=h;exact ⟨vs,h1,VRL.renS (fun i hm=>hi i (by rw [AV.ids];exact hm)) h2⟩
 | .fn f a b,v,hi,h=>by
  rw [AV.ren];obtain ⟨va,vb,h1,h2,h3⟩:=h;exact ⟨va,vb,h1,VRL.renS (fun i hm=>hi i (by rw [AV.ids];exact X4.2 (.inl hm))) h2,VRL.renS (fun i hm=>hi i (by rw [AV.ids];exact X4.2 (.inr hm))) h3⟩
 | .ifc t a,v,hi,h=>by rw [AV.ren];obtain ⟨u,h1,h2⟩:=h;exact ⟨u,h1,VR.renS (fun i hm=>hi i (by rw [AV.ids];exact hm)) h2⟩
 | .raw u,v,_,h=>by rw [AV.ren];exact h
 | .arr t n xs,v,_,h=>by rw [AV.ren];exact h
 | .aptr i o sz n k c,v,hi,h=>by rw [AV.ren];obtain ⟨g,h1,h2⟩:=h;exact ⟨g,(hi i (by simp [AV.ids])).1.trans h1,h2⟩
 | .asl i o sz n lo m,v,hi,h=>by rw [AV.ren];obtain ⟨g,ad,h1,h2⟩:=h;exact ⟨g,ad,(hi i (by simp [AV.ids])).1.trans h1,h2⟩
 | .mp i,v,hi,h=>by rw [AV.ren];obtain ⟨g,h1,h2⟩:=h;exact ⟨g,(hi i (by simp [AV.ids])).1.trans h1,h2⟩
 | .hmp i,v,hi,h=>by rw [AV.ren,VR,(hi i (by simp [AV.ids])).2.1];exact h
def VRL.renS {S:List Nat} {w:World} {φ φ':Nat->RA} {ρ:Nat->Nat}: ∀ {aS:List (AV T.U)} {vs:List Value},(∀i∈j8 aS,RSame (φ' (ρ i)) (φ i))->VRL T w S φ aS vs->VRL T w S φ' (zh7 ρ aS) vs
 | [],[],_,_=>trivial
 | [],_::_,_,h=>h.elim
 |_::_,[],_,h=>h.elim
 |a::r,v::s,hi,h=>⟨VR.renS (fun i hm=>hi i (by rw [j8];exact X4.2 (.inl hm))) h.1,VRL.renS (fun i hm=>hi i (by rw [j8];exact X4.2 (.inr hm))) h.2⟩
end
def VR.ren {S:List Nat} {w:World} {φ φ':Nat->RA} {ρ:Nat->Nat} {a:AV T.U} {v:Value} (hi: ∀i∈a.ids,φ' (ρ i)=φ i) (h:VR T w S φ a v):VR T w S φ' (a.ren ρ) v:=VR.renS T (fun i m=>RSame.of (hi i m)) h
def VRL.ren {S:List Nat} {w:World} {φ φ':Nat->RA} {ρ:Nat->Nat} {aS:List (AV T.U)} {vs:List Value} (hi: ∀i∈j8 aS,φ' (ρ i)=φ i) (h:VRL T w S φ aS vs):VRL T w S φ' (zh7 ρ aS) vs:=VRL.renS T (fun i m=>RSame.of (hi i m)) h
def wd:AV T.U->Nat| .arr t n _=>n*szT T t|_=>1
def jc9:AV T.U->List (AV T.U)| .arr t _ xs=>(xs.flatMap (za3 T t)).map .cell|a=> [a]
def zg3:List (AV T.U)->List (AV T.U)
 | []=> []
 |a::r=>jc9 T a++zg3 r
def jm8:AV T.U->Prop| .arr _ n xs=>xs.length=n|_=>True
def zw6:List (AV T.U)->Prop
 | []=>True
 |a::r=>jm8 T a/\zw6 r
def za2:AV T.U->Bool| .arr _ _ _=>false|_=>true
def zp1 {a:AV T.U} (h:za2 T a=true):jc9 T a= [a]:=by cases a<;>first|rfl|cases h
def ya6 {a:AV T.U} (h:za2 T a=true):jm8 T a:=by cases a<;>first|trivial|cases h
def qb0 {a:AV T.U} (h:za2 T a=true):wd T a=1:=by cases a<;>first|rfl|cases h
def flatMap_lenT {α β:Type} {f:α->List β} {sz:Nat} (hf: ∀y,(f y).length=sz) (l:List α):(l.flatMap f).length=l.length*sz:=by
 induction l with
 |nil=>simp
 |cons a r ih=>rw [V5,X9,hf,ih,U5,V9,J6]
def yb7 {a:AV T.U} (h:jm8 T a):(jc9 T a).length=wd T a:=by
 cases a<;>try rfl
 rename_i t n xs;rw [jc9,U7,flatMap_lenT (v8 T t),wd,show xs.length=n from h]
def yb8 (aS bs:List (AV T.U)):zg3 T (aS++bs)=zg3 T aS++zg3 T bs:=by
 induction aS with
 |nil=>rfl
 |cons a r ih=>rw [M8,zg3,zg3,ih,Q2]
def ji0 {cs:List (AV T.U)} (h:cs.all (za2 T)=true):zg3 T cs=cs:=by
 induction cs with
 |nil=>rfl
 |cons a r ih=>rw [J1,X3] at h;rw [zg3,zp1 T h.1,ih h.2];rfl
def ve8 {cs:List (AV T.U)} (h:cs.all (za2 T)=true):zw6 T cs:=by
 induction cs with
 |nil=>trivial
 |cons a r ih=>rw [J1,X3] at h;exact ⟨ya6 T h.1,ih h.2⟩
def yw9 {aS bs:List (AV T.U)}:zw6 T (aS++bs)↔zw6 T aS/\zw6 T bs:=by
 induction aS with
 |nil=>simp [zw6]
 |cons a r ih=>rw [M8,zw6,zw6,ih,and_assoc]
def yi0 {U:Nat->Type} (aS bs:List (AV U)):j8 (aS++bs)=j8 aS++j8 bs:=by
 induction aS with
 |nil=>rfl
 |cons a r ih=>rw [M8,j8,j8,ih,Q2]
def yo2 {U:Nat->Type} (cs:List (Cell U)):j8 (cs.map AV.cell)= []:=by
 induction cs with
 |nil=>rfl
 |cons a r ih=>rw [U1,j8,ih];rfl
def vp2 (a:AV T.U):j8 (jc9 T a)=a.ids:=by
 cases a<;>first|exact yo2 _|exact J4 _
def jh9 (cs:List (AV T.U)):j8 (zg3 T cs)=j8 cs:=by
 induction cs with
 |nil=>rfl
 |cons a r ih=>rw [zg3,yi0,vp2,ih,j8]
def vt9 {U:Nat->Type} (ρ:Nat->Nat) (aS bs:List (AV U)):zh7 ρ (aS++bs)=zh7 ρ aS++zh7 ρ bs:=by
 induction aS with
 |nil=>rfl
 |cons a r ih=>rw [M8,zh7,zh7,ih];rfl
def qq7 {U:Nat->Type} (ρ:Nat->Nat) (cs:List (Cell U)):zh7 ρ (cs.map AV.cell)=cs.map AV.cell:=by
 induction cs with
 |nil=>rfl
 |cons a r ih=>rw [U1,zh7,ih];rfl
def vp3 (ρ:Nat->Nat) (a:AV T.U):jc9 T (a.ren ρ)=zh7 ρ (jc9 T a):=by
 cases a<;>first|exact (qq7 ρ _).symm|rfl
def qe3 (ρ:Nat->Nat) (cs:List (AV T.U)):zg3 T (zh7 ρ cs)=zh7 ρ (zg3 T cs):=by
 induction cs with
 |nil=>rfl
 |cons a r ih=>rw [zh7,zg3,zg3,vt9,ih,vp3]
def ve6 {ρ:Nat->Nat} {a:AV T.U} (h:jm8 T a):jm8 T (a.ren ρ):=by cases a<;>first|trivial|exact h
def jp8 {ρ:Nat->Nat} {cs:List (AV T.U)} (h:zw6 T cs):zw6 T (zh7 ρ cs):=by
 induction cs with
 |nil=>trivial
 |cons a r ih=>exact ⟨ve6 T h.1,ih h.2⟩
def BR (w:World) (S:List Nat) (φ:Nat->RA) (cs:List (AV T.U)) (vs:List Value):Prop:=VRL T w S φ (zg3 T cs) vs/\zw6 T cs
def BR.of {w:World} {S:List Nat} {φ:Nat->RA} {cs:List (AV T.U)} {vs:List Value} (h:VRL T w S φ cs vs) (hn:cs.all (za2 T)=true):BR T w S φ cs vs:=⟨by rw [ji0 T hn];exact h,ve8 T hn⟩
def BR.vrl {w:World} {S:List Nat} {φ:Nat->RA} {cs:List (AV T.U)} {vs:List Value} (h:BR T w S φ cs vs) (hn:cs.all (za2 T)=true):VRL T w S φ cs vs:=by have:=h.1;rwa [ji0 T hn] at this
def BR.chg {Tc S S':List Nat} {w w':World} {φ:Nat->RA} (hc:Chg Tc w w') (hT: ∀b∈Tc,b∈S) (hS: ∀b∈S',b∈S\/w.heap.size<=b) {cs:List (AV T.U)} {vs:List Value} (h:BR T w S φ cs vs):BR T w' S' φ cs vs:=⟨h.1.chg T hc hT hS,h.2⟩
def BR.ren {S:List Nat} {w:World} {φ φ':Nat->RA} {ρ:Nat->Nat} {cs:List (AV T.U)} {vs:List Value} (hi: ∀i∈j8 cs,φ' (ρ i)=φ i) (h:BR T w S φ cs vs):BR T w S φ' (zh7 ρ cs) vs:=
 ⟨by rw [qe3];exact VRL.ren T (by rw [jh9];exact hi) h.1,jp8 T h.2⟩
def BR.renS {S:List Nat} {w:World} {φ φ':Nat->RA} {ρ:Nat->Nat} {cs:List (AV T.U)} {vs:List Value} (hi: ∀i∈j8 cs,RSame (φ' (ρ i)) (φ i)) (h:BR T w S φ cs vs):BR T w S φ' (zh7 ρ cs) vs:=
 ⟨by rw [qe3];exact VRL.renS T (by rw [jh9];exact hi) h.1,jp8 T h.2⟩
def MR (w:World) (S:List Nat) (φ:Nat->RA) (k:IntKind):List (Int×AV T.U)->List MapEntry->Prop
 | [],[]=>True
 |(x,a)::r,e::s=>e.key=.int k x/\VR T w S φ a e.val/\MR w S φ k r s
 |_,_=>False
def idsM {U:Nat->Type}:List (Int×AV U)->List Nat
 | []=> []
 |(_,a)::r=>a.ids++idsM r
def jx6 {U:Nat->Type} (ρ:Nat->Nat):List (Int×AV U)->List (Int×AV U)
 | []=> []
 |(x,a)::r=>(x,a.ren ρ)::jx6 ρ r
def MR.chg {Tc S S':List Nat} {w w':World} {φ:Nat->RA} (hc:Chg Tc w w') (hT: ∀b∈Tc,b∈S) (hS: ∀b∈S',b∈S\/w.heap.size<=b) {k:IntKind}: ∀ {es:List (Int×AV T.U)} {l:List MapEntry},MR T w S φ k es l->MR T w' S' φ k es l
 | [],[],_=>trivial
 | [],_::_,h=>h.elim
 |_::_,[],h=>h.elim
 |(_,_)::_,_::_,h=>⟨h.1,h.2.1.chg T hc hT hS,MR.chg hc hT hS h.2.2⟩
def MR.ren {S:List Nat} {w:World} {φ φ':Nat->RA} {ρ:Nat->Nat} {k:IntKind}: ∀ {es:List (Int×AV T.U)} {l:List MapEntry},(∀i∈idsM es,φ' (ρ i)=φ i)->MR T w S φ k es l->MR T w S φ' k (jx6 ρ es) l
 | [],[],_,_=>trivial
 | [],_::_,_,h=>h.elim
 |_::_,[],_,h=>h.elim
 |(_,a)::r,_::_,hi,h=>⟨h.1,h.2.1.ren T fun i hm=>hi i (by rw [idsM];exact X4.2 (.inl hm)),MR.ren (fun i hm=>hi i (by rw [idsM];exact X4.2 (.inr hm))) h.2.2⟩
def MR.renS {S:List Nat} {w:World} {φ φ':Nat->RA} {ρ:Nat->Nat} {k:IntKind}: ∀ {es:List (Int×AV T.U)} {l:List MapEntry},(∀i∈idsM es,RSame (φ' (ρ i)) (φ i))->MR T w S φ k es l->MR T w S φ' k (jx6 ρ es) l
 | [],[],_,_=>trivial
 | [],_::_,_,h=>h.elim
 |_::_,[],_,h=>h.elim
 |(_,a)::r,_::_,hi,h=>⟨h.1,h.2.1.renS T fun i hm=>hi i (by rw [idsM];exact X4.2 (.inl hm)),MR.renS (fun i hm=>hi i (by rw [idsM];exact X4.2 (.inr hm))) h.2.2⟩
def TR (w:World) (S:List Nat) (k:IntKind) (t:Ty):List (Int×den T.U t)->List MapEntry->Prop
 | [],[]=>True
 |(x,a)::r,e::s=>e.key=.int k x/\CR T w S t a e.val/\TR w S k t r s
 |_,_=>False
def TR.chg {Tc S S':List Nat} {w w':World} (hc:Chg Tc w w') (hT: ∀b∈Tc,b∈S) (hS: ∀b∈S',b∈S\/w.heap.size<=b) {k:IntKind} {t:Ty}: ∀ {es:List (Int×den T.U t)} {l:List MapEntry},TR T w S k t es l->TR T w' S' k t es l
 | [],[],_=>trivial
 | [],_::_,h=>h.elim
 |_::_,[],h=>h.elim
 |(_,_)::_,_::_,h=>⟨h.1,h.2.1.chg T hc hT hS,TR.chg hc hT hS h.2.2⟩
def DC (w:World) (S:List Nat) (e:TypeId):Cell T.U->Value->Prop
 |⟨.list t,ys⟩,v=>(e=0->yj1 T w S ⟨.list t,ys⟩ v)/\(e≠0-> ∃B ad cap vals,v=.slice ad (List.length (α:=den T.U t) ys) cap/\Own w B e (szT T t) ad (List.length (α:=den T.U t) ys) cap vals/\B<=w.heap.size/\CellsR T w S (List.flatMap (za3 T t) (ys:List (den T.U t))) vals)
 |c,v=>yj1 T w S c v
def zq4 (e:TypeId) (c:Cell T.U) (v:Value):List Nat:=match Nat.beq e 0 with|true=> []|false=>match c.t,v with| .list _,.slice ad _ _=>zb2 ad|_,_=> []
def ju8 (sz:Nat) (op:Option (Nat×List (AV T.U))) (j:Nat):Prop:=match op with|some (a,_)=>a*sz<=j/\j<a*sz+sz|none=>False
structure DRel (w:World) (S:List Nat) (φ:Nat->RA) (r:RA) (d:Nat) (fe:List TypeId) (xs:List (T.U d)) (op:Option (Nat×List (AV T.U))) (vals:List Value):Prop where
 cl: ∀j c v,(xs.flatMap (T.cells d))[j]?=some c->vals[j]?=some v-> ¬ju8 T (T.size d) op j->DC T w S (fe.getD (j%T.size d) 0) c v/\ ∀b∈zq4 T (fe.getD (j%T.size d) 0) c v,b∈r.xs/\ ∀a,r.ad=some a->a.block≠b
 ap: ∀j j' c c' v v',j≠j'->(xs.flatMap (T.cells d))[j]?=some c->vals[j]?=some v-> ¬ju8 T (T.size d) op j->(xs.flatMap (T.cells d))[j']?=some c'->vals[j']?=some v'-> ¬ju8 T (T.size d) op j'-> ∀b∈zq4 T (fe.getD (j%T.size d) 0) c v,b∉zq4 T (fe.getD (j'%T.size d) 0) c' v'
 opn: ∀a cs,op=some (a,cs)->a<xs.length/\cs.length=T.size d/\ ∀f x,cs[f]?=some x-> ∃v,vals[a*T.size d+f]?=some v/\VR T w S φ x v
def PB (w:World) (S:List Nat) (φ:Nat->RA) (be:TypeId) (d:Nat) (u:T.U d) (b:Nat):Prop:= ∃c,Blk w b c be/\BR T w S φ (T.bl d u) c.toList
def jl4 (op:Option (Int×Nat)) (x:Int):Option Nat:=match op with|some (y,j)=>if y=x then some j else none|none=>none
def PV (w:World) (S:List Nat) (φ:Nat->RA) (r:RA) (be:TypeId) (d:Nat) (op:Option (Int×Nat)) (x:Int) (u:T.U d) (v:Value) (b:Nat):Prop:=
 v=.pointer (some ⟨b,0,none⟩)/\(∀j,jl4 op x=some j->(φ j).ad=some ⟨b,0,none⟩)/\(jl4 op x=none->b∈r.xs/\(∀a,r.ad=some a->a.block≠b)/\PB T w S φ be d u b)
structure PRel (w:World) (S:List Nat) (φ:Nat->RA) (r:RA) (k:IntKind) (be:TypeId) (d:Nat) (m:List (Int×T.U d)) (op:Option (Int×Nat)) (l:List MapEntry) (bs:List Nat):Prop where
 len:m.length=l.length
 lenb:m.length=bs.length
 nd:(m.map Prod.fst).Nodup
 at_: ∀(p:Nat) (x:Int) (u:T.U d) (e:MapEntry) (b:Nat),m[p]?=some (x,u)->l[p]?=some e->bs[p]?=some b->e.key=.int k x/\PV T w S φ r be d op x u e.val b
 ap: ∀(p p':Nat) (x x':Int) (u u':T.U d) (b:Nat),p≠p'->m[p]?=some (x,u)->m[p']?=some (x',u')->jl4 op x=none->jl4 op x'=none->bs[p]?=some b->bs[p']?≠some b
 opn: ∀x j,op=some (x,j)->x∈m.map Prod.fst
def EntR (w:World) (S:List Nat) (φ:Nat->RA) (i:Nat):Ent T.U->Prop
 | .blk e cs=> ∃g c,(φ i).ad=some ⟨g,0,none⟩/\Blk w g c e/\g∈S/\BR T w S φ cs c.toList
 | .row e t xs=> ∃B vals,Own w B e (szT T t) (φ i).ad (φ i).n (φ i).cap vals/\(φ i).n=xs.length/\B<=w.heap.size/\CellsR T w S (xs.flatMap (za3 T t)) vals/\ ∀a,(φ i).ad=some a->a.block∈S
 | .map k es=> ∃g l c,(φ i).ad=some ⟨g,0,none⟩/\Mp w g l c/\g∈S/\MR T w S φ k es l.toList/\MapKept.Stamped l c
 | .tmap k t m=> ∃g l c,(φ i).ad=some ⟨g,0,none⟩/\Mp w g l c/\g∈S/\TR T w S k t m l.toList/\MapKept.Stamped l c
 | .drow e d fe xs op=> ∃B vals,Own w B e (T.size d) (φ i).ad (φ i).n (φ i).cap vals/\(φ i).n=xs.length/\B<=w.heap.size/\(∀a,(φ i).ad=some a->a.block∈S)/\DRel T w S φ (φ i) d fe xs op vals
 | .pmap k be d m op=> ∃g l c bs,(φ i).ad=some ⟨g,0,none⟩/\Mp w g l c/\g∈S/\PRel T w S φ (φ i) k be d m op l.toList bs/\MapKept.Stamped l c
 | .hid=>(φ i).ad=none/\(φ i).xs= []
 | .gone=>True
def At (r:RA) (a:Addr):Prop:=r.ad=some a\/a.block∈r.xs
def DC.chg {Tc S S':List Nat} {w w':World} {e:TypeId} {c:Cell T.U} {v:Value} (hc:Chg Tc w w') (hT: ∀b∈Tc,b∈S) (hS: ∀b∈S',b∈S\/w.heap.size<=b) (hb: ∀b∈zq4 T e c v,b∉Tc) (h:DC T w S e c v):DC T w' S' e c v:=by
 obtain ⟨t,x⟩:=c;cases t with
 |list t=>
  refine ⟨fun he=>(h.1 he).chg T hc hT hS,fun he=>?_⟩;obtain ⟨B,ad,cap,vals,rfl,h1,h2,h3⟩:=h.2 he;refine ⟨B,ad,cap,vals,rfl,h1.chg hc ?_,W9 h2 hc.size,h3.chg T hc hT hS⟩;have hz:Nat.beq e 0=false:=by cases hb:Nat.beq e 0;rfl;exact absurd (X1 hb) he
  cases had:ad with
  |none=>exact .inr rfl
  |some a=>subst had;exact .inl (hb _ (by simp [zq4,hz,zb2,bk]))
 |_=>exact CR.chg T hc hT hS h
def DRel.chg {Tc S S':List Nat} {w w':World} {φ:Nat->RA} {r:RA} {d:Nat} {fe:List TypeId} {xs:List (T.U d)} {op:Option (Nat×List (AV T.U))} {vals:List Value} (hc:Chg Tc w w') (hT: ∀b∈Tc,b∈S) (hS: ∀b∈S',b∈S\/w.heap.size<=b) (hb: ∀b∈r.xs,(∀a,r.ad=some a->a.block≠b)->b∉Tc) (h:DRel T w S φ r d fe xs op vals):DRel T w' S' φ r d fe xs op vals:=
 ⟨fun j c v h1 h2 h3=>⟨((h.cl j c v h1 h2 h3).1).chg T hc hT hS fun b hm=>hb b ((h.cl j c v h1 h2 h3).2 b hm).1 ((h.cl j c v h1 h2 h3).2 b hm).2,(h.cl j c v h1 h2 h3).2⟩,h.ap,
  fun a cs h1=>⟨(h.opn a cs h1).1,(h.opn a cs h1).2.1,fun f x hx=>by obtain ⟨v,h2,h3⟩:=(h.opn a cs h1).2.2 f x hx;exact ⟨v,h2,h3.chg T hc hT hS⟩⟩⟩
def PB.chg {Tc S S':List Nat} {w w':World} {φ:Nat->RA} {be:TypeId} {d:Nat} {u:T.U d} {b:Nat} (hc:Chg Tc w w') (hT: ∀b∈Tc,b∈S) (hS: ∀b∈S',b∈S\/w.heap.size<=b) (hb:b∉Tc) (h:PB T w S φ be d u b):PB T w' S' φ be d u b:=by
 obtain ⟨c,h1,h2⟩:=h;exact ⟨c,h1.chg hc hb,h2.chg T hc hT hS⟩
def PRel.chg {Tc S S':List Nat} {w w':World} {φ:Nat->RA} {r:RA} {k:IntKind} {be:TypeId} {d:Nat} {m:List (Int×T.U d)} {op:Option (Int×Nat)} {l:List MapEntry} {bs:List Nat} (hc:Chg Tc w w') (hT: ∀b∈Tc,b∈S) (hS: ∀b∈S',b∈S\/w.heap.size<=b) (hb: ∀b∈r.xs,(∀a,r.ad=some a->a.block≠b)->b∉Tc) (h:PRel T w S φ r k be d m op l bs):PRel T w' S' φ r k be d m op l bs:=
 ⟨h.len,h.lenb,h.nd,fun p x u e b h1 h2 h3=>by
  obtain ⟨g1,g2,g3,g4⟩:=h.at_ p x u e b h1 h2 h3;exact ⟨g1,g2,g3,fun hn=>⟨(g4 hn).1,(g4 hn).2.1,(g4 hn).2.2.chg T hc hT hS (hb b (g4 hn).1 (g4 hn).2.1)⟩⟩,h.ap,h.opn⟩
def Ent.live {U:Nat->Type}:Ent U->Bool| .gone=>false|_=>true
def EntR.chg {Tc S S':List Nat} {w w':World} {φ:Nat->RA} (hc:Chg Tc w w') (hT: ∀b∈Tc,b∈S) (hS: ∀b∈S',b∈S\/w.heap.size<=b) {i:Nat} {e:Ent T.U} (h:EntR T w S φ i e)
  (hl:e.live=true-> ∀a,At (φ i) a->a.block∉Tc/\a.block∈S'):EntR T w' S' φ i e:=by
 cases e with
 |blk e cs=>
  obtain ⟨g,c,h1,h2,h3,h4⟩:=h;obtain ⟨h5,h6⟩:=hl rfl _ (.inl h1);exact ⟨g,c,h1,h2.chg hc h5,h6,h4.chg T hc hT hS⟩
 |row e t xs=>
  obtain ⟨B,vals,h1,hn,h2,h3,h4⟩:=h;refine ⟨B,vals,?_,hn,W9 h2 hc.size,h3.chg T hc hT hS,fun a ha=>(hl rfl a (.inl ha)).2⟩;cases hφ:(φ i).ad with
  |none=>rw [hφ] at h1;exact h1.chg hc (.inr rfl)
  |some a=>rw [hφ] at h1;exact h1.chg hc (.inl (hl rfl a (.inl hφ)).1)
 |map k es=>
  obtain ⟨g,l,c,h1,h2,h3,h4,h7⟩:=h;obtain ⟨h5,h6⟩:=hl rfl _ (.inl h1);exact ⟨g,l,c,h1,h2.chg hc h5,h6,h4.chg T hc hT hS,h7⟩
 |tmap k t m=>
  obtain ⟨g,l,c,h1,h2,h3,h4,h7⟩:=h;obtain ⟨h5,h6⟩:=hl rfl _ (.inl h1);exact ⟨g,l,c,h1,h2.chg hc h5,h6,h4.chg T hc hT hS,h7⟩
 |drow e d fe xs op=>
  obtain ⟨B,vals,h1,hn,h2,h4,h5⟩:=h;refine ⟨B,vals,?_,hn,W9 h2 hc.size,fun a ha=>(hl rfl a (.inl ha)).2,h5.chg T hc hT hS fun b hb _=>(hl rfl ⟨b,0,none⟩ (.inr hb)).1⟩;cases hφ:(φ i).ad with
  |none=>rw [hφ] at h1;exact h1.chg hc (.inr rfl)
  |some a=>rw [hφ] at h1;exact h1.chg hc (.inl (hl rfl a (.inl hφ)).1)
 |pmap k be d m op=>
  obtain ⟨g,l,c,bs,h1,h2,h3,h4,h7⟩:=h;obtain ⟨h5,h6⟩:=hl rfl _ (.inl h1);exact ⟨g,l,c,bs,h1,h2.chg hc h5,h6,h4.chg T hc hT hS fun b hb _=>(hl rfl ⟨b,0,none⟩ (.inr hb)).1,h7⟩
 |hid=>exact h
 |gone=>trivial
def qo0:Option (Int×Nat)->List Nat|some (_,j)=> [j]|none=> []
def vn0 (ρ:Nat->Nat):Option (Int×Nat)->Option (Int×Nat)|some (x,j)=>some (x,ρ j)|none=>none
mutual
def vb0 {U:Nat->Type} {ρ:Nat->Nat}: ∀ {a:AV U},a.ids= []->a.ren ρ=a
 | .cell _,_=>by rw [AV.ren]
 | .ptr _ _,h=>by simp [AV.ids] at h
 | .eptr _ _ _ _,h=>by simp [AV.ids] at h
 | .lptr _ _ _ _,_=>by rw [AV.ren]
 | .own _,h=>by simp [AV.ids] at h
 | .sl _ _ _ _,h=>by simp [AV.ids] at h
 | .agg cs,h=>by rw [AV.ren,yc5 (by rwa [AV.ids] at h)]
 | .tup cs,h=>by rw [AV.ren,yc5 (by rwa [AV.ids] at h)]
 | .fn _ a b,h=>by rw [AV.ids,R3] at h;rw [AV.ren,yc5 h.1,yc5 h.2]
 | .ifc _ a,h=>by rw [AV.ren,vb0 (by rwa [AV.ids] at h)]
 | .raw _,_=>by rw [AV.ren]
 | .arr _ _ _,_=>by rw [AV.ren]
 | .aptr _ _ _ _ _ _,h=>by simp [AV.ids] at h
 | .asl _ _ _ _ _ _,h=>by simp [AV.ids] at h
 | .mp _,h=>by simp [AV.ids] at h
 | .hmp _,h=>by simp [AV.ids] at h
def yc5 {U:Nat->Type} {ρ:Nat->Nat}: ∀ {aS:List (AV U)},j8 aS= []->zh7 ρ aS=aS
 | [],_=>by rw [zh7]
 |a::r,h=>by rw [j8,R3] at h;rw [zh7,vb0 h.1,yc5 h.2]
end
def PB.renS {w:World} {S:List Nat} {φ φ':Nat->RA} {be:TypeId} {d:Nat} {u:T.U d} {b:Nat} (h:PB T w S φ be d u b):PB T w S φ' be d u b:=by
 obtain ⟨c,h1,h2⟩:=h;have:=h2.renS T (ρ:=id) (φ':=φ') fun i hi=>by rw [T.bl0] at hi;cases hi
 rw [yc5 (T.bl0 d u)] at this;exact ⟨c,h1,this⟩
def ys4 {ρ:Nat->Nat} {op:Option (Int×Nat)} {x:Int}:jl4 (vn0 ρ op) x=(jl4 op x).map ρ:=by
 cases op with
 |none=>rfl
 |some p=>obtain ⟨y,j⟩:=p;simp only [vn0,jl4];split<;>rfl
def vr8 {op:Option (Int×Nat)} {x:Int} {j:Nat} (h:jl4 op x=some j):j∈qo0 op:=by
 cases op with
 |none=>cases h
 |some p=>obtain ⟨y,i⟩:=p;simp only [jl4] at h;split at h<;>simp_all [qo0]
def PRel.renS {w:World} {S:List Nat} {φ φ':Nat->RA} {ρ:Nat->Nat} {r:RA} {k:IntKind} {be:TypeId} {d:Nat} {m:List (Int×T.U d)} {op:Option (Int×Nat)} {l:List MapEntry} {bs:List Nat} (hc: ∀k∈qo0 op,RSame (φ' (ρ k)) (φ k)) (h:PRel T w S φ r k be d m op l bs):PRel T w S φ' r k be d m (vn0 ρ op) l bs:=by
 refine ⟨h.len,h.lenb,h.nd,fun p x u e b h1 h2 h3=>?_,fun p p' x x' u u' b hp h1 h2 h3 h4=>h.ap p p' x x' u u' b hp h1 h2 ?_ ?_,fun x j hj=>?_⟩
 ·obtain ⟨g1,g2,g3,g4⟩:=h.at_ p x u e b h1 h2 h3;refine ⟨g1,g2,fun j hj=>?_,fun hn=>?_⟩
  ·rw [ys4] at hj;obtain ⟨j0,hj0,rfl⟩:=Option.map_eq_some_iff.1 hj;exact (hc j0 (vr8 hj0)).1.trans (g3 j0 hj0)
  ·rw [ys4,Option.map_eq_none_iff] at hn;exact ⟨(g4 hn).1,(g4 hn).2.1,(g4 hn).2.2.renS T⟩
 ·rwa [ys4,Option.map_eq_none_iff] at h3
 ·rwa [ys4,Option.map_eq_none_iff] at h4
 ·cases op with
  |none=>cases hj
  |some p=>
   obtain ⟨y,i⟩:=p;simp only [vn0,X0,X7] at hj;exact hj.1▸h.opn y i rfl
def kk8 {U:Nat->Type}:Option (Nat×List (AV U))->List Nat|some (_,cs)=>j8 cs|none=> []
def vn1 {U:Nat->Type} (ρ:Nat->Nat):Option (Nat×List (AV U))->Option (Nat×List (AV U))|some (a,cs)=>some (a,zh7 ρ cs)|none=>none
def qk5 {U:Nat->Type} {ρ:Nat->Nat} {x:AV U}: ∀ {cs:List (AV U)} {f:Nat},(zh7 ρ cs)[f]?=some x-> ∃y,cs[f]?=some y/\x=y.ren ρ
 | [],f,h=>by simp [zh7] at h
 |a::r,0,h=>by simp [zh7] at h;exact ⟨a,rfl,h.symm⟩
 |a::r,f+1,h=>by simp [zh7] at h;simpa using qk5 h
def qk6 {U:Nat->Type} {ρ:Nat->Nat}: ∀(cs:List (AV U)),(zh7 ρ cs).length=cs.length
 | []=>rfl
 |a::r=>by simp [zh7,qk6 r]
def qx7 {U:Nat->Type} {i:Nat} {x:AV U}: ∀ {cs:List (AV U)} {f:Nat},cs[f]?=some x->i∈x.ids->i∈j8 cs
 | [],f,h,_=>by simp at h
 |a::r,0,h,hi=>by simp at h;subst h;rw [j8];exact X4.2 (.inl hi)
 |a::r,f+1,h,hi=>by simp at h;rw [j8];exact X4.2 (.inr (qx7 h hi))
def ji3 {sz j:Nat} {ρ:Nat->Nat} (op:Option (Nat×List (AV T.U))):ju8 T sz (vn1 ρ op) j↔ju8 T sz op j:=by cases op<;>exact Iff.rfl
def DRel.renS {w:World} {S:List Nat} {φ φ':Nat->RA} {ρ:Nat->Nat} {r:RA} {d:Nat} {fe:List TypeId} {xs:List (T.U d)} {op:Option (Nat×List (AV T.U))} {vals:List Value} (hc: ∀k∈kk8 op,RSame (φ' (ρ k)) (φ k)) (h:DRel T w S φ r d fe xs op vals):DRel T w S φ' r d fe xs (vn1 ρ op) vals:=by
 refine ⟨fun j c v h1 h2 h3=>h.cl j c v h1 h2 fun q=>h3 ((ji3 T op).2 q),fun j j' c c' v v' hj h1 h2 h3 h4 h5 h6=>h.ap j j' c c' v v' hj h1 h2 (fun q=>h3 ((ji3 T op).2 q)) h4 h5 fun q=>h6 ((ji3 T op).2 q),fun a cs hop=>?_⟩;cases op with
 |none=>cases hop
 |some p=>
  obtain ⟨a0,cs0⟩:=p;simp only [vn1,X0,X7] at hop;obtain ⟨rfl,rfl⟩:=hop;obtain ⟨h1,h2,h3⟩:=h.opn _ _ rfl;refine ⟨h1,by rw [qk6];exact h2,fun f x hx=>?_⟩;obtain ⟨y,hy,rfl⟩:=qk5 hx;obtain ⟨v,h4,h5⟩:=h3 f y hy;exact ⟨v,h4,h5.renS T fun i hi=>hc i (qx7 hy hi)⟩
end
end Go.X
namespace Go.X
open Go.RowKit Go.V
section
variable (T:Tab) (P:Program)
abbrev AF:=List (Nat×AV T.U)
def AF.get:AF T->Nat->Option (AV T.U)
 | [],_=>none
 |(j,v)::r,i=>match Nat.beq j i with|true=>some v|false=>AF.get r i
def za1 (F:AF T) (dst:Option Tmp) (v:AV T.U):AF T:=match dst with|some d=>(d,v)::F|none=>F
structure St where
 F:AF T
 H:List (Ent T.U)
def yo6:Value->AV T.U
 | .int k x=>.cell ⟨.int k,x⟩
 | .bool b=>.cell ⟨.bool,b⟩
 | .string s=>.cell ⟨.str,s⟩
 |v=>.raw v
def ofV:Value->AV T.U
 | .agg cs=>.agg (cs.toList.map (yo6 T))
 |v=>yo6 T v
def aev (F:AF T):Operand->Option (AV T.U)
 | .tmp t=>F.get T t
 | .const v=>some (ofV T v)
 | .func f=>some (.fn (.func f) [] [])
 | .global _=>none
def zn8 (F:AF T):List Operand->Option (List (AV T.U))
 | []=>some []
 |x::r=>match aev T F x,zn8 F r with|some a,some l=>some (a::l)|_,_=>none
def vj7:AV T.U->Option Value
 | .cell ⟨.int k,x⟩=>some (.int k x)
 | .cell ⟨.bool,b⟩=>some (.bool b)
 | .cell ⟨.str,s⟩=>some (.string s)
 | .raw v=>some v
 |_=>none
def qm8:List (AV T.U)->Option (List Value)
 | []=>some []
 |a::r=>match vj7 T a,qm8 r with|some v,some l=>some (v::l)|_,_=>none
def kk1:AV T.U->Option Value
 | .agg cs=>match qm8 T cs with|some l=>some (.agg l.toArray)|none=>none
 |a=>vj7 T a
abbrev cI (k:IntKind) (x:Int):AV T.U:=.cell ⟨.int k,x⟩
abbrev cB (b:Bool):AV T.U:=.cell ⟨.bool,b⟩
def kj8 (b:BinOp) (k:IntKind) (x y:Int):Option (AV T.U):=
 match b with
 | .add=>some (cI T k (k.wrap (x+y)))
 | .sub=>some (cI T k (k.wrap (x-y)))
 | .mul=>some (cI T k (k.wrap (x*y)))
 | .and=>some (cI T k (gc1 k x y))
 | .or=>some (cI T k (bOr k x y))
 | .xor=>some (cI T k (kj7 k x y))
 | .andNot=>some (cI T k (qu4 k x y))
 | .eql=>some (cB T (x==y))
 | .neq=>some (cB T (x != y))
 | .lss=>some (cB T (decide (x<y)))
 | .leq=>some (cB T (decide (x<=y)))
 | .gtr=>some (cB T (decide (x>y)))
 | .geq=>some (cB T (decide (x>=y)))
 |_=>none
def zc4 (a b:IntKind):Bool:=match a,b with
 | .i8,.i8| .i16,.i16| .i32,.i32| .i64,.i64| .u8,.u8| .u16,.u16| .u32,.u32| .u64,.u64=>true
 |_,_=>false
def km1 (t:TypeId) (lit:Bool):AV T.U->AV T.U->Option Bool
 | .raw n,a=>match P.underlying t with
  |some (.pointer _)=>match n with
   | .pointer none=>(match a with| .raw (.pointer none)=>some true| .ptr _ _=>some false| .eptr _ _ _ _=>some false| .lptr _ _ _ _=>some false| .aptr _ _ _ _ _ _=>some false|_=>none)
   |_=>none
  |some (.func _ _ _)=>match n with
   | .nilFunc=>(match a with| .raw .nilFunc=>some true| .fn _ _ _=>some false|_=>none)
   |_=>none
  |some (.interface ms)=>match n with
   | .nilIface=>(match a with| .ifc _ _=>some false| .raw .nilIface=>(match lit||ms.isEmpty with|true=>some true|false=>none)|_=>none)
   |_=>none
  |some (.map _ _)=>match n with
   | .map none=>(match a with| .raw (.map none)=>some true| .mp _=>some false|_=>none)
   |_=>none
  |some (.slice _)=>match n with
   | .slice none _ _=>(match a with| .raw (.slice none _ _)=>some true| .asl _ _ _ _ _ _=>some false|_=>none)
   |_=>none
  |_=>none
 |_,_=>none
def jl2 (neg r:Bool):Bool:=match neg with|true=> !r|false=>r
def eqA (t:TypeId) (lit:Bool) (a b:AV T.U) (neg:Bool):Option (AV T.U):=
 match km1 T P t lit a b with
 |some r=>some (cB T (jl2 neg r))
 |none=>match km1 T P t lit b a with
 |some r=>some (cB T (jl2 neg r))
 |none=>match kk1 T a,kk1 T b with
 |some (.bool x),some (.bool y)=>match eqB P 10000 t (.bool x) (.bool y) with|some r=>some (cB T (match neg with|true=> !r|false=>r))|none=>none
 |some (.agg x),some (.agg y)=>let x:=Value.agg x;let y:=Value.agg y;match P.eqGuardType P.depth t with
  |false=>match eqB P 10000 t x y with|some r=>some (cB T (match neg with|true=> !r|false=>r))|none=>none
  |true=>none
 |_,_=>none
def jd5:Operand->Bool| .const _=>true|_=>false
def kd6 (b:BinOp) (t:TypeId) (lit:Bool) (x y:AV T.U):Option (AV T.U):=
 match b,x,y with
 |b,.cell ⟨.int k,x⟩,.cell ⟨.int k',y⟩=>match zc4 k k' with|true=>kj8 T b k x y|false=>none
 | .eql,.cell ⟨.str,x⟩,.cell ⟨.str,y⟩=>some (cB T (ByteArray.toList x==ByteArray.toList y))
 | .neq,.cell ⟨.str,x⟩,.cell ⟨.str,y⟩=>some (cB T (!(ByteArray.toList x==ByteArray.toList y)))
 | .eql,x,y=>eqA T P t lit x y false
 | .neq,x,y=>eqA T P t lit x y true
 |_,_,_=>none
def unI (u:UnOp) (k:IntKind) (x:Int):Option (AV T.U):=match u with| .neg=>some (cI T k (k.wrap (0-x)))| .xor=>some (cI T k (kj7 k (if k.signed then-1 else k.max) x))|_=>none
def unA (u:UnOp):AV T.U->Option (AV T.U)
 | .cell ⟨.int k,x⟩=>unI T u k x
 | .cell ⟨.bool,b⟩=>match u with| .not=>some (cB T (!b))|_=>none
 |_=>none
def jy6 (t:TypeId) (j:Nat):Option (TypeId×Nat×Nat×Bool):=
 match P.underlying t with
 |some (.struct fs)=>match fs[j]? with
  |some f=>match P.info? f.type,P.underlying f.type with|some i,some d=>some (f.type,f.offset,i.size,ya1 d)|_,_=>none
  |none=>none
 |_=>none
def jk3 (cs:List (AV T.U)) (o n:Nat) (agg:Bool):Option (AV T.U):=
 match agg with
 |true=>match Nat.ble (o+n) cs.length with|true=>some (.agg ((cs.drop o).take n))|false=>none
 |false=>cs[o]?
def jy5 (t:TypeId) (j:Nat):AV T.U->Option (AV T.U)
 | .agg cs=>match jy6 P t j with|some (_,o,n,ag)=>jk3 T cs o n ag|none=>none
 |_=>none
def zd4:AV T.U->List (AV T.U)
 | .agg cs=>cs
 |a=> [a]
def yg8 (cs:List (AV T.U)) (o:Nat):List (AV T.U)->List (AV T.U)
 | []=>cs
 |a::r=>yg8 (cs.set o a) (o+1) r
def intOf:AV T.U->Option Int
 | .cell ⟨.int _,x⟩=>some x
 |_=>none
def ky3 (c:Bool) (x y:Int):Int:=if c=true then x else y
def ky2 (c:Bool) (x y:Bool):Bool:=if c=true then x else y
def kb0 (c:Bool):AV T.U->AV T.U->Option (AV T.U)
 | .cell ⟨.int k,x⟩,.cell ⟨.int k',y⟩=>match zc4 k k' with|true=>some (cI T k (ky3 c x y))|false=>none
 | .cell ⟨.bool,x⟩,.cell ⟨.bool,y⟩=>some (cB T (ky2 c x y))
 |_,_=>none
def vy4 (f:Field):Option (Nat×Nat):=match P.info? f.type with|some i=>some (f.offset,i.size)|none=>none
def kf4 {α β:Type} (f:α->Option β):List α->Option (List β)
 | []=>some []
 |x::r=>match f x,kf4 f r with|some y,some l=>some (y::l)|_,_=>none
def jv8 (t:TypeId):Option (List (Nat×Nat)):=
 match P.underlying t with
 |some (.struct fs)=>kf4 (vy4 P) fs.toList
 |_=>none
def vy3 (t:TypeId):Option (Nat->Option (Nat×Nat)):=
 match P.underlying t with
 |some (.struct _)=>match jv8 P t with|some pl=>some (fun i=>pl[i]?)|none=>none
 |some (.array _ e)=>match P.info? e with|some i=>some (fun k=>some (k*i.size,i.size))|none=>none
 |_=>none
def zv4:AV T.U->Bool
 | .agg _=>false| .tup _=>false| .eptr _ _ _ _=>false| .lptr _ _ _ _=>false| .raw (.agg _)=>false| .raw (.tuple _)=>false| .arr _ _ _=>false
 |_=>true
def zz6:AV T.U->Bool
 | .agg _=>true
 |a=>zv4 T a
def yr7 (place:Nat->Option (Nat×Nat)) (cs:List (AV T.U)):List (Nat×AV T.U)->Option (List (AV T.U))
 | []=>some cs
 |(i,a)::r=>match place i with
  |some (o,n)=>match zz6 T a&&(Nat.beq (zd4 T a).length n&&Nat.ble (o+(zd4 T a).length) cs.length) with
   |true=>yr7 place (yg8 T cs o (zd4 T a)) r
   |false=>none
  |none=>none
def qb1 (e:TypeId):Option (List (AV T.U)):=match qb2 P e with|some c=>some (c.toList.map (yo6 T))|none=>none
def zu0 (F:AF T):List (Nat×Operand)->Option (List (Nat×AV T.U))
 | []=>some []
 |(i,x)::r=>match aev T F x,zu0 F r with|some a,some l=>some ((i,a)::l)|_,_=>none
def kw8:List (AV T.U)->Option (AV T.U)
 | [.cell ⟨.int k,x⟩]=>some (cI T k x)
 | [.cell ⟨.int k,x⟩,.cell ⟨.int k',y⟩]=>match zc4 k k' with|true=>some (cI T k (jp1 x y))|false=>none
 |_=>none
def kw7:List (AV T.U)->Option (AV T.U)
 | [.cell ⟨.int k,x⟩]=>some (cI T k x)
 | [.cell ⟨.int k,x⟩,.cell ⟨.int k',y⟩]=>match zc4 k k' with|true=>some (cI T k (gc4 x y))|false=>none
 |_=>none
def vx0 (t:TypeId):Option IntKind:=match P.underlying t with|some (.int k)=>some k|_=>none
def qo9 (a:AV T.U) (f:Nat):Option (AV T.U):=
 match a with
 | .ptr i o=>some (.ptr i (o+f))
 | .eptr i sz k c=>some (.eptr i sz k (c+f))
 | .lptr e xs k c=>some (.lptr e xs k (c+f))
 | .aptr i o sz n k c=>some (.aptr i o sz n k (c+f))
 |_=>none
def jf6 (o:Op) (F:AF T):Option (AV T.U):=
 match o with
 | .move x=>aev T F x
 | .assign x=>aev T F x
 | .binOp b t x y _=>match aev T F x,aev T F y with|some a,some c=>kd6 T P b t (jd5 x||jd5 y) a c|_,_=>none
 | .unOp u _ x=>match aev T F x with|some a=>unA T u a|none=>none
 | .convert s d x=>match aev T F x,vx0 P d,P.underlying s with|some (.cell ⟨.int _,x⟩),some k,some _=>some (cI T k (k.wrap x))|_,_,_=>none
 | .extract x i=>match aev T F x with|some (.tup vs)=>vs[i]?|_=>none
 | .field t x j=>match aev T F x with|some a=>jy5 T P t j a|none=>none
 | .makeInterface t x=>match aev T F x,P.underlying t with
  |some a,some d=>(match d with| .interface _=>none|_=>some (.ifc t a))
  |_,_=>none
 | .makeFunc f a b=>match zn8 T F a.toList,zn8 T F b.toList with|some x,some y=>some (.fn f x y)|_,_=>none
 | .build t ps=>match vy3 P t,qb1 T P t,zu0 T F ps.toList with
  |some pf,some z,some l=>(match yr7 T pf z l with|some cs=>some (.agg cs)|none=>none)
  |_,_,_=>none
 | .fieldAddr t x j=>match aev T F x,jy6 P t j with
  |some a,some (_,f,n,_)=>(match Nat.beq n 0 with|true=>none|false=>qo9 T a f)
  |_,_=>none
 |_=>none
def divA {R:Type} (b:BinOp) (x y:AV T.U) (K:AV T.U->Option R):Option R:=
 match b,x,y with
 | .quo,.cell ⟨.int k,x⟩,.cell ⟨.int k',y⟩=>match zc4 k k' with|true=>divI k x y K|false=>none
 | .rem,.cell ⟨.int k,x⟩,.cell ⟨.int k',y⟩=>match zc4 k k' with|true=>remI k x y K|false=>none
 | .shl,.cell ⟨.int k,x⟩,.cell ⟨.int _,y⟩=>shlI k x y K
 | .shr,.cell ⟨.int k,x⟩,.cell ⟨.int _,y⟩=>shrI k x y K
 |_,_,_=>none
where
 divI {R:Type} (k:IntKind) (x y:Int) (K:AV T.U->Option R):Option R:=if y=0 then none else K (cI T k (k.wrap (x.tdiv y)))
 remI {R:Type} (k:IntKind) (x y:Int) (K:AV T.U->Option R):Option R:=if y=0 then none else K (cI T k (x.tmod y))
 shlI {R:Type} (k:IntKind) (x y:Int) (K:AV T.U->Option R):Option R:=if y<0 then none else K (cI T k (ge0 k x y))
 shrI {R:Type} (k:IntKind) (x y:Int) (K:AV T.U->Option R):Option R:=if y<0 then none else K (cI T k (ko1 k x y))
def qa8 {R:Type} (s:ByteArray) (j:Int) (K:Int->Option R):Option R:=match (if 0<=j then s[j.toNat]? else none) with|some b=>K (b.toNat:Int)|none=>none
def gc8 (H:List (Ent T.U)):AV T.U->Option Nat
 | .cell ⟨.list _,xs⟩=>some (List.length (α:=den T.U _) xs)
 | .own i=>match H[i]? with|some (.row _ _ xs)=>some xs.length|some (.drow _ _ _ xs _)=>some xs.length|_=>none
 | .sl _ _ _ n=>some n
 | .asl _ _ _ _ _ m=>some m
 | .raw (.slice none 0 0)=>some 0
 |_=>none
section
variable {R:Type}
def zs2 (t:TypeId) (cs:List (AV T.U)) (o:Nat):Option (AV T.U):=
 match P.info? t,P.underlying t with
 |some i,some d=>jk3 T cs o i.size (ya1 d)
 |_,_=>none
def yy9:List (AV T.U)->Nat->Option (List (AV T.U))
 | [],_=>none
 |a::r,o=>match Nat.beq o 0 with
  |true=>some (a::r)
  |false=>match Nat.ble (wd T a) o with|true=>yy9 r (o-wd T a)|false=>none
def yt5 (f:List (AV T.U)->Option (List (AV T.U))):List (AV T.U)->Nat->Option (List (AV T.U))
 | [],o=>match Nat.beq o 0 with|true=>f []|false=>none
 |a::r,o=>match Nat.beq o 0 with
  |true=>f (a::r)
  |false=>match Nat.ble (wd T a) o with
   |true=>(match yt5 f r (o-wd T a) with|some l=>some (a::l)|none=>none)
   |false=>none
def jb8 {U:Nat->Type}:AV U->Option ((t:Ty)×Nat×List (den U t))| .arr t n xs=>some ⟨t,n,xs⟩|_=>none
def vw4 (cs:List (AV T.U)) (o n:Nat) (agg:Bool):Option (AV T.U):=
 match yy9 T cs o with
 |some (a::r)=>match agg with
  |false=>match za2 T a with|true=>some a|false=>none
  |true=>match jb8 a with
   |some ⟨t,m,xs⟩=>match Nat.beq (m*szT T t) n with|true=>some (.arr t m xs)|false=>none
   |none=>match Nat.ble n (r.length+1)&&((a::r).take n).all (za2 T) with|true=>some (.agg ((a::r).take n))|false=>none
 |_=>none
def ja4 (t:TypeId) (cs:List (AV T.U)) (o:Nat):Option (AV T.U):=
 match P.info? t,P.underlying t with
 |some i,some d=>vw4 T cs o i.size (ya1 d)
 |_,_=>none
def zf8 (t:TypeId):Option (Nat×Nat):=
 match P.underlying t with
 |some (.array n e)=>match P.info? e with|some i=>some (n,i.size)|none=>none
 |_=>none
def putOnes:List (AV T.U)->List (AV T.U)->Option (List (AV T.U))
 |cs,[]=>some cs
 | [],_::_=>none
 |a::r,b::l=>match za2 T a&&za2 T b with|true=>(match putOnes r l with|some s=>some (b::s)|none=>none)|false=>none
def jz9 (t:Ty) (n:Nat) (xs:List (den T.U t)):List (AV T.U)->Option (List (AV T.U))
 |a::r=>match jb8 a with
  |some ⟨t',n',_⟩=>match Nat.beq n' n&&Nat.beq (szT T t') (szT T t) with|true=>some (.arr t n xs::r)|false=>none
  |none=>none
 | []=>none
def zt6 (t:Ty) (x:den T.U t):List (AV T.U):=(za3 T t x).map .cell
def loadA (t:TypeId) (H:List (Ent T.U)):AV T.U->Option (AV T.U)
 | .ptr i o=>match H[i]? with|some (.blk _ cs)=>(match ja4 T P t cs o with|some (.eptr _ _ _ _)=>none|r=>r)|_=>none
 | .aptr i o sz n k c=>match H[i]? with
  |some (.blk _ cs)=>match yy9 T cs o with
   |some (a::_)=>match jb8 a with
    |some ⟨ty,n',xs⟩=>match Nat.beq n' n&&Nat.beq (szT T ty) sz with|true=>zs2 T P t (zt6 T ty (xs.getD k (zy1 T ty))) c|false=>none
    |none=>none
   |_=>none
  |_=>none
 | .eptr i _ k c=>match H[i]? with|some (.row _ ty xs)=>zs2 T P t (zt6 T ty (xs.getD k (zy1 T ty))) c|_=>none
 | .lptr e xs k c=>zs2 T P t (zt6 T e (xs.getD k (zy1 T e))) c
 |_=>none
def jy2:AV T.U->Option (Cell T.U)
 | .cell c=>some c
 |_=>none
def cellsOf:List (AV T.U)->Option (List (Cell T.U))
 | []=>some []
 |a::r=>match jy2 T a,cellsOf r with|some c,some l=>some (c::l)|_,_=>none
def vy5 (cs:List (Cell T.U)) (o:Nat):List (Cell T.U)->List (Cell T.U)
 | []=>cs
 |a::r=>vy5 (cs.set o a) (o+1) r
def jk6 (t:TypeId) (o n:Nat) (a:AV T.U):Bool:=
 match P.info? t with
 |some i=>zz6 T a&&(Nat.beq (zd4 T a).length i.size&&(Nat.ble (o+i.size) n&&(zd4 T a).all (zv4 T)))
 |none=>false
def jw0 (n sz k c:Nat) (l:List (Cell T.U)):List (AV T.U)->Option (List (AV T.U))
 |a::r=>match jb8 a with
  |some ⟨ty,n',xs⟩=>match Nat.beq n' n&&(Nat.beq (szT T ty) sz&&Nat.ble (c+l.length) sz) with
   |true=>match yn3 T ty (vy5 T (za3 T ty (xs.getD k (zy1 T ty))) c l) with|some y=>some (.arr ty n' (xs.set k y)::r)|none=>none
   |false=>none
  |none=>none
 | []=>none
def jg7 (ty:Ty):Nat->List (AV T.U)->Option (List (den T.U ty))
 |0,[]=>some []
 |0,_=>none
 |n+1,cs=>match cellsOf T (cs.take (szT T ty)) with
  |some l=>match yn3 T ty l,jg7 ty n (cs.drop (szT T ty)) with|some x,some r=>some (x::r)|_,_=>none
  |none=>none
def qt4 (bs:List (AV T.U)):List (AV T.U)->Option (List (AV T.U))
 |a::r=>match jb8 a with
  |some ⟨t,n,_⟩=>match jg7 T t n bs with|some xs=>jz9 T t n xs (a::r)|none=>none
  |none=>none
 | []=>none
def kg7 (bs l:List (AV T.U)):Option (List (AV T.U)):=match putOnes T l bs with|some r=>some r|none=>qt4 T bs l
def storeB (t:TypeId) (cs:List (AV T.U)) (o:Nat) (a:AV T.U):Option (List (AV T.U)):=
 match jb8 a with
 |some ⟨ty,n,xs⟩=>match P.info? t with
  |some i=>match Nat.beq (n*szT T ty) i.size with|true=>yt5 T (jz9 T ty n xs) cs o|false=>none
  |none=>none
 |none=>match jk6 T P t 0 (zd4 T a).length a with|true=>yt5 T (kg7 T (zd4 T a)) cs o|false=>none
def jb6 (t:TypeId) (H:List (Ent T.U)) (p a:AV T.U):Option (List (Ent T.U)):=
 match p with
 | .ptr i o=>match H[i]? with
  |some (.blk e cs)=>match storeB T P t cs o a with|some cs'=>some (H.set i (.blk e cs'))|none=>none
  |_=>none
 | .aptr i o sz n k c=>match H[i]? with
  |some (.blk e cs)=>match jk6 T P t 0 (zd4 T a).length a,cellsOf T (zd4 T a) with
   |true,some l=>(match yt5 T (jw0 T n sz k c l) cs o with|some cs'=>some (H.set i (.blk e cs'))|none=>none)
   |_,_=>none
  |_=>none
 | .eptr i _ k c=>match H[i]? with
  |some (.row e ty xs)=>match jk6 T P t c (szT T ty) a,cellsOf T (zd4 T a) with
   |true,some l=>match yn3 T ty (vy5 T (za3 T ty (xs.getD k (zy1 T ty))) c l) with|some y=>some (H.set i (.row e ty (xs.set k y)))|none=>none
   |_,_=>none
  |_=>none
 |_=>none
structure Elems where
 ty:TypeId->Option Ty
def yq4 (t:TypeId) (e:Ty):Bool:=match zk5 P t with|some s=>Nat.beq s (szT T e)|none=>false
def zz2 (t:TypeId) (H:List (Ent T.U)) (s:AV T.U) (j:Int) (K:AV T.U->Option R):Option R:=
 match s with
 | .cell ⟨.list e,xs⟩=>match yq4 T P t e with
  |true=>if 0<=j/\j<((List.length (α:=den T.U e) xs:Nat):Int) then K (.lptr e xs j.toNat 0) else none
  |false=>none
 | .own i=>match H[i]? with
  |some (.row _ ty xs)=>match yq4 T P t ty with
   |true=>if 0<=j/\j<((xs.length:Nat):Int) then K (.eptr i (szT T ty) j.toNat 0) else none
   |false=>none
  |_=>none
 | .sl i sz o n=>match H[i]? with
  |some (.row _ ty xs)=>match yq4 T P t ty,Nat.beq sz (szT T ty) with
   |true,true=>if 0<=j/\j<((n:Nat):Int) then (if o+j.toNat<xs.length then K (.eptr i sz (o+j.toNat) 0) else none) else none
   |_,_=>none
  |some (.blk _ _)=>match zk5 P t with
   |some s=>match Nat.beq s sz with
    |true=>if 0<=j/\j<((n:Nat):Int) then K (.ptr i ((o+j.toNat)*sz)) else none
    |false=>none
   |none=>none
  |_=>none
 | .asl i o sz n lo m=>match zk5 P t with
  |some s=>match Nat.beq s sz with
   |true=>if 0<=j/\j<((m:Nat):Int) then K (.aptr i o sz n (lo+j.toNat) 0) else none
   |false=>none
  |none=>none
 |_=>none
def yc0 (n sz:Nat) (H:List (Ent T.U)) (s:AV T.U) (j:Int) (K:AV T.U->Option R):Option R:=
 match s with
 | .ptr i o=>match H[i]? with
  |some (.blk _ cs)=>match yy9 T cs o with
   |some (a::_)=>match jb8 a with
    |some ⟨ty,m,_⟩=>match Nat.beq m n&&Nat.beq (szT T ty) sz with
     |true=>if 0<=j/\j<((n:Nat):Int) then K (.aptr i o sz n j.toNat 0) else none
     |false=>none
    |none=>if 0<=j/\j<((n:Nat):Int) then K (.ptr i (o+j.toNat*sz)) else none
   |_=>none
  |_=>none
 | .lptr e xs k c=>match Nat.beq (szT T e) sz&&Nat.beq c 0 with
  |true=>if 0<=j/\j<((n:Nat):Int) then (if k+j.toNat<List.length (α:=den T.U e) xs then K (.lptr e xs (k+j.toNat) 0) else none) else none
  |false=>none
 | .eptr i s k c=>match H[i]? with
  |some (.row _ ty xs)=>match Nat.beq (szT T ty) sz&&(Nat.beq s sz&&Nat.beq c 0) with
   |true=>if 0<=j/\j<((n:Nat):Int) then (if k+j.toNat<xs.length then K (.eptr i sz (k+j.toNat) 0) else none) else none
   |false=>none
  |_=>none
 |_=>none
def yn2 (n sz:Nat) (H:List (Ent T.U)) (s:AV T.U) (lo hi:Option Int) (K:AV T.U->Option R):Option R:=
 let l:=lo.getD 0
 let h:=hi.getD ((n:Nat):Int)
 match s with
 | .ptr i o=>match H[i]? with
  |some (.blk _ cs)=>match yy9 T cs o with
   |some (a::_)=>match jb8 a with
    |some ⟨ty,m,_⟩=>match Nat.beq m n&&Nat.beq (szT T ty) sz with
     |true=>if 0<=l/\l<=h/\h<=((n:Nat):Int) then K (.asl i o sz n l.toNat (h.toNat-l.toNat)) else none
     |false=>none
    |none=>none
   |_=>none
  |_=>none
 | .lptr e xs k c=>match Nat.beq (szT T e) sz&&(Nat.beq c 0&&Nat.beq k 0) with
  |true=>if n<=List.length (α:=den T.U e) xs then (if 0<=l/\l<=h/\h<=((n:Nat):Int) then K (.cell ⟨.list e,(List.take (h.toNat-l.toNat) (List.drop l.toNat (xs:List (den T.U e))))⟩) else none) else none
  |false=>none
 |_=>none
def yl5 (n sz:Nat) (H:List (Ent T.U)) (s:AV T.U) (K:AV T.U->Option R):Option R:=
 match s with
 | .cell ⟨.list e,xs⟩=>match Nat.beq (szT T e) sz&&Nat.ble 1 n with
  |true=>if n<=List.length (α:=den T.U e) xs then K (.lptr e xs 0 0) else none
  |false=>none
 | .own i=>match H[i]? with
  |some (.row _ ty xs)=>match Nat.beq (szT T ty) sz&&Nat.ble 1 n with
   |true=>if n<=xs.length then K (.eptr i sz 0 0) else none
   |false=>none
  |_=>none
 |_=>none
def yk2 (n sz:Nat) (ok:Bool) (H:List (Ent T.U)) (s:AV T.U) (K:AV T.U->Option R) (D:Option R):Option R:=
 match s with
 | .lptr e xs k c=>match ok&&(Nat.beq (szT T e) sz&&Nat.beq c 0) with
  |true=>if k+n<=List.length (α:=den T.U e) xs then K (.arr e n (List.take n (List.drop k (xs:List (den T.U e))))) else none
  |false=>D
 | .eptr i s k c=>match H[i]? with
  |some (.row _ ty xs)=>match ok&&(Nat.beq (szT T ty) sz&&(Nat.beq s sz&&Nat.beq c 0)) with
   |true=>if k+n<=xs.length then K (.arr ty n (List.take n (List.drop k xs))) else none
   |false=>D
  |_=>D
 |_=>D
def eIs (t:TypeId) (e:Ty):Bool:=match zl5 P t with|some (_,sz,_,_)=>Nat.beq sz (szT T e)|none=>false
def yc7 (t:TypeId) (H:List (Ent T.U)) (s:AV T.U) (lo hi:Option Int) (K:AV T.U->Option R):Option R:=
 match s with
 | .cell ⟨.list e,xs⟩=>
  let n:=List.length (α:=den T.U e) xs
  let l:=lo.getD 0
  let h:=hi.getD ((n:Nat):Int)
  match eIs T P t e with
  |true=>if 0<=l/\l<=h/\h<=((n:Nat):Int) then K (.cell ⟨.list e,(List.take (h.toNat-l.toNat) (List.drop l.toNat (xs:List (den T.U e))))⟩) else none
  |false=>none
 | .own i=>match H[i]? with
  |some (.row _ ty xs)=>
   let l:=lo.getD 0
   let h:=hi.getD ((xs.length:Nat):Int)
   match eIs T P t ty with
   |true=>if 0<=l/\l<=h/\h<=((xs.length:Nat):Int) then K (.sl i (szT T ty) l.toNat (h.toNat-l.toNat)) else none
   |false=>none
  |_=>none
 | .sl i sz o n=>match H[i]? with
  |some (.row _ ty xs)=>
   let l:=lo.getD 0
   let h:=hi.getD ((n:Nat):Int)
   match eIs T P t ty,Nat.beq sz (szT T ty) with
   |true,true=>if 0<=l/\l<=h/\(h<=((n:Nat):Int)\/(((o:Nat):Int)+h<=((xs.length:Nat):Int)/\(o=0\/0<n))) then K (.sl i sz (o+l.toNat) (h.toNat-l.toNat)) else none
   |_,_=>none
  |_=>none
 | .asl i o sz n o1 m=>
  let l:=lo.getD 0
  let h:=hi.getD ((m:Nat):Int)
  match zl5 P t with
  |some (_,s,_,_)=>match Nat.beq s sz with
   |true=>if 0<=l/\l<=h/\((o1:Nat):Int)+h<=((n:Nat):Int) then K (.asl i o sz n (o1+l.toNat) (h.toNat-l.toNat)) else none
   |false=>none
  |none=>none
 |_=>none
def qs2 (ty:Ty) (t:TypeId) (len:Nat) (ps:List (Nat×AV T.U)):Option (TypeId×List (den T.U ty)):=
 match zl5 P t with
 |some (e,sz,_,zc)=>match Nat.beq sz (szT T ty)&&(Nat.ble 1 sz&&Nat.ble (len*sz) 16777216) with
  |true=>match yr7 T (fun j=>some (j*sz,sz)) ((List.range (len*sz)).map fun j=>yo6 T (zc[j%sz]!)) ps with
   |some cs=>match jg7 T ty len cs with|some xs=>some (e,xs)|none=>none
   |none=>none
  |false=>none
 |none=>none
def jk1 (t:TypeId) (len:Nat) (ps:List (Nat×AV T.U)):Option (TypeId×Nat×List (AV T.U)):=
 match zl5 P t with
 |some (e,sz,_,zc)=>match Nat.ble 1 sz&&Nat.ble (len*sz) 16777216 with
  |true=>match yr7 T (fun j=>some (j*sz,sz)) ((List.range (len*sz)).map fun j=>yo6 T (zc[j%sz]!)) ps with
   |some cs=>match cs.all (za2 T) with|true=>some (e,sz,cs)|false=>none
   |none=>none
  |false=>none
 |none=>none
def yl9 (t:TypeId) (H:List (Ent T.U)) (s:AV T.U) (K:AV T.U->List (Ent T.U)->Option R):Option R:=
 match s with
 | .mp i=>match H[i]?,P.underlying t with
  |some (.tmap k ty _),some (.map _ _)=>K (.tup []) (H.set i (.tmap k ty []))
  |_,_=>none
 | .sl i sz o n=>match H[i]? with
  |some (.row e ty xs)=>match zl5 P t with
   |some (_,s,_,zc)=>match Nat.beq s (szT T ty)&&Nat.beq sz (szT T ty),cellsOf T (zc.toList.map (yo6 T)) with
    |true,some z=>match yn3 T ty z with
     |some x0=>if o+n<=xs.length then K (.tup []) (H.set i (.row e ty (xs.take o++(List.replicate n x0++xs.drop (o+n))))) else none
     |none=>none
    |_,_=>none
   |none=>none
  |_=>none
 |_=>none
def kk5 (x y:Int):Bool:=x==y
def ge3 (x y:Bool):Bool:=x==y
def qt7:AV T.U->AV T.U->Bool
 | .cell ⟨.int k,x⟩,.cell ⟨.int k',y⟩=>zc4 k k'&&kk5 x y
 | .cell ⟨.bool,a⟩,.cell ⟨.bool,b⟩=>ge3 a b
 |_,_=>false
def jm2:List (AV T.U)->List (AV T.U)->Option (List (AV T.U))
 | [],r=>some r
 |_::_,[]=>none
 |a::z,b::r=>match qt7 T a b with|true=>jm2 z r|false=>none
def jl7 (z:List (AV T.U)):Nat->List (AV T.U)->Bool
 |0,r=>r.isEmpty
 |n+1,r=>match jm2 T z r with|some s=>jl7 z n s|none=>false
def jy8 {U:Nat->Type}:AV U->Bool| .raw (.slice none 0 0)=>true|_=>false
def qt2 (n:Nat) (aS:List (AV T.U)):(t:Ty)->Option (List (den T.U t))
 | .nl e=>match aS.all jy8&&Nat.beq aS.length n with|true=>some (List.replicate n ([]:List (den T.U e)))|false=>none
 |_=>none
def ka0 (t:Ty) (n:Nat) (aS:List (AV T.U)):Option (List (den T.U t)):=
 match qt2 T n aS t with
 |some xs=>some xs
 |none=>match cellsOf T (aS.take (szT T t)) with
  |some l=>match yn3 T t l with
   |some x=>match jl7 T (aS.take (szT T t)) n aS with|true=>some (List.replicate n x)|false=>jg7 T t n aS
   |none=>none
  |none=>none
abbrev Lay:=List (Option (Ty×Nat))
def yq5:Lay->List (AV T.U)->Option (List (AV T.U))
 | [],aS=>match aS with| []=>some []|_::_=>none
 |none::r,aS=>match aS with
  |a::s=>match za2 T a with|true=>(match yq5 r s with|some l=>some (a::l)|none=>none)|false=>none
  | []=>none
 |some (t,n)::r,aS=>match ka0 T t n (aS.take (n*szT T t)),yq5 r (aS.drop (n*szT T t)) with|some xs,some l=>some (.arr t n xs::l)|_,_=>none
def ke9 (ls:Option Lay) (aS:List (AV T.U)):Option (List (AV T.U)):=
 match ls with
 |none=>match aS.all (za2 T) with|true=>some aS|false=>none
 |some l=>yq5 T l aS
def kv9 (ls:Option Lay) (a:AV T.U):Option (List (AV T.U)):=
 match jb8 a with
 |some _=>some [a]
 |none=>match zz6 T a with|true=>ke9 T ls (zd4 T a)|false=>none
def appA (ty:Ty) (t:TypeId) (H:List (Ent T.U)) (s x:AV T.U) (K:AV T.U->List (Ent T.U)->Option R):Option R:=
 match zl5 P t with
 |some (e,sz,by_,_)=>match Nat.beq sz (szT T ty)&&(Nat.ble 1 sz&&(Nat.ble 1 by_&&eOk e H s)) with
  |true=>rowB ty H s fun xs=>rowX ty H x fun ys=>if (xs.length+ys.length)*by_<=140737488355328 then K (.own H.length) (goneA H s++ [.row e ty (xs++ys)]) else none
  |false=>none
 |none=>none
where
 rowIn (ty:Ty) (H:List (Ent T.U)):AV T.U->Option (List (den T.U ty))
  | .cell c=>match c.aS (.list ty) with|some xs=>some xs|none=>none
  | .own i=>match H[i]? with|some (.row _ ty' xs)=>(if h:ty'=ty then some (h▸xs) else none)|_=>none
  | .raw (.slice none 0 0)=>some []
  |_=>none
 rowX {R:Type} (ty:Ty) (H:List (Ent T.U)) (x:AV T.U) (K:List (den T.U ty)->Option R):Option R:=
  match rowIn ty H x with
  |some ys=>K ys
  |none=>match x with
   | .sl i sz o n=>match H[i]? with
    |some (.row _ ty' xs)=>match Nat.beq sz (szT T ty') with
     |true=>(if h:ty'=ty then (if o+n<=xs.length then K ((h▸xs:List (den T.U ty)).drop o |>.take n) else none) else none)
     |false=>none
    |_=>none
   |_=>none
 rowB {R:Type} (ty:Ty) (H:List (Ent T.U)) (s:AV T.U) (K:List (den T.U ty)->Option R):Option R:=
  match s with
  | .sl i sz o n=>match H[i]? with
   |some (.row _ ty' xs)=>match Nat.beq sz (szT T ty')&&Nat.beq o 0 with
    |true=>(if h:ty'=ty then (if n<=xs.length then K ((h▸xs:List (den T.U ty)).take n) else none) else none)
    |false=>none
   |_=>none
  |s=>match rowIn ty H s with|some xs=>K xs|none=>none
 eOk (e:TypeId) (H:List (Ent T.U)):AV T.U->Bool
  | .own i=>match H[i]? with|some (.row e' _ _)=>Nat.beq e' e|_=>false
  | .sl i _ _ _=>match H[i]? with|some (.row e' _ _)=>Nat.beq e' e|_=>false
  | .cell _=>false
  |_=>true
 goneA (H:List (Ent T.U)):AV T.U->List (Ent T.U)
  | .own i=>H.set i .gone
  | .sl i _ _ _=>H.set i .gone
  |_=>H
def jn0 (ty:Ty) (t:TypeId) (H:List (Ent T.U)) (l c:Int) (K:AV T.U->List (Ent T.U)->Option R):Option R:=
 match zl5 P t with
 |some (e,sz,by_,zc)=>match Nat.beq sz (szT T ty),cellsOf T (zc.toList.map (yo6 T)) with
  |true,some z=>match yn3 T ty z with
   |some x0=>if 0<=l/\l<=c/\by_*c.toNat<=281474976710656/\c<=9223372036854775807 then K (.own H.length) (H++ [.row e ty (List.replicate l.toNat x0)]) else none
   |none=>none
  |_,_=>none
 |none=>none
def qs1 (e:TypeId):Option (AV T.U):=match P.info? e with|some i=>(match i.zero with|some z=>some (ofV T z)|none=>none)|none=>none
def yt9 (a:AV T.U) (at_:TypeId) (ok:Bool):Option (AV T.U):=
 match P.underlying at_,a with
 |some d,.ifc t x=>match d with
  | .interface _=>none
  |_=>match Nat.beq t at_ with
   |true=>match ok with|true=>some (.tup [x,cB T true])|false=>some x
   |false=>match ok,qs1 T P at_ with
    |true,some z=>some (.tup [z,cB T false])
    |_,_=>none
 |_,_=>none
def zb7 (ty:Ty):List (Int×den T.U ty)->Int->den T.U ty
 | [],_=>zy1 T ty
 |(y,a)::r,x=>if x=y then a else zb7 ty r x
def zf1 {α:Type}:List (Int×α)->Int->Bool
 | [],_=>false
 |(y,_)::r,x=>if x=y then true else zf1 r x
def k8 {α:Type}:List (Int×α)->Int->α->List (Int×α)
 | [],x,a=> [(x,a)]
 |(y,b)::r,x,a=>if x=y then (x,a)::r else (y,b)::k8 r x a
def zc9 {α:Type}:List (Int×α)->Int->List (Int×α)
 | [],_=> []
 |(y,b)::r,x=>if x=y then r else (y,b)::zc9 r x
def zTy:Ty->Value->Bool
 | .int k,.int k' x=>zc4 k k'&&eqZ x
 | .bool,.bool b=> !b
 | .list _,.slice none n c=>Nat.beq n 0&&Nat.beq c 0
 |_,_=>false
where
 eqZ (x:Int):Bool:=x==0
def kc6 (e:TypeId) (ty:Ty):Bool:=match P.info? e with|some i=>(match i.zero with|some z=>zTy ty z|none=>false)|none=>false
def qt1 (co:Bool) (ty:Ty) (es:List (Int×den T.U ty)) (x:Int):AV T.U:=
 match co with|true=>.tup [.cell ⟨ty,zb7 T ty es x⟩,cB T (zf1 es x)]|false=>.cell ⟨ty,zb7 T ty es x⟩
def km4 (ty:Ty) (a:AV T.U):Option (den T.U ty):=match a with| .cell c=>c.aS ty|_=>none
def yu8 (t:TypeId):Option (IntKind×TypeId×TypeId):=
 match P.underlying t with
 |some (.map kt et)=>match P.underlying kt with|some (.int k)=>some (k,kt,et)|_=>none
 |_=>none
def ja5 (co:Bool) (z:AV T.U) (x:Int) (K:AV T.U->Option R):List (Int×AV T.U)->Option R
 | []=>K (match co with|true=>.tup [z,cB T false]|false=>z)
 |(y,a)::r=>if x=y then K (match co with|true=>.tup [a,cB T true]|false=>a) else ja5 co z x K r
def jd9 (t:TypeId) (co:Bool) (H:List (Ent T.U)) (m:AV T.U) (kx:IntKind) (x:Int) (K:AV T.U->Option R):Option R:=
 match m,yu8 P t with
 | .mp i,some (k,_,et)=>match H[i]? with
  |some (.map k' es)=>match zc4 k k'&&zc4 kx k',qs1 T P et with|true,some z=>ja5 T co z x K es|_,_=>none
  |some (.tmap k' ty es)=>match zc4 k k'&&(zc4 kx k'&&kc6 P et ty) with|true=>K (qt1 T co ty es x)|false=>none
  |_=>none
 |_,_=>none
def vw9 (t:TypeId) (H:List (Ent T.U)) (m:AV T.U) (kx:IntKind) (x:Int) (a:AV T.U):Option (List (Ent T.U)):=
 match m,yu8 P t with
 | .mp i,some (k,_,_)=>match H[i]? with
  |some (.map k' es)=>match zc4 k k'&&zc4 kx k' with|true=>some (H.set i (.map k' (k8 es x a)))|false=>none
  |some (.tmap k' ty es)=>match zc4 k k'&&zc4 kx k',km4 T ty a with|true,some y=>some (H.set i (.tmap k' ty (k8 es x y)))|_,_=>none
  |_=>none
 |_,_=>none
def kd9 (t:TypeId) (H:List (Ent T.U)) (m:AV T.U) (kx:IntKind) (x:Int):Option (List (Ent T.U)):=
 match m,yu8 P t with
 | .mp i,some (k,_,_)=>match H[i]? with
  |some (.map k' es)=>match zc4 k k'&&zc4 kx k' with|true=>some (H.set i (.map k' (zc9 es x)))|false=>none
  |some (.tmap k' ty es)=>match zc4 k k'&&zc4 kx k' with|true=>some (H.set i (.tmap k' ty (zc9 es x)))|false=>none
  |_=>none
 |_,_=>none
end
end
end Go.X
namespace Go.X
open Go.RowKit Go.V
section
variable (T:Tab) (P:Program) {w:World} {S:List Nat} {φ:Nat->RA}
def FR (w:World) (S:List Nat) (φ:Nat->RA) (F:AF T) (F':PF):Prop:= ∀i a,F.get T i=some a-> ∃v,F'.get i=some v/\VR T w S φ a v
def yi3 (v:Value):VR T w S φ (yo6 T v) v:=by
 cases v<;>first|exact .int _ _|exact .bool _|exact .str _|rfl
def ya7: ∀(l:List Value),VRL T w S φ (l.map (yo6 T)) l
 | []=>trivial
 |v::r=>⟨yi3 T v,ya7 r⟩
def jv5 (v:Value):VR T w S φ (ofV T v) v:=by
 have h:VR T w S φ (yo6 T v) v:=yi3 T v;cases v<;>first|exact h|exact ⟨_,rfl,ya7 T _⟩
variable {T}
def z8 {F:AF T} {F':PF} (hF:FR T w S φ F F') {x:Operand} {a:AV T.U} (h:aev T F x=some a): ∃v,ev F' x=some v/\VR T w S φ a v:=by
 cases x with
 |tmp t=>exact hF t a h
 |const v=>simp only [aev,X0] at h;subst h;exact ⟨v,rfl,jv5 T v⟩
 |global g=>cases h
 |func f=>simp only [aev,X0] at h;subst h;exact ⟨_,rfl,#[],#[],rfl,trivial,trivial⟩
def yb5 {F:AF T} {F':PF} (hF:FR T w S φ F F'): ∀ {l:List Operand} {aS:List (AV T.U)},zn8 T F l=some aS->VRL T w S φ aS (l.map (evD F'))
 | [],aS,h=>by simp only [zn8,X0] at h;subst h;trivial
 |x::r,aS,h=>by
  unfold zn8 at h;split at h
  ·rename_i a l ha hl;simp only [X0] at h;subst h;obtain ⟨v,h1,h2⟩:=z8 hF ha;exact ⟨by simpa [evD,h1] using h2,yb5 hF hl⟩
  ·cases h
def j6 {F':PF} {x:Operand} {v:Value} (h:ev F' x=some v):evD F' x=v:=by simp [evD,h]
def v7 {k:IntKind} {x:Int} {v:Value} (h:VR T w S φ (.cell ⟨.int k,x⟩) v):v=.int k x:=by
 have h:CR T w S (.int k) x v:=h;cases h;rfl
def zd7 {b:Bool} {v:Value} (h:VR T w S φ (.cell ⟨.bool,b⟩) v):v=.bool b:=by
 have h:CR T w S .bool b v:=h;cases h;rfl
def zo7 {s:ByteArray} {v:Value} (h:VR T w S φ (.cell ⟨.str,s⟩) v):v=.string s:=by
 have h:CR T w S .str s v:=h;cases h;rfl
def jo3 {a:AV T.U} {u v:Value} (h:vj7 T a=some u) (hv:VR T w S φ a v):v=u:=by
 unfold vj7 at h;split at h
 ·simp only [X0] at h;subst h;exact v7 hv
 ·simp only [X0] at h;subst h;exact zd7 hv
 ·simp only [X0] at h;subst h;exact zo7 hv
 ·simp only [X0] at h;subst h;exact hv
 ·cases h
def jo4: ∀ {aS:List (AV T.U)} {us vs:List Value},qm8 T aS=some us->VRL T w S φ aS vs->vs=us
 | [],us,vs,h,hv=>by
  simp only [qm8,X0] at h;subst h;cases vs with|nil=>rfl|cons _ _=>exact hv.elim
 |a::r,us,vs,h,hv=>by
  unfold qm8 at h;split at h
  ·rename_i u l hu hl;simp only [X0] at h;subst h;cases vs with
   |nil=>exact hv.elim
   |cons v s=>rw [jo3 hu hv.1,jo4 hl hv.2]
  ·cases h
def yr3 {a:AV T.U} {u v:Value} (h:kk1 T a=some u) (hv:VR T w S φ a v):v=u:=by
 unfold kk1 at h;split at h
 ·split at h
  ·rename_i l hl;simp only [X0] at h;subst h;obtain ⟨vs,rfl,h2⟩:=hv;have:=jo4 hl h2;cases vs;simp_all
  ·cases h
 ·exact jo3 h hv
def k9 {a b:IntKind} (h:zc4 a b=true):a=b:=by cases a<;>cases b<;>first|rfl|cases h
def vo2 {b:BinOp} {k:IntKind} {x y:Int} {a:AV T.U} (h:kj8 T b k x y=some a) (t:TypeId): ∃v,(∀w0,(binOp b t (.int k x) (.int k y)).run P w0=.ok v w0)/\VR T w S φ a v:=by
 cases b<;>simp only [kj8,X0,reduceCtorEq] at h<;>subst h<;>first|(refine ⟨_,fun w0=>?_,CR.int _ _⟩;simp [binOp,Op.intArith,Op.intBits,gc1,bOr,kj7,qu4];done)|(refine ⟨_,fun w0=>?_,CR.bool _⟩;simp [binOp,Op.intCmp];done)
def vy9:Value->Bool| .pointer _=>true| .slice _ _ _=>true| .map _=>true| .func _ _ _=>true| .nilFunc=>true| .iface _ _=>true| .nilIface=>true|_=>false
def yu2 {t:TypeId} {X Y:Value} {r:Bool} {b:BinOp} {neg:Bool} (hb:b=if neg then .neq else .eql) (hX:vy9 X=true) (hY:vy9 Y=true) (h: ∀w0,(Op.equalIn 10000 t X Y).run P w0=.ok r w0) (w0:World):(binOp b t X Y).run P w0=.ok (.bool (jl2 neg r)) w0:=by
 subst hb;cases X<;>first|(cases hX;done)|(cases Y<;>first|(cases hY;done)|(cases neg<;>simp [binOp,Op.equal,Op.maxDepth,h,jl2]))
def yw7 {t:TypeId} {X Y:Value} {b:BinOp} (x' y':Operand) (hX:vy9 X=true) (hY:vy9 Y=true) (hn:X≠.nilIface\/Y≠.nilIface) (w0:World):(eqGuard b t x' y' X Y).run P w0=.ok () w0:=by
 cases X<;>first|(cases hX;done)|(cases Y<;>first|(cases hY;done)|(simp at hn;done)|(cases b<;>simp [eqGuard]))
def zl9 {t e:TypeId} (hu:P.underlying t=some (.pointer e)) (a:Option Addr) (w0:World):(Op.equalIn (9999+1) t (.pointer none) (.pointer a)).run P w0=.ok a.isNone w0/\(Op.equalIn (9999+1) t (.pointer a) (.pointer none)).run P w0=.ok a.isNone w0:=by
 cases a<;>constructor<;>(rw [Op.equalIn];simp [run_underlying hu])
def yu1 {t e:TypeId} (hu:P.underlying t=some (.slice e)) (m c:Nat) (a:Option Addr) (m' c':Nat) (w0:World):(Op.equalIn (9999+1) t (.slice none m c) (.slice a m' c')).run P w0=.ok a.isNone w0/\(Op.equalIn (9999+1) t (.slice a m' c') (.slice none m c)).run P w0=.ok a.isNone w0:=by
 cases a<;>constructor<;>(rw [Op.equalIn];simp [run_underlying hu])
def yr6 {t e e':TypeId} (hu:P.underlying t=some (.map e e')) (a:Option Nat) (w0:World):(Op.equalIn (9999+1) t (.map none) (.map a)).run P w0=.ok a.isNone w0/\(Op.equalIn (9999+1) t (.map a) (.map none)).run P w0=.ok a.isNone w0:=by
 cases a<;>constructor<;>(rw [Op.equalIn];simp [run_underlying hu])
def qg1 {lit:Bool} {t:TypeId} {x y:AV T.U} {r:Bool} (h:km1 T P t lit x y=some r) {X Y:Value} (hx:VR T w S φ x X) (hy:VR T w S φ y Y) {b:BinOp} {neg:Bool} (hb:b=if neg then .neq else .eql) (x' y':Operand) (hl:lit=true->jd5 x'=true\/jd5 y'=true):
  ((∀w0,(eqGuard b t x' y' X Y).run P w0=.ok () w0)/\ ∀w0,(eqGuard b t x' y' Y X).run P w0=.ok () w0)/\(∀w0,(binOp b t X Y).run P w0=.ok (.bool (jl2 neg r)) w0)/\ ∀w0,(binOp b t Y X).run P w0=.ok (.bool (jl2 neg r)) w0:=by
 have fin: ∀X Y:Value,vy9 X=true->vy9 Y=true->(X≠.nilIface\/Y≠.nilIface)->(∀w0,(Op.equalIn (9999+1) t X Y).run P w0=.ok r w0)->(∀w0,(Op.equalIn (9999+1) t Y X).run P w0=.ok r w0)->
   ((∀w0,(eqGuard b t x' y' X Y).run P w0=.ok () w0)/\ ∀w0,(eqGuard b t x' y' Y X).run P w0=.ok () w0)/\(∀w0,(binOp b t X Y).run P w0=.ok (.bool (jl2 neg r)) w0)/\ ∀w0,(binOp b t Y X).run P w0=.ok (.bool (jl2 neg r)) w0:=
  fun X Y h1 h2 h3 h4 h5=>⟨⟨yw7 P x' y' h1 h2 h3,yw7 P x' y' h2 h1 h3.symm⟩,yu2 P hb h1 h2 h4,yu2 P hb h2 h1 h5⟩
 have lits: ∀w0,lit=true->(eqGuard b t x' y' .nilIface .nilIface).run P w0=.ok () w0:=by
  intro w0 hl0;unfold eqGuard;rcases hl hl0 with h1|h1
  ·cases x'<;>first|(cases h1;done)|(cases b<;>simp)
  ·cases y'<;>first|(cases h1;done)|(cases b<;>simp)
 unfold km1 at h;split at h
 ·rename_i n;rw [VR] at hx;subst hx;split at h
  ·rename_i hu;split at h
   ·split at h<;>simp only [X0,reduceCtorEq] at h<;>subst h
    ·rw [VR] at hy;subst hy;exact fin _ _ rfl rfl (.inl (by simp)) (fun w0=>(zl9 P hu _ w0).1) (fun w0=>(zl9 P hu _ w0).2)
    ·obtain ⟨g,_,rfl⟩:=hy;exact fin _ _ rfl rfl (.inl (by simp)) (fun w0=>(zl9 P hu _ w0).1) (fun w0=>(zl9 P hu _ w0).2)
    ·obtain ⟨g,_,rfl⟩:=hy;exact fin _ _ rfl rfl (.inl (by simp)) (fun w0=>(zl9 P hu _ w0).1) (fun w0=>(zl9 P hu _ w0).2)
    ·obtain ⟨ad,cap,_,_,rfl⟩:=hy;exact fin _ _ rfl rfl (.inl (by simp)) (fun w0=>(zl9 P hu _ w0).1) (fun w0=>(zl9 P hu _ w0).2)
    ·obtain ⟨g,_,_,rfl⟩:=hy;exact fin _ _ rfl rfl (.inl (by simp)) (fun w0=>(zl9 P hu _ w0).1) (fun w0=>(zl9 P hu _ w0).2)
   ·cases h
  ·rename_i hu;split at h
   ·split at h<;>simp only [X0,reduceCtorEq] at h<;>subst h
    ·rw [VR] at hy;subst hy;exact fin _ _ rfl rfl (.inl (by simp)) (fun w0=>by rw [Op.equalIn];simp [run_underlying hu]) (fun w0=>by rw [Op.equalIn];simp [run_underlying hu])
    ·obtain ⟨va,vb,rfl,_⟩:=hy;exact fin _ _ rfl rfl (.inl (by simp)) (fun w0=>by rw [Op.equalIn];simp [run_underlying hu]) (fun w0=>by rw [Op.equalIn];simp [run_underlying hu])
   ·cases h
  ·rename_i ms hu;split at h
   ·split at h
    ·simp only [X0] at h;subst h;obtain ⟨u,rfl,_⟩:=hy;exact fin _ _ rfl rfl (.inr (by simp)) (fun w0=>by rw [Op.equalIn];simp [run_underlying hu]) (fun w0=>by rw [Op.equalIn];simp [run_underlying hu])
    ·split at h
     ·rename_i hbm;simp only [X0] at h;subst h;rw [VR] at hy;subst hy;have hg: ∀w0,(eqGuard b t x' y' .nilIface .nilIface).run P w0=.ok () w0:=by
       intro w0;rcases (J3 _ _).mp hbm with h1|h1
       ·exact lits w0 h1
       ·have hi:(Op.eqGuardIn Op.maxDepth t .nilIface .nilIface).run P w0=.ok false w0:=by
         rw [show Op.maxDepth=9999+1 from rfl,Op.eqGuardIn];simp [run_underlying hu,h1]
        unfold eqGuard;cases b<;>simp [hi]<;>(split<;>rfl)
      have he: ∀w0,(Op.equalIn (9999+1) t .nilIface .nilIface).run P w0=.ok true w0:=fun w0=>by rw [Op.equalIn];simp [run_underlying hu]
      exact ⟨⟨hg,hg⟩,yu2 P hb rfl rfl he,yu2 P hb rfl rfl he⟩
     ·cases h
    ·cases h
   ·cases h
  ·rename_i hu;split at h
   ·split at h<;>simp only [X0,reduceCtorEq] at h<;>subst h
    ·rw [VR] at hy;subst hy;exact fin _ _ rfl rfl (.inl (by simp)) (fun w0=>(yr6 P hu _ w0).1) (fun w0=>(yr6 P hu _ w0).2)
    ·obtain ⟨g,_,rfl⟩:=hy;exact fin _ _ rfl rfl (.inl (by simp)) (fun w0=>(yr6 P hu _ w0).1) (fun w0=>(yr6 P hu _ w0).2)
   ·cases h
  ·rename_i hu;split at h
   ·split at h<;>simp only [X0,reduceCtorEq] at h<;>subst h
    ·rw [VR] at hy;subst hy;exact fin _ _ rfl rfl (.inl (by simp)) (fun w0=>(yu1 P hu _ _ _ _ _ w0).1) (fun w0=>(yu1 P hu _ _ _ _ _ w0).2)
    ·obtain ⟨g,ad,_,rfl,_⟩:=hy;exact fin _ _ rfl rfl (.inl (by simp)) (fun w0=>(yu1 P hu _ _ _ _ _ w0).1) (fun w0=>(yu1 P hu _ _ _ _ _ w0).2)
   ·cases h
  ·cases h
 ·cases h
def qv0 {b:BinOp} {neg:Bool} (hb:b=if neg then .neq else .eql) {lit:Bool} {t:TypeId} {x y:AV T.U} {a:AV T.U} (h:eqA T P t lit x y neg=some a) {X Y:Value} (hx:VR T w S φ x X) (hy:VR T w S φ y Y) (x' y':Operand) (hl:lit=true->jd5 x'=true\/jd5 y'=true):
  (∀w0,(eqGuard b t x' y' X Y).run P w0=.ok () w0)/\ ∃v,(∀w0,(binOp b t X Y).run P w0=.ok v w0)/\VR T w S φ a v:=by
 unfold eqA at h;split at h
 ·rename_i r hr;simp only [X0] at h;subst h;obtain ⟨⟨h1,_⟩,h2,_⟩:=qg1 P hr hx hy hb x' y' hl;exact ⟨h1,_,h2,CR.bool _⟩
 split at h
 ·rename_i r hr;simp only [X0] at h;subst h;obtain ⟨⟨_,h1⟩,_,h2⟩:=qg1 P hr hy hx hb x' y' hl;exact ⟨h1,_,h2,CR.bool _⟩
 split at h
 ·rename_i p q hp hq;have e1:=yr3 hp hx;have e2:=yr3 hq hy;subst e1;subst e2;split at h
  ·rename_i r hr;simp only [X0] at h;subst h;have hrun:=ju2 (P:=P) 10000 t _ _ r hr;subst hb;refine ⟨fun w0=>by cases neg<;>simp [eqGuard],_,fun w0=>?_,CR.bool _⟩;cases neg<;>simp [binOp,Op.equal,Op.maxDepth,hrun]
  ·cases h
 ·rename_i p q hp hq;have e1:=yr3 hp hx;have e2:=yr3 hq hy;subst e1;subst e2;simp only at h;split at h
  ·rename_i hg;split at h
   ·rename_i r hr;simp only [X0] at h;subst h;have hrun:=ju2 (P:=P) 10000 t _ _ r hr;have hpr: ∀w0,(program).run P w0=.ok P w0:=fun _=>rfl;subst hb;refine ⟨fun w0=>by cases neg<;>simp [eqGuard,hpr,hg],_,fun w0=>?_,CR.bool _⟩;cases neg<;>simp [binOp,Op.equal,Op.maxDepth,hrun]
   ·cases h
  ·cases h
 ·cases h
def vo1 {b:BinOp} {t:TypeId} {lit:Bool} {x y a:AV T.U} (h:kd6 T P b t lit x y=some a) {X Y:Value} (hx:VR T w S φ x X) (hy:VR T w S φ y Y) (x' y':Operand) (hl:lit=true->jd5 x'=true\/jd5 y'=true):
  (∀w0,(eqGuard b t x' y' X Y).run P w0=.ok () w0)/\ ∃v,(∀w0,(binOp b t X Y).run P w0=.ok v w0)/\VR T w S φ a v:=by
 unfold kd6 at h;split at h
 ·split at h
  ·rename_i hk;have:=k9 hk;subst this;have e1:=v7 hx;have e2:=v7 hy;subst e1;subst e2;exact ⟨fun w0=>by simp [eqGuard],vo2 P h t⟩
  ·cases h
 ·simp only [X0] at h;subst h;have e1:=zo7 hx;have e2:=zo7 hy;subst e1;subst e2;exact ⟨fun w0=>by simp [eqGuard],_,fun w0=>by simp [binOp,Op.stringOp],CR.bool _⟩
 ·simp only [X0] at h;subst h;have e1:=zo7 hx;have e2:=zo7 hy;subst e1;subst e2;exact ⟨fun w0=>by simp [eqGuard],_,fun w0=>by simp [binOp,Op.stringOp],CR.bool _⟩
 ·exact qv0 P (neg:=false) rfl h hx hy x' y' hl
 ·exact qv0 P (neg:=true) rfl h hx hy x' y' hl
 ·cases h
def kj1 {u:UnOp} {x a:AV T.U} (h:unA T u x=some a) {X:Value} (hx:VR T w S φ x X): ∃v,(∀w0,(Op.unary u X).run P w0=.ok v w0)/\VR T w S φ a v:=by
 unfold unA at h;split at h
 ·have e1:=v7 hx;subst e1;unfold unI at h;split at h
  ·simp only [X0] at h;subst h;exact ⟨_,fun w0=>by simp [Op.unary,Op.intArith],CR.int _ _⟩
  ·simp only [X0] at h;subst h;exact ⟨_,fun w0=>by simp [Op.unary,Op.intBits,kj7],CR.int _ _⟩
  ·cases h
 ·have e1:=zd7 hx;subst e1;split at h
  ·simp only [X0] at h;subst h;exact ⟨_,fun w0=>by simp [Op.unary],CR.bool _⟩
  ·cases h
 ·cases h
def zv1 {α:Type} (vs:Array α) (o n:Nat):(vs.extract o (o+n)).toList=(vs.toList.drop o).take n:=by
 rw [Array.toList_extract,List.extract_eq_take_drop];congr 1;omega
def vo8 {cs:List (AV T.U)} {vs:Array Value} (h:VRL T w S φ cs vs.toList) {o n:Nat} {ag:Bool} {a:AV T.U} (hc:jk3 T cs o n ag=some a):
  ∃v,(if ag then some (Value.agg (vs.extract o (o+n))) else vs[o]?)=some v/\VR T w S φ a v/\(ag=true->o+n<=vs.size):=by
 unfold jk3 at hc;split at hc
 ·split at hc
  ·rename_i hle;simp only [X0] at hc;subst hc;refine ⟨_,rfl,⟨_,rfl,?_⟩,fun _=>?_⟩
   ·rw [zv1];exact (h.drop T o).take T n
   ·have h1:=Y1 hle;have h2:=h.len T;simp at h2;omega
  ·cases hc
 ·obtain ⟨v,h1,h2⟩:=h.get T hc;exact ⟨v,by simpa using h1,h2,fun h=>by cases h⟩
def yx0: ∀ {cs l:List (AV T.U)} {o:Nat},yy9 T cs o=some l->zw6 T cs-> ∃pre,cs=pre++l/\(zg3 T pre).length=o
 | [],_,_,h,_=>by cases h
 |a::r,l,o,h,hl=>by
  unfold yy9 at h;split at h
  ·rename_i ho;simp only [X0] at h;subst h;exact ⟨[],rfl,(X1 ho).symm⟩
  ·split at h
   ·rename_i hle;obtain ⟨pre,h1,h2⟩:=yx0 h hl.2;refine ⟨a::pre,by rw [h1];rfl,?_⟩;rw [zg3,X9,yb7 T hl.1,h2];have:=Y1 hle;omega
   ·cases h
def jh1 {f:List (AV T.U)->Option (List (AV T.U))}: ∀ {cs cs':List (AV T.U)} {o:Nat},yt5 T f cs o=some cs'->zw6 T cs-> ∃pre l l',cs=pre++l/\cs'=pre++l'/\f l=some l'/\(zg3 T pre).length=o
 | [],_,o,h,_=>by
  unfold yt5 at h;split at h
  ·rename_i ho;exact ⟨[],_,_,rfl,rfl,h,(X1 ho).symm⟩
  ·cases h
 |a::r,cs',o,h,hl=>by
  unfold yt5 at h;split at h
  ·rename_i ho;exact ⟨[],_,_,rfl,rfl,h,(X1 ho).symm⟩
  ·split at h
   ·rename_i hle;split at h
    ·rename_i l0 hl0;simp only [X0] at h;subst h;obtain ⟨pre,l,l',h1,h2,h3,h4⟩:=jh1 hl0 hl.2;refine ⟨a::pre,l,l',by rw [h1];rfl,by rw [h2];rfl,h3,?_⟩;rw [zg3,X9,yb7 T hl.1,h4];have:=Y1 hle;omega
    ·cases h
   ·cases h
def zs6 {U:Nat->Type} {a:AV U} {t:Ty} {n:Nat} {xs:List (den U t)} (h:jb8 a=some ⟨t,n,xs⟩):a=.arr t n xs:=by
 cases a<;>simp only [jb8,X0,reduceCtorEq,Sigma.mk.injEq] at h;obtain ⟨rfl,h⟩:=h;have:=eq_of_heq h;simp only [X7] at this;obtain ⟨rfl,rfl⟩:=this;rfl
def BR.at {cs:List (AV T.U)} {vs:List Value} (h:BR T w S φ cs vs) {pre l:List (AV T.U)} (he:cs=pre++l) {o:Nat} (ho:(zg3 T pre).length=o):BR T w S φ l (vs.drop o)/\o+(zg3 T l).length=vs.length:=by
 obtain ⟨h1,h2⟩:=h;have hl:=h1.len T;rw [he,yb8] at h1 hl;rw [he,yw9] at h2;have:=h1.drop T o;rw [List.drop_append_of_le_length (by omega),R8 (by omega),M9] at this;refine ⟨⟨this,h2.2⟩,?_⟩;rw [X9] at hl;omega
def BR.swap {a b:AV T.U} (ha:za2 T a=true) (hb:za2 T b=true) (hi: ∀v,VR T w S φ a v->VR T w S φ b v): ∀ {cs:List (AV T.U)} {vs:List Value} {c:Nat},BR T w S φ cs vs->cs[c]?=some a->BR T w S φ (cs.set c b) vs
 | [],_,_,_,h=>by simp at h
 |x::r,vs,0,h,hc=>by
  simp only [Y4,X0] at hc;subst hc;obtain ⟨h1,h2⟩:=h;rw [zg3,zp1 T ha] at h1
  match vs,h1 with
  |v::vs,h1=>exact ⟨by rw [List.set_cons_zero,zg3,zp1 T hb];exact ⟨hi v h1.1,h1.2⟩,ya6 T hb,h2.2⟩
 |x::r,vs,c+1,h,hc=>by
  obtain ⟨h3,h4⟩:=BR.at h (pre:= [x]) (l:=r) rfl rfl;have h5:=BR.swap ha hb hi h3 (by simpa using hc);have h6:=h.1.take T (zg3 T [x]).length;have he:zg3 T (x::r)=zg3 T [x]++zg3 T r:=yb8 T [x] r;rw [he,Z7 (W8 _),Q4 (W8 _)] at h6;refine ⟨?_,h.2.1,h5.2⟩;rw [List.set_cons_succ];have he2:zg3 T (x::r.set c b)=zg3 T [x]++zg3 T (r.set c b):=yb8 T [x] _;rw [he2];have:=VRL.app T h6 h5.1;rwa [Q8] at this
def VRL.cells: ∀ {cs:List (Cell T.U)} {vs:List Value},VRL T w S φ (cs.map .cell) vs↔CellsR T w S cs vs:=by
 intro cs;induction cs with
 |nil=>
  intro vs;cases vs with
  |nil=>exact ⟨fun _=>⟨rfl,fun j c v h=>by simp at h⟩,fun _=>trivial⟩
  |cons v r=>exact ⟨fun h=>h.elim,fun h=>by cases h.1⟩
 |cons c r ih=>
  intro vs;cases vs with
  |nil=>exact ⟨fun h=>h.elim,fun h=>by cases h.1⟩
  |cons v s=>
   constructor
   ·intro h;obtain ⟨h1,h2⟩:=ih.1 h.2;refine ⟨by simp [h1],fun j c' v' h3 h4=>?_⟩;cases j with
    |zero=>simp only [Y4,X0] at h3 h4;subst h3;subst h4;exact h.1
    |succ j=>exact h2 j c' v' (by simpa using h3) (by simpa using h4)
   ·intro h;refine ⟨h.2 0 c v rfl rfl,ih.2 ⟨by have:=h.1;simpa using this,fun j c' v' h3 h4=>h.2 (j+1) c' v' (by simpa using h3) (by simpa using h4)⟩⟩
def vp0 {cs:List (AV T.U)} {vs:Array Value} (h:BR T w S φ cs vs.toList) {o n:Nat} {ag:Bool} {a:AV T.U} (hc:vw4 T cs o n ag=some a):
  ∃v,(if ag then some (Value.agg (vs.extract o (o+n))) else vs[o]?)=some v/\VR T w S φ a v/\(ag=true->o+n<=vs.size):=by
 unfold vw4 at hc;split at hc
 ·rename_i b r hloc;obtain ⟨pre,h1,h2⟩:=yx0 hloc h.2;obtain ⟨h3,h4⟩:=BR.at h h1 h2;have h4:o+(zg3 T (b::r)).length=vs.size:=by rw [h4];simp
  split at hc
  ·split at hc
   ·rename_i hna;simp only [X0] at hc;subst hc;have h5:=h3.1;rw [zg3,zp1 T hna,List.singleton_append] at h5;obtain ⟨v,h6,h7⟩:=h5.get T (j:=0) rfl;refine ⟨v,?_,h7,fun h=>by cases h⟩;rw [Q6,J8] at h6;simpa using h6
   ·cases hc
  ·split at hc
   ·rename_i t m xs ha;have:=zs6 ha;subst this;split at hc
    ·rename_i hn;simp only [X0] at hc;subst hc;have hn:=X1 hn;have hlen:(jc9 T (.arr t m xs)).length=n:=by rw [yb7 T h3.2.1];exact hn
     rw [zg3,X9,hlen] at h4;refine ⟨_,rfl,⟨_,rfl,h3.2.1,?_⟩,fun _=>by omega⟩;rw [zv1];have h5:=h3.1.take T n;rw [zg3,Z7 (by omega),Q4 (by omega)] at h5;exact VRL.cells.1 h5
    ·cases hc
   ·split at hc
    ·rename_i hb;simp only [X3] at hb;obtain ⟨hle,hall⟩:=hb;simp only [X0] at hc;subst hc;have hle:=Y1 hle;have hsp:zg3 T (b::r)=(b::r).take n++zg3 T ((b::r).drop n):=by
      conv=>lhs;rw [<-List.take_append_drop n (b::r)]
      rw [yb8,ji0 T hall]
     have htl:((b::r).take n).length=n:=by rw [Y6,U5];omega
     rw [hsp,X9,htl] at h4;refine ⟨_,rfl,⟨_,rfl,?_⟩,fun _=>by omega⟩;rw [zv1];have h5:=h3.1.take T n;rw [hsp,Z7 (by omega),Q4 (by omega)] at h5;exact h5
    ·cases hc
 ·cases hc
def vq3 {cs l:List (AV T.U)} {o:Nat} (h:yy9 T cs o=some l): ∀i∈j8 l,i∈j8 cs:=by
 induction cs generalizing o with
 |nil=>cases h
 |cons a r ih=>
  unfold yy9 at h;split at h
  ·simp only [X0] at h;subst h;exact fun i hi=>hi
  ·split at h
   ·exact fun i hi=>by rw [j8];exact X4.2 (.inr (ih h i hi))
   ·cases h
def ve1 {l:List (AV T.U)} {n:Nat}: ∀i∈j8 (l.take n),i∈j8 l:=by
 intro i hi
 conv at hi=>skip
 rw [<-List.take_append_drop n l,yi0];exact X4.2 (.inl hi)
def vo9 {cs:List (AV T.U)} {o n:Nat} {ag:Bool} {a:AV T.U} (h:vw4 T cs o n ag=some a): ∀i∈a.ids,i∈j8 cs:=by
 unfold vw4 at h;split at h
 ·rename_i b r hloc;have hi:=vq3 hloc;split at h
  ·split at h
   ·simp only [X0] at h;subst h;exact fun i hm=>hi i (by rw [j8];exact X4.2 (.inl hm))
   ·cases h
  ·split at h
   ·split at h
    ·simp only [X0] at h;subst h;intro i hm;cases hm
    ·cases h
   ·split at h
    ·simp only [X0] at h;subst h;intro i hm;rw [AV.ids] at hm;exact hi i (ve1 i hm)
    ·cases h
 ·cases h
def yy5 {t:TypeId} {j:Nat} {ft:TypeId} {o n:Nat} {ag:Bool} (h:jy6 P t j=some (ft,o,n,ag)): ∃fs f i d,P.underlying t=some (.struct fs)/\fs[j]?=some f/\f.type=ft/\f.offset=o/\P.info? ft=some i/\i.size=n/\P.underlying ft=some d/\ya1 d=ag:=by
 unfold jy6 at h;split at h
 ·rename_i fs hfs;split at h
  ·rename_i f hf;split at h
   ·rename_i i d hi hd;simp only [X0,X7] at h;obtain ⟨rfl,rfl,rfl,rfl⟩:=h;exact ⟨fs,f,i,d,hfs,hf,rfl,rfl,hi,rfl,hd,rfl⟩
   ·cases h
  ·cases h
 ·cases h
def qn3 {t:TypeId} {j:Nat} {x a:AV T.U} (h:jy5 T P t j x=some a) {X:Value} (hx:VR T w S φ x X): ∃v,(∀w0,(Instr.field t X j).run P w0=.ok v w0)/\VR T w S φ a v:=by
 unfold jy5 at h;split at h
 ·split at h
  ·rename_i cs p ft o n ag hp;obtain ⟨fs,f,i,d,h1,h2,h3,h4,h5,h6,h7,h8⟩:=yy5 P hp;subst h3;subst h4;subst h6;subst h8;obtain ⟨vs,rfl,hvs⟩:=hx;obtain ⟨v,hv1,hv2,_⟩:=vo8 hvs h;refine ⟨v,fun w0=>?_,hv2⟩;have hu:(underlying t).run P w0=.ok (.struct fs) w0:=by simp [underlying,h1]
   have hpart:(part f.type vs f.offset).run P w0=.ok v w0:=by
    apply yk6;unfold ys6;rw [h7];simp only [h5];cases hag:ya1 d<;>rw [hag] at hv1<;>simpa using hv1
   unfold Instr.field;rw [Sem.run_bind,hu];simp [h2,asAgg,hpart]
  ·cases h
 ·cases h
def yp7 {a:AV T.U} (h:zv4 T a=true) {v:Value} (hv:VR T w S φ a v):v.cells= #[v]/\v.oneCell'=true:=by
 cases a with
 |cell c=>have hv:CR T w S c.t c.x v:=hv;generalize c.x=x at hv;generalize c.t=t at *;cases hv<;>exact ⟨rfl,rfl⟩
 |ptr i o=>obtain ⟨g,_,rfl⟩:=hv;exact ⟨rfl,rfl⟩
 |own i=>rw [VR] at hv;subst hv;exact ⟨rfl,rfl⟩
 |sl i sz o n=>obtain ⟨ad,rfl,_⟩:=hv;exact ⟨rfl,rfl⟩
 |fn f x y=>obtain ⟨va,vb,rfl,_⟩:=hv;exact ⟨rfl,rfl⟩
 |ifc t x=>obtain ⟨u,rfl,_⟩:=hv;exact ⟨rfl,rfl⟩
 |raw u=>rw [VR] at hv;subst hv;cases v<;>first|exact ⟨rfl,rfl⟩|cases h
 |aptr i o sz n k c=>obtain ⟨g,_,_,rfl⟩:=hv;exact ⟨rfl,rfl⟩
 |asl i o sz n lo m=>obtain ⟨g,ad,_,rfl,_⟩:=hv;exact ⟨rfl,rfl⟩
 |mp i=>obtain ⟨g,_,rfl⟩:=hv;exact ⟨rfl,rfl⟩
 |hmp i=>rw [VR] at hv;subst hv;exact ⟨rfl,rfl⟩
 |_=>cases h
def yl8 {a:AV T.U} (h:zz6 T a=true):(∃cs,a=.agg cs)\/(zv4 T a=true/\zd4 T a= [a]):=by
 cases a<;>first|exact .inl ⟨_,rfl⟩|exact .inr ⟨h,rfl⟩
def zi9 {a:AV T.U} (h:zz6 T a=true) {v:Value} (hv:VR T w S φ a v):VRL T w S φ (zd4 T a) v.cells.toList:=by
 rcases yl8 h with ⟨cs,rfl⟩|⟨h1,h2⟩
 ·obtain ⟨vs,rfl,h2⟩:=hv;exact h2
 ·rw [h2,(yp7 h1 hv).1];exact ⟨hv,trivial⟩
def yz3: ∀(l:List Value) (o:Nat) (c:Array Value) (cs aS:List (AV T.U)),VRL T w S φ cs c.toList->VRL T w S φ aS l->VRL T w S φ (yg8 T cs o aS) (zz4 c o l).toList
 | [],_,_,_,[],h,_=>h
 | [],_,_,_,_::_,_,h=>h.elim
 |_::_,_,_,_,[],_,h=>h.elim
 |v::r,o,c,cs,a::s,h,h'=>by
  rw [yg8,zz4];exact yz3 r (o+1) _ _ s (by rw [S8];exact h.set T o h'.1) h'.2
def jd0 (o:Nat): ∀(l:List Value) (j:Nat) (c:Array Value),(l.zipIdx j).foldl (fun cs (p:Value×Nat)=>cs.setIfInBounds (o+p.2) p.1) c=zz4 c (o+j) l
 | [],_,_=>rfl
 |v::r,j,c=>by
  rw [List.zipIdx_cons,List.foldl_cons,jd0 o r (j+1)];rfl
def yk9: ∀(l:List Value) (o:Nat) (c:Array Value),(zz4 c o l).size=c.size
 | [],_,_=>rfl
 |v::r,o,c=>by rw [zz4,yk9 r];simp
def ya3 {place:Nat->Option (Nat×Nat)}: ∀ {ps:List (Nat×AV T.U)} {pv:List (Nat×Value)} {cs:List (AV T.U)} {c:Array Value} {cs':List (AV T.U)},
  VRL T w S φ cs c.toList->ps.map Prod.fst=pv.map Prod.fst->VRL T w S φ (ps.map Prod.snd) (pv.map Prod.snd)->yr7 T place cs ps=some cs'->
  ∃c',Instr.fill place c pv=some c'/\VRL T w S φ cs' c'.toList
 | [],[],cs,c,cs',h,_,_,hf=>by simp only [yr7,X0] at hf;subst hf;exact ⟨c,rfl,h⟩
 | [],_::_,_,_,_,_,he,_,_=>by simp at he
 |_::_,[],_,_,_,_,he,_,_=>by simp at he
 |(i,a)::r,(j,v)::s,cs,c,cs',h,he,hr,hf=>by
  simp only [U1,List.cons.injEq] at he hr;obtain ⟨rfl,he⟩:=he;unfold yr7 at hf;split at hf
  ·rename_i o n hpl;split at hf
   ·rename_i hok;simp only [X3] at hok;obtain ⟨h1,h2,h3⟩:=hok;have hc:=zi9 h1 hr.1;have l1:=hc.len T;have l2:=h.len T;have e2:=X1 h2;have e3:=Y1 h3;obtain ⟨c',g1,g2⟩:=ya3 (yz3 v.cells.toList o c cs _ h hc) he hr.2 hf;refine ⟨c',?_,g2⟩;simp at l1 l2;unfold Instr.fill;rw [hpl];simp only;rw [if_neg (by simp;omega)];have hfold:v.cells.zipIdx.foldl (fun cs (p:Value×Nat)=>cs.setIfInBounds (o+p.2) p.1) c=zz4 c o v.cells.toList:=by
     rw [<-Array.foldl_toList,Array.toList_zipIdx,jd0];rfl
    exact (congrArg (fun z=>Instr.fill place z s) hfold).trans g1
   ·cases hf
  ·cases hf
def qf6 {α β:Type} {f:α->Option β} {g:α->Sem β} {w0:World} (hfg: ∀x y,f x=some y->(g x).run P w0=.ok y w0): ∀ {l:List α} {r:List β},kf4 f l=some r->(l.mapM g).run P w0=.ok r w0
 | [],r,h=>by simp only [kf4,X0] at h;subst h;rfl
 |x::l,r,h=>by
  unfold kf4 at h;split at h
  ·rename_i y s hy hs;simp only [X0] at h;subst h;simp only [List.mapM_cons,Sem.run_bind,hfg x y hy,qf6 hfg hs,Result.andThen_ok,Sem.run_pure]
  ·cases h
def jt2 {t:TypeId} {pl:List (Nat×Nat)} (h:jv8 P t=some pl): ∃fs,P.underlying t=some (.struct fs)/\ ∀w0,(fs.mapM fun f=>(do pure (f.offset,<-sizeOf f.type):Sem (Nat×Nat))).run P w0=.ok pl.toArray w0:=by
 unfold jv8 at h;split at h
 ·rename_i fs hfs;refine ⟨fs,hfs,fun w0=>?_⟩;rw [Array.mapM_eq_mapM_toList];have:=qf6 P (w0:=w0) (g:=fun f=>(do pure (f.offset,<-sizeOf f.type):Sem (Nat×Nat))) (fun f y hy=>by
   unfold vy4 at hy;split at hy
   ·rename_i i hi;simp only [X0] at hy;subst hy;have hs:(sizeOf f.type).run P w0=.ok i.size w0:=by simp [sizeOf,typeInfo,hi]
    simp only [Sem.run_bind,hs,Result.andThen_ok,Sem.run_pure]
   ·cases hy) h
  simp only [Sem.run_map,this,Result.andThen_ok]
 ·cases h
def zx1 {F:AF T} {F':PF} (hF:FR T w S φ F F'): ∀ {l:List (Nat×Operand)} {aS:List (Nat×AV T.U)},zu0 T F l=some aS->
  aS.map Prod.fst=(l.map fun p=>(p.1,evD F' p.2)).map Prod.fst/\VRL T w S φ (aS.map Prod.snd) ((l.map fun p=>(p.1,evD F' p.2)).map Prod.snd)
 | [],aS,h=>by simp only [zu0,X0] at h;subst h;exact ⟨rfl,trivial⟩
 |(i,x)::r,aS,h=>by
  unfold zu0 at h;split at h
  ·rename_i a l ha hl;simp only [X0] at h;subst h;obtain ⟨v,h1,h2⟩:=z8 hF ha;obtain ⟨e1,e2⟩:=zx1 hF hl;exact ⟨by simpa using e1,by simpa [evD,h1] using h2,e2⟩
  ·cases h
def vg2 {a b:AV T.U} {f:Nat} (h:qo9 T a f=some b) {v:Value} (hv:VR T w S φ a v): ∃ad:Addr,v=.pointer (some ad)/\ad.spot=none/\VR T w S φ b (.pointer (some ⟨ad.block,ad.off+f,none⟩)):=by
 unfold qo9 at h;split at h<;>simp only [X0,reduceCtorEq] at h<;>subst h
 ·obtain ⟨g,h1,rfl⟩:=hv;exact ⟨_,rfl,rfl,g,h1,rfl⟩
 ·obtain ⟨g,h1,rfl⟩:=hv;exact ⟨_,rfl,rfl,g,h1,by simp [V1]⟩
 ·obtain ⟨ad,cap,h1,h2,rfl⟩:=hv;exact ⟨_,rfl,rfl,ad,cap,h1,h2,by simp [V1]⟩
 ·obtain ⟨g,h1,h2,rfl⟩:=hv;exact ⟨_,rfl,rfl,g,h1,h2,by simp [V1]⟩
def vh1 {o:Op} {F:AF T} {a:AV T.U} (h:jf6 T P o F=some a) {F':PF} (hF:FR T w S φ F F') (op:Oper) (hop:op.op=o): ∃v,(∀w0,(execOp (evD F') op).run P w0=.ok (.value v) w0)/\VR T w S φ a v:=by
 unfold jf6 at h;split at h
 ·obtain ⟨v,h1,h2⟩:=z8 hF h;exact ⟨v,fun w0=>by simp [execOp,hop,j6 h1],h2⟩
 ·obtain ⟨v,h1,h2⟩:=z8 hF h;exact ⟨v,fun w0=>by simp [execOp,hop,j6 h1],h2⟩
 ·split at h
  ·rename_i x y _ hx hy;obtain ⟨X,h1,h2⟩:=z8 hF hx;obtain ⟨Y,h3,h4⟩:=z8 hF hy;rename_i b t xo yo _ _ _;obtain ⟨g1,v,g2,g3⟩:=vo1 P h h2 h4 xo yo fun h=>(J3 _ _).mp h;exact ⟨v,fun w0=>by simp [execOp,hop,j6 h1,j6 h3,g1,g2],g3⟩
  ·cases h
 ·split at h
  ·rename_i x hx;obtain ⟨X,h1,h2⟩:=z8 hF hx;obtain ⟨v,g2,g3⟩:=kj1 P h h2;exact ⟨v,fun w0=>by simp [execOp,hop,j6 h1,g2],g3⟩
  ·cases h
 ·split at h
  ·rename_i k d hx hk hs;simp only [X0] at h;subst h;obtain ⟨X,h1,h2⟩:=z8 hF hx;have e:=v7 h2;subst e;refine ⟨_,fun w0=>?_,CR.int _ _⟩;rename_i src dst xop _ _ _ k' x;unfold vx0 at hk;split at hk
   ·rename_i k2 hd;simp only [X0] at hk;subst hk;have hd':(underlying dst).run P w0=.ok (.int k2) w0:=by simp [underlying,hd]
    have hs':(underlying src).run P w0=.ok d w0:=by simp [underlying,hs]
    simp only [execOp,hop,j6 h1,convert,Sem.run_bind,hs',hd',Result.andThen_ok,Conv.intToInt];rfl
   ·cases hk
  ·cases h
 ·split at h
  ·rename_i vs hx;obtain ⟨X,h1,h2⟩:=z8 hF hx;obtain ⟨us,rfl,h3⟩:=h2;obtain ⟨v,h4,h5⟩:=h3.get T h;refine ⟨v,fun w0=>?_,h5⟩;simp at h4;simp [execOp,hop,j6 h1,Instr.extract,h4]
  ·cases h
 ·split at h
  ·rename_i x hx;obtain ⟨X,h1,h2⟩:=z8 hF hx;obtain ⟨v,g2,g3⟩:=qn3 P h h2;exact ⟨v,fun w0=>by simp [execOp,hop,j6 h1,g2],g3⟩
  ·cases h
 ·split at h
  ·rename_i x d hx hd;obtain ⟨X,h1,h2⟩:=z8 hF hx;split at h
   ·cases h
   ·simp only [X0] at h;subst h;refine ⟨_,fun w0=>?_,X,rfl,h2⟩;have hu: ∀t,P.underlying t=some d->(underlying t).run P w0=.ok d w0:=fun t ht=>by simp [underlying,ht]
    simp only [execOp,hop,j6 h1,Instr.makeInterface,Sem.run_bind,hu _ hd,Result.andThen_ok];rfl
  ·cases h
 ·split at h
  ·rename_i x y hx hy;simp only [X0] at h;subst h;rename_i f xs ys _ _;refine ⟨.func f (xs.map (evD F')) (ys.map (evD F')),fun w0=>by simp [execOp,hop,Instr.makeFunc],_,_,rfl,?_,?_⟩
   ·simpa using yb5 hF hx
   ·simpa using yb5 hF hy
  ·cases h
 ·split at h
  ·rename_i pf z l hpl hz hl;split at h
   ·rename_i cs hcs;simp only [X0] at h;subst h;rename_i t ps _ _ _ _;unfold qb1 at hz;split at hz
    ·rename_i c hc;simp only [X0] at hz;subst hz;obtain ⟨i,zv,hi,hzv,rfl⟩:=ja3 hc;obtain ⟨e1,e2⟩:=zx1 hF hl;obtain ⟨c',g1,g2⟩:=ya3 (ya7 T zv.cells.toList) e1 e2 hcs;refine ⟨.agg c',fun w0=>?_,c',rfl,g2⟩;have hzr:(zeroValue t).run P w0=.ok zv w0:=by simp [zeroValue,typeInfo,hi,hzv]
     have hparts:(ps.map fun p=>(p.1,evD F' p.2)).toList=ps.toList.map fun p=>(p.1,evD F' p.2):=by simp
     unfold vy3 at hpl;split at hpl
     ·split at hpl
      ·rename_i pl hpl';simp only [X0] at hpl;subst hpl;obtain ⟨fs,hfs,hpr⟩:=jt2 P hpl';have hu:(underlying t).run P w0=.ok (.struct fs) w0:=by simp [underlying,hfs]
       simp only [execOp,hop,Instr.build,Sem.run_bind,hzr,hu,Result.andThen_ok,hpr];have hg:Instr.fill (fun x=>pl.toArray[x]?) zv.cells (Array.map (fun x=>(x.fst,evD F' x.snd)) ps).toList=some c':=by rw [hparts];simpa using g1
       rw [hg];rfl
      ·cases hpl
     ·rename_i m e hme;split at hpl
      ·rename_i j hj;simp only [X0] at hpl;subst hpl;have hu:(underlying t).run P w0=.ok (.array m e) w0:=by simp [underlying,hme]
       have hs:(sizeOf e).run P w0=.ok j.size w0:=by simp [sizeOf,typeInfo,hj]
       simp only [execOp,hop,Instr.build,Sem.run_bind,hzr,hu,Result.andThen_ok,hs];have hg:Instr.fill (fun x=>some (x*j.size,j.size)) zv.cells (Array.map (fun x=>(x.fst,evD F' x.snd)) ps).toList=some c':=by rw [hparts];simpa using g1
       rw [hg];rfl
      ·cases hpl
     ·cases hpl
    ·cases hz
   ·cases h
  ·cases h
 ·split at h
  ·rename_i x ft f n ag hx hp;split at h
   ·cases h
   ·rename_i hn;obtain ⟨X,h1,h2⟩:=z8 hF hx;obtain ⟨fs,fl,i,d,g1,g2,rfl,rfl,g5,rfl,g7,g8⟩:=yy5 P hp;obtain ⟨ad,rfl,hsp,h3⟩:=vg2 h h2;rename_i s xo j _ _ _;refine ⟨_,fun w0=>?_,h3⟩;have hu:(underlying s).run P w0=.ok (.struct fs) w0:=by simp [underlying,g1]
    have hs:(sizeOf fl.type).run P w0=.ok i.size w0:=by simp [sizeOf,typeInfo,g5]
    have hn0: ¬i.size=0:=by intro e;rw [e] at hn;cases hn
    have hfp:(fieldPlace ad fl).run P w0=.ok ⟨ad.block,ad.off+fl.offset,none⟩ w0:=by
     unfold fieldPlace;simp only [Sem.run_bind,hs,Result.andThen_ok,hn0,if_false,Sem.run_pure];unfold Addr.add;cases ad;simp at hsp;subst hsp;split<;>simp_all
    simp only [execOp,hop,j6 h1,Instr.fieldAt,Instr.sureAddr,Sem.run_bind,hu,Result.andThen_ok,g2,hfp,Sem.run_pure]
  ·cases h
 ·cases h
end
end Go.X
