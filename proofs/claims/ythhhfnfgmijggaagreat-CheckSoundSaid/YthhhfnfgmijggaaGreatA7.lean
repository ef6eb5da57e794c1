import Derived.Test.YthhhfnfgmijggaaGreatA6
set_option linter.defProp false
namespace Go.X
open Go.RowKit Go.V
structure DR where
 j:Nat
 nb:Nat
 ne:Nat
 tch:List Nat
 wr:List Nat
 loc:Option (Nat×Nat×Bool)
def DR.isSt (r:DR):Bool:=match r.loc with|some (_,_,true)=>true|_=>false
def DR.wrE (r:DR) (e:Nat):Bool:=ye4 e r.wr||(Nat.ble r.nb e&&Nat.blt e r.ne)
section
variable (T:Tab) (P:Program) (C:Ctx T) {R:Type}
def qx1 (F:AF T) (x:Operand):List Nat:=match aev T F x with|some a=>a.ids|none=> []
def wq5 (F:AF T) (l:List Operand):List Nat:=match zx4 T F l with|some as=>v5 as|none=> []
def wq7 (H:List (Ent T.U)) (i:Nat):Bool:=match H[i]? with|some (.drow _ _ _ _ _)=>true|_=>false
def epX (F:AF T) (H:List (Ent T.U)) (x:Operand):List Nat:=match aev T F x with|some (.eptr i _ _ _)=>(match wq7 T H i with|true=> []|false=> [i])|_=> []
def wp8 (l:List Nat) (nb:Nat) (a:List (Ent T.U)):AV T.U->Bool| .eptr i _ _ _=>ye4 i l||(Nat.ble nb i||wq7 T a i)|_=>true
def gv3 (o:Oper) (F:AF T) (H:List (Ent T.U)):List Nat:=
 match o.op with
 | .move x=>epX T F H x
 | .assign x=>epX T F H x
 | .fieldAddr _ x _=>epX T F H x
 | .load _ x=>qx1 T F x
 | .store _ x _=>qx1 T F x
 | .indexAddr _ x _=>qx1 T F x
 | .slice _ x _ _ _=>qx1 T F x
 | .sliceToArrayPointer _ x=>qx1 T F x
 | .nilCheck x=>epX T F H x
 | .lookup _ m _ _=>qx1 T F m
 | .insert _ m _ v=>vr9 [] (qx1 T F m)
 | .mapUpdate _ m _ v=>vr9 [] (qx1 T F m)
 | .convert _ _ x=>qx1 T F x
 | .call c=>match c.callee with
  | .value f=>vm2 T H (H.length+1) (vr9 [] (qx1 T F f++wq5 T F c.args.toList))
  |_=>vr9 [] (wq5 T F c.args.toList)
 |_=> []
def qx6 (H:List (Ent T.U)) (l:List Nat):List Nat:=l.filter fun i=>match H[i]? with|some e=>e.live|none=>false
def zn5 (l:List Nat):List (Ent T.U)->Nat->List (Ent T.U)
 | [],_=> []
 |e::r,i=>(match ye4 i l with|true=>e|false=>.gone)::zn5 l r (i+1)
def yh5 (l:List Nat):List (Ent T.U)->List (Ent T.U)->Nat->List (Ent T.U)
 | [],s,_=>s
 |_::_,[],_=> []
 |e::r,f::s,i=>(match ye4 i l with|true=>f|false=>e)::yh5 l r s (i+1)
def qx0 (B nb c:Nat) (b:List Nat) (a:List DR) (i:Nat):Bool:=Nat.blt i B||((Nat.ble nb i&&Nat.blt i c)||a.any fun r=>Nat.ble r.nb i&&(Nat.blt i r.ne&&ye4 r.j b))
def yw3 (F:AF T) (dst:Option Tmp):AV T.U:=match dst with|some d=>(match F.get T d with|some a=>a|none=>.raw undef)|none=>.raw undef
def locC (r:DR) (tch b:List Nat) (d:Option (Nat×Nat×Bool)):Bool:=
 (match r.loc with|none=>true|some (k,_,st)=>(!st|| !ye4 k tch)&& !ye4 k b)&&
 (match d with|none=>true|some (k,c,st)=> !r.wrE k&&((!st|| !ye4 k r.tch)&&(match r.loc with|none=>true|some (e,c',a)=> !(Nat.beq e k)||(!(st||a)|| !(Nat.beq c' c)))))
def ks0 (b:List Nat) (a:List DR) (tch c:List Nat) (d:Option (Nat×Nat×Bool)):Bool:=a.all fun r=>ye4 r.j b||((tch.all (fun e=> !r.wrE e)&&c.all fun e=> !ye4 e r.tch)&&locC r tch c d)
def qa3 (n:Nat) (l:List Nat):Bool:=l.all fun i=>Nat.blt i n
def qy8 (l:List Nat):AF T->AF T
 | []=> []
 |(t,a)::r=>match ye4 t l with|true=>qy8 l r|false=>(t,a)::qy8 l r
def zaj7 {R:Type} (b:Option (Nat×Option R)) (a:List Nat):Bool:=match b with|some (j,_)=>ye4 j a|none=>false
def qn6 {R:Type} (a:Option (Nat×Option R)) (b:List Nat):Bool:=match a with|some _=>b.isEmpty|none=>true
def zn1 {R:Type} (a:Bool) (b:Option (Nat×Option R)):Bool:=match b with|some _=>false|none=>a
def ys1 (B:Nat) (tch:List Nat) (a b:List (Ent T.U)):List (Ent T.U):=(yh5 T tch a b 0).take B
def ws2 (B:Nat) (c:List Nat) (b:List DR) (tch f:List Nat) (a:AV T.U) (d:List (Ent T.U)):Bool:=
 ks0 c b tch f none&&(a.ids.isEmpty&&((b.all fun r=>ye4 r.j c||(r.wr.isEmpty&& !r.isSt))&&d.all fun e=>qa3 B e.cellIds))
def vl5 (ops:Array Oper) (n B:Nat) (m:List (Ent T.U)) (p:AF T) (q:Bool) (r:AV T.U->St T->Option R) (o:Oper) (j:Nat) (h:Option (Nat×Option R)) (l:AF T) (f:List (Ent T.U)) (d:List DR) (G:Option (Nat×Option R)->AF T->List (Ent T.U)->List DR->Option R):Option R:=
 let F:=zr8 T l (zy5 o)
 let tch:=qx6 T f (gv3 T o F f++jk2 C o F f)
 let Hm:=zn5 T tch f 0
 let g:=(yw1 ops ops.size).getD j []
 match zi4 n o.dst&&(zc6 o&&(zt5 F o&&(qa3 f.length (vh0 T F)&&Hm.all fun e=>qa3 f.length e.cellIds))) with
 |true=>match wr2 P o F Hm with
  |some (k,c,i)=>zh7 P C o ⟨F,Hm⟩ (fun b=>
   match qn6 h (match i with|some _=> [k]|none=> [])&&(ks0 g d [] [] (some (k,c,i.isSome))&&((yw3 T b.F o.dst).ids.all (qx0 B f.length f.length g d)&&(match i with|some v=>v.ids|none=> []).all (qx0 B f.length f.length g d))) with
   |true=>G h (zb2 T l o.dst (yw3 T b.F o.dst)) (qz5 k c i (f.getD k .gone) f) (d++ [⟨j,f.length,f.length,[],[],some (k,c,i.isSome)⟩])
   |false=>none) (fun _ _=>none)
  |none=>zh7 P C o ⟨F,Hm⟩ (fun b=>
   match qn6 h (wrF C o ⟨F,Hm⟩)&&(ks0 g d tch (wrF C o ⟨F,Hm⟩) none&&(((yw3 T b.F o.dst).ids.all (qx0 B f.length b.H.length g d)&&wp8 T tch f.length m (yw3 T b.F o.dst))&&b.H.all fun e=>e.cellIds.all (qx0 B f.length b.H.length g d))) with
   |true=>G h (zb2 T l o.dst (yw3 T b.F o.dst)) (yh5 T tch f b.H 0) (d++ [⟨j,f.length,b.H.length,tch,wrF C o ⟨F,Hm⟩,none⟩])
   |false=>none) (fun a b=>match zn1 q h&&ws2 T B g d tch (wrF C o ⟨F,Hm⟩) a (ys1 T B tch f b.H) with
   |true=>G (some (j,r a ⟨p,ys1 T B tch f b.H⟩)) (zb2 T l o.dst (.raw undef)) (f++List.replicate (b.H.length-f.length) .gone) (d++ [⟨j,f.length,b.H.length,[],[],none⟩])
   |false=>none)
 |false=>none
def jq2 (n:Nat) (o:Oper) (j:Nat) (c:Option (Nat×Option R)) (d:AF T) (b:List (Ent T.U)) (a:List DR) (G:Option (Nat×Option R)->AF T->List (Ent T.U)->List DR->Option R):Option R:=
 match zi4 n o.dst with
 |true=>G c (zb2 T d o.dst (.raw undef)) b (a++ [⟨j,b.length,b.length,[],[],none⟩])
 |false=>none
def yd5 (ops:Array Oper) (n B:Nat) (i:List (Ent T.U)) (k:AF T) (l:Bool) (m:AV T.U->St T->Option R) (K:St T->Option R):List Oper->Nat->Option (Nat×Option R)->AF T->List (Ent T.U)->List DR->Option R
 | [],_,e,f,h,_=>match e with|none=>K ⟨f,h⟩|some (_,p)=>p
 |o::r,j,e,f,h,a=>
  let G:=fun e f h a=>yd5 ops n B i k l m K r (j+1) e f h a
  match zaj7 e ((yw1 ops ops.size).getD j []) with
  |true=>jq2 T n o j e f h a G
  |false=>match o.guard with
   |none=>vl5 T P C ops n B i k l m o j e f h a G
   |some (g,b)=>match km0 ops g with
    |none=>none
    |some d=>match f.get T d with
     |some (.cell ⟨.bool,c⟩)=>z9 c (match b with|true=>vl5 T P C ops n B i k l m o j e ((d,cB T true)::f) h a G|false=>jq2 T n o j e ((d,cB T true)::f) h a G) (match b with|true=>jq2 T n o j e ((d,cB T false)::f) h a G|false=>vl5 T P C ops n B i k l m o j e ((d,cB T false)::f) h a G)
     |some (.raw (.tuple _))=>jq2 T n o j e f h a G
     |_=>none
def vm4 (ops:Array Oper) (m:Nat):Bool:=(List.range m).all fun i=>match ops[i]? with
 |some o=>zc6 o&&((zy5 o++yn1 ops o).all fun t=>(zv7 ops i).any (fun j=>Nat.blt j m&&yy6 ops j==some t)||(List.range m).all fun j=>yy6 ops j != some t||((yw1 ops ops.size).getD j []).contains i)
 |none=>true
def okD (ops:Array Oper) (n:Nat):Bool:=vm4 ops ops.size&&(Go.V.ya8 (vf6 ops ops.size)&&(yo9 ops&&(yu8 ops ops.size&&(vf6 ops ops.size).all fun d=>Nat.blt d n)))
def ue4 (ops:Array Oper) (n:Nat) (a:Bool) (b:AV T.U->St T->Option R) (K:St T->Option R) (st:St T):Option R:=
 match okD ops n with
 |true=>yd5 T P C ops n st.H.length st.H (qy8 T (vf6 ops ops.size) st.F) a b K ops.toList 0 none st.F st.H []
 |false=>none
end
end Go.X
namespace Go.X
open Go.RowKit Go.V
structure Rec (T:Tab) where
 o:Oper
 d:DR
 skip:Bool
 F:AF T
 Hm:List (Ent T.U)
 a:AV T.U
 H1:List (Ent T.U)
 dead:Bool
 loc:Option (Nat×Nat×Option (AV T.U))
section
variable {T:Tab}
def upR (r:Rec T) (e:Nat):Option (Ent T.U):=
 match r.skip with
 |true=>none
 |false=>match r.loc with
  |some _=>none
  |none=>if e<r.d.nb then (if e∈r.d.tch/\e∈r.d.wr then r.H1[e]? else none) else r.H1[e]?
def upG (r:Rec T) (e:Nat) (x:Ent T.U):Ent T.U:=match r.loc with|some (k,c,some v)=>(if e=k then zx6 c v x else x)|_=>(upR r e).getD x
def jm7 (r:Rec T) (e:Nat):Prop:=upR r e≠none\/ ∃c v,r.loc=some (e,c,some v)
def vd9 {r} (h:r.loc=none) (e:Nat) (x:Ent T.U):upG r e x=(upR r e).getD x:=by unfold upG;rw [h]
def yx7 {r e} (h: ¬jm7 r e) (x:Ent T.U):upG r e x=x:=by
 have a:upR r e=none:=Classical.byContradiction fun b=>h (.inl b);unfold upG;split
 ·rename_i k c v d;split
  ·rename_i f;subst f;exact absurd (.inr ⟨c,v,d⟩) h
  ·rfl
 ·rw [a];rfl
def hF (D:Nat->Bool):List (Rec T)->(Nat->Ent T.U)->Nat->Ent T.U
 | [],f=>f
 |r::rs,f=>hF D rs (match D r.d.j with|true=>fun e=>upG r e (f e)|false=>f)
def fF (D:Nat->Bool):List (Rec T)->(Nat->Option (AV T.U))->Nat->Option (AV T.U)
 | [],f=>f
 |r::rs,f=>fF D rs (match r.o.dst with|some d=>(fun t=>if t=d then (match D r.d.j with|true=>some r.a|false=>f t) else f t)|none=>f)
def base (H0:List (Ent T.U)) (e:Nat):Ent T.U:=(H0[e]?).getD .gone
def zj2:Nat->Bool:=fun _=>true
def yc9 (D:Nat->Bool): ∀(a b:List (Rec T)) (f:Nat->Ent T.U),hF D (a++b) f=hF D b (hF D a f)
 | [],_,_=>rfl
 |r::a,b,f=>yc9 D a b _
def jx0 (D:Nat->Bool): ∀(a b:List (Rec T)) (f:Nat->Option (AV T.U)),fF D (a++b) f=fF D b (fF D a f)
 | [],_,_=>rfl
 |r::a,b,f=>jx0 D a b _
def zr1 {D:Nat->Bool} {e:Nat}: ∀ {rs:List (Rec T)} {f:Nat->Ent T.U},(∀r∈rs,D r.d.j=true-> ¬jm7 r e)->hF D rs f e=f e
 | [],f,_=>rfl
 |r::rs,f,h=>by
  unfold hF;rw [zr1 (rs:=rs) fun b a=>h b (Z4 _ a)];cases hD:D r.d.j with
  |false=>rfl
  |true=>exact yx7 (h r (U8 ..) hD) _
def yb0 {D b:Nat->Bool} {e:Nat}: ∀ {rs:List (Rec T)} {f g:Nat->Ent T.U},f e=g e->(∀r∈rs,jm7 r e->D r.d.j=b r.d.j)->hF D rs f e=hF b rs g e
 | [],f,g,a,_=>a
 |r::rs,f,g,a,h=>by
  unfold hF;refine yb0 (rs:=rs) ?_ fun k c=>h k (Z4 _ c);by_cases i:jm7 r e
  ·rw [h r (U8 ..) i];cases b r.d.j
   ·exact a
   ·show upG r e (f e)=upG r e (g e);rw [a]
  ·cases D r.d.j<;>cases b r.d.j<;>simp only [yx7 i]<;>exact a
def vm6 {D b:Nat->Bool} {e c:Nat}: ∀ {rs:List (Rec T)} {f g:Nat->Ent T.U},simE c (f e) (g e)->(∀r∈rs,jm7 r e->D r.d.j=b r.d.j\/ ∃c' v,r.loc=some (e,c',some v)/\c'≠c)->simE c (hF D rs f e) (hF b rs g e)
 | [],f,g,a,_=>a
 |r::rs,f,g,a,h=>by
  unfold hF;refine vm6 (rs:=rs) ?_ fun m i=>h m (Z4 _ i);by_cases k:jm7 r e
  ·have same:simE c (upG r e (f e)) (upG r e (g e)):=by
    unfold upG;split
    ·split
     ·exact a.both _ _
     ·exact a
    ·cases hx:upR r e with
     |some x=>exact .inl rfl
     |none=>exact a
   rcases h r (U8 ..) k with o|⟨c',v,p,l⟩
   ·rw [o];cases b r.d.j with
    |false=>exact a
    |true=>exact same
   ·have up: ∀x,upG r e x=zx6 c' v x:=fun x=>by unfold upG;rw [p];simp only [if_true]
    cases D r.d.j<;>cases b r.d.j
    ·exact a
    ·show simE c (f e) (upG r e (g e));rw [up];exact (a.symm.left l v).symm
    ·show simE c (upG r e (f e)) (g e);rw [up];exact a.left l v
    ·exact same
  ·cases D r.d.j<;>cases b r.d.j<;>simp only [yx7 k]<;>exact a
def vt7 {D:Nat->Bool} {e c:Nat} {v:AV T.U}: ∀ {rs:List (Rec T)} {f g:Nat->Ent T.U},f e=zx6 c v (g e)->(∀r∈rs,D r.d.j=true->jm7 r e-> ∃c' k,r.loc=some (e,c',some k)/\c≠c')->hF D rs f e=zx6 c v (hF D rs g e)
 | [],f,g,a,_=>a
 |r::rs,f,g,a,h=>by
  unfold hF;refine vt7 (rs:=rs) ?_ fun l b=>h l (Z4 _ b);cases hD:D r.d.j with
  |false=>exact a
  |true=>
   show upG r e (f e)=zx6 c v (upG r e (g e));by_cases i:jm7 r e
   ·obtain ⟨c',k,m,o⟩:=h r (U8 ..) hD i;unfold upG;rw [m];simp only [if_true];rw [a,kk0 o]
   ·rw [yx7 i,yx7 i];exact a
def zk4 {D:Nat->Bool} {t:Nat}: ∀ {rs:List (Rec T)} {f:Nat->Option (AV T.U)},(∀r∈rs,r.o.dst≠some t)->fF D rs f t=f t
 | [],f,_=>rfl
 |r::rs,f,h=>by
  unfold fF;rw [zk4 (rs:=rs) fun b a=>h b (Z4 _ a)];have:=h r (U8 ..);cases hd:r.o.dst with
  |none=>rfl
  |some d=>exact if_neg (fun e=>this (by rw [hd,e]))
def yl3 {D t}: ∀ {rs f} {r:Rec T},r∈rs->r.o.dst=some t->(∀i∈rs,i.o.dst=some t->i=r)->fF D rs f t=(match D r.d.j with|true=>some r.a|false=>f t)
 | [],f,r,h,_,_=>by cases h
 |q::rs,f,r,h,p,k=>by
  unfold fF;by_cases c:r∈rs
  ·rw [yl3 c p fun i b=>k i (Z4 _ b)];cases hD:D r.d.j with
   |true=>rfl
   |false=>
    by_cases g:q.o.dst=some t
    ·have e:=k q (U8 ..) g;subst e;simp only [g,if_true,hD]
    ·cases l:q.o.dst with
     |none=>rfl
     |some d=>exact if_neg (fun e=>g (by rw [l,e]))
  ·have l:q=r:=by
    rcases Z0.1 h with h|h
    ·exact h.symm
    ·exact absurd h c
   subst l;rw [zk4 fun i b m=>c (k i (Z4 _ b) m▸b)];simp only [p,if_true]
def yq0 {l}: ∀ {H i e},(zn5 T l H i)[e]?=(H[e]?).map fun x=>if (i+e)∈l then x else .gone
 | [],i,e=>by simp [zn5]
 |x::r,i,0=>by
  simp only [zn5,Y4,Z8,J5];cases hm:ye4 i l with
  |true=>rw [if_pos (zb9.1 hm)]
  |false=>rw [if_neg (fun h=>by rw [zb9.2 h] at hm;cases hm)]
 |x::r,i,e+1=>by
  simp only [zn5,List.getElem?_cons_succ];rw [yq0 (H:=r),show i+1+e=i+(e+1) by omega]
def zs9 {l}: ∀ {H i},(zn5 T l H i).length=H.length
 | [],i=>rfl
 |x::r,i=>by simp [zn5,zs9 (H:=r)]
def yv3 {l}: ∀ {H H1 i e},H.length<=H1.length->(yh5 T l H H1 i)[e]?=if e<H.length then (if (i+e)∈l then H1[e]? else H[e]?) else H1[e]?
 | [],H1,i,e,_=>by simp [yh5]
 |x::r,[],i,e,h=>by simp at h
 |x::r,y::s,i,0,h=>by
  simp only [yh5,Y4,J5,U9,Nat.zero_lt_succ,if_true];cases hm:ye4 i l with
  |true=>rw [if_pos (zb9.1 hm)]
  |false=>rw [if_neg (fun h=>by rw [zb9.2 h] at hm;cases hm)]
 |x::r,y::s,i,e+1,h=>by
  simp only [yh5,List.getElem?_cons_succ,U9];rw [yv3 (H:=r) (H1:=s) (by simpa using h),show i+1+e=i+(e+1) by omega];simp only [Nat.add_lt_add_iff_right]
def ya1 {l}: ∀ {H H1 i},H.length<=H1.length->(yh5 T l H H1 i).length=H1.length
 | [],H1,i,_=>rfl
 |x::r,[],i,h=>by simp at h
 |x::r,y::s,i,h=>by simp [yh5,ya1 (H:=r) (H1:=s) (by simpa using h)]
def zz8 {F i a}: ∀ {l},(zr8 T F l).get T i=some a->i∈l/\F.get T i=some a
 | [],h=>by simp [zr8,AF.get] at h
 |j::r,h=>by
  unfold zr8 at h;split at h
  ·rename_i u d;simp only [AF.get] at h;split at h
   ·rename_i e;have:=X1 e;subst this;rw [d];exact ⟨U8 ..,h⟩
   ·obtain ⟨b,c⟩:=zz8 h;exact ⟨Z4 _ b,c⟩
  ·obtain ⟨b,c⟩:=zz8 h;exact ⟨Z4 _ b,c⟩
end
section
variable {T:Tab} (P:Program) (C:Ctx T) (ops:Array Oper) (n B:Nat) (F0:AF T) (H0:List (Ent T.U))
def wd4 (B:Nat) (b:List (Rec T)) (ops:Array Oper) (r:Rec T) (i:Nat):Prop:=i<B\/(r.d.nb<=i/\i<r.d.ne)\/ ∃a∈b,a.d.nb<=i/\i<a.d.ne/\Tp ops r.d.j a.d.j
structure ChkR (r r':Rec T):Prop where
 tch: ∀e∈r.d.tch,r'.d.wrE e=false
 wr: ∀e∈r.d.wr,e∉r'.d.tch
 l1: ∀k c v,r'.loc=some (k,c,some v)->k∉r.d.tch
 l2: ∀k c s,r'.loc=some (k,c,s)->k∉r.d.wr
 l3: ∀k c s,r.loc=some (k,c,s)->r'.d.wrE k=false
 l4: ∀k c v,r.loc=some (k,c,some v)->k∉r'.d.tch
 l5: ∀k c s c' s',r.loc=some (k,c,s)->r'.loc=some (k,c',s')->s.isSome=true\/s'.isSome=true->c'≠c
structure LocOk (ps:List (Rec T)) (r:Rec T) (k c:Nat) (sv:Option (AV T.U)):Prop where
 skip:r.skip=false
 ns:zc6 r.o=true
 pre:zt5 r.F r.o=true
 lt:k<r.d.nb
 ne:r.d.ne=r.d.nb
 tch:r.d.tch= []
 wr:r.d.wr= []
 fr: ∀t a,r.F.get T t=some a->t∈zy5 r.o/\fF zj2 ps (F0.get T) t=some a
 step: ∀(F':AF T) (H':List (Ent T.U)) (f:Ent T.U),(∀t a,r.F.get T t=some a->F'.get T t=some a)->H'[k]?=some f->simE c f (hF zj2 ps (base H0) k)->zh7 P C r.o ⟨F',H'⟩ some (fun _ _=>none)=some ⟨zb2 T F' r.o.dst r.a,qz5 k c sv f H'⟩
 chk: ∀r'∈ps,Tp ops r.d.j r'.d.j\/ChkR r r'
 ids: ∀i∈r.a.ids,wd4 B ps ops r i
 vids: ∀v,sv=some v-> ∀i∈v.ids,wd4 B ps ops r i
structure TakeOk (ps:List (Rec T)) (r:Rec T):Prop where
 ns:zc6 r.o=true
 pre:zt5 r.F r.o=true
 step: ∃Fz,zh7 P C r.o ⟨r.F,r.Hm⟩ some (fun _ _=>none)=some ⟨zb2 T Fz r.o.dst r.a,r.H1⟩
 keeps:Keeps T r.d.wr r.Hm r.H1
 hlen:r.Hm.length=r.d.nb
 hm: ∀e,e<r.d.nb->r.Hm[e]?=some (if e∈r.d.tch then hF zj2 ps (base H0) e else .gone)
 live: ∀e∈r.d.tch,e<r.d.nb/\(hF zj2 ps (base H0) e).live=true
 ne:r.H1.length=r.d.ne
 fr: ∀t a,r.F.get T t=some a->t∈zy5 r.o/\fF zj2 ps (F0.get T) t=some a
 fid: ∀t a,r.F.get T t=some a-> ∀i∈a.ids,i<r.d.nb
 eids: ∀f∈r.Hm,∀i∈f.cellIds,i<r.d.nb
 chk: ∀r'∈ps,Tp ops r.d.j r'.d.j\/ChkR r r'
 ids: ∀i∈r.a.ids,wd4 B ps ops r i
 ep:wp8 T r.d.tch r.d.nb H0 r.a=true
 cids: ∀f∈r.H1,∀i∈f.cellIds,wd4 B ps ops r i
structure RecOk (ps:List (Rec T)) (r:Rec T):Prop where
 idx:r.d.j=ps.length
 op:ops[r.d.j]?=some r.o
 dst:zi4 n r.o.dst=true
 le:B<=r.d.nb/\r.d.nb<=r.d.ne
 mono: ∀r'∈ps,r'.d.ne<=r.d.nb
 skip:r.skip=true->r.a=.raw undef/\r.loc=none
 dskip:r.dead=true->r.skip=true
 take:r.skip=false->r.loc=none->TakeOk P C ops B F0 H0 ps r
 lok: ∀k c sv,r.loc=some (k,c,sv)->LocOk P C ops B F0 H0 ps r k c sv
 dloc:r.d.loc=r.loc.map fun p=>(p.1,p.2.1,p.2.2.isSome)
 guard:r.dead=false->match r.o.guard with
  |none=>r.skip=false
  |some (g,b)=> ∃rg∈ps,rg.d.j=g/\(∃d,rg.o.dst=some d)/\(r.skip=false->rg.a=cB T b)/\(r.skip=true->rg.a=cB T (!b)\/ ∃u,rg.a=.raw (.tuple u))
structure PanI (ps:List (Rec T)) (j0:Nat) (a:AV T.U) (core:List (Ent T.U)):Prop where
 out: ∃(r0:Rec T) (tch:List Nat) (F:AF T) (Hm Hp:List (Ent T.U)) (wr:List Nat),ps[j0]?=some r0/\r0.dead=true/\
  (match r0.o.guard with|none=>True|some (g,b)=> ∃rg∈ps.take j0,rg.d.j=g/\(∃d,rg.o.dst=some d)/\rg.a=cB T b)/\
  zc6 r0.o=true/\zt5 F r0.o=true/\zh7 P C r0.o ⟨F,Hm⟩ (fun _=>none) (fun a st=>some (a,st.H))=some (a,Hp)/\Keeps T wr Hm Hp/\
  Hm.length=r0.d.nb/\(∀e,e<r0.d.nb->Hm[e]?=some (if e∈tch then hF zj2 (ps.take j0) (base H0) e else .gone))/\
  (∀e∈tch,e<r0.d.nb/\(hF zj2 (ps.take j0) (base H0) e).live=true)/\Hp.length=r0.d.ne/\
  (∀t a,F.get T t=some a->t∈zy5 r0.o/\fF zj2 (ps.take j0) (F0.get T) t=some a)/\(∀t a,F.get T t=some a-> ∀i∈a.ids,i<r0.d.nb)/\(∀f∈Hm,∀i∈f.cellIds,i<r0.d.nb)/\
  (∀r'∈ps.take j0,Tp ops j0 r'.d.j\/((∀e∈tch,r'.d.wrE e=false)/\ ∀k c v,r'.loc=some (k,c,some v)->k∉tch))/\
  (∀e,e<B->core[e]?=some (if e∈tch then (Hp[e]?).getD .gone else hF zj2 (ps.take j0) (base H0) e))/\core.length=B
 deads: ∀q∈ps,q.dead=true->q.d.j=j0\/Tp ops q.d.j j0
 wrs: ∀q∈ps,q.skip=false->(q.d.wr≠ []\/ ∃k c v,q.loc=some (k,c,some v))->Tp ops j0 q.d.j
 coreIds: ∀f∈core,∀i∈f.cellIds,i<B
 aids:a.ids= []
def PzOk {R:Type} (d:AF T) (e:AV T.U->St T->Option R) (c:List (Rec T)):Option (Nat×Option R)->Prop
 |none=> ∀q∈c,q.dead=false
 |some (f,g)=> ∃a b,PanI P C ops B F0 H0 c f a b/\g=e a ⟨d,b⟩
def TrOk (rs:List (Rec T)):Prop:= ∀j r,rs[j]?=some r->RecOk P C ops n B F0 H0 (rs.take j) r
structure AccD (ps:List (Rec T)) (FF:AF T) (Hc:List (Ent T.U)) (recs:List DR):Prop where
 tr:TrOk P C ops n B F0 H0 ps
 ff: ∀t,FF.get T t=fF zj2 ps (F0.get T) t
 hc: ∀e,e<Hc.length->Hc[e]?=some (hF zj2 ps (base H0) e)
 le:B<=Hc.length
 mono: ∀r∈ps,r.d.ne<=Hc.length
 recs:recs=ps.map (·.d)
end
section
variable {T:Tab} {P:Program} {C:Ctx T} {ops:Array Oper} {n B:Nat} {F0:AF T} {H0:List (Ent T.U)}
structure OkD (ops:Array Oper) (n:Nat):Prop where
 dep:vm4 ops ops.size=true
 uniq: ∀i j d,i<ops.size->j<ops.size->yy6 ops i=some d->yy6 ops j=some d->i=j
 back:yo9 ops=true
 guards:yu8 ops ops.size=true
 dst: ∀i d,i<ops.size->yy6 ops i=some d->d<n
def ky0 (h:okD ops n=true):OkD ops n:=by
 unfold okD at h;simp only [X3] at h;obtain ⟨b,c,e,f,a⟩:=h;refine ⟨b,jw8 c,e,f,fun i d g j=>?_⟩;rw [Y8] at a;simpa [V2] using a d (by unfold vf6;rw [List.mem_filterMap];exact ⟨i,K1.2 g,j⟩)
def OkD.reads (h:OkD ops n) {i o} (e:ops[i]?=some o) {t} (f:t∈zy5 o++yn1 ops o):(∃j,(zv7 ops i).contains j=true/\yy6 ops j=some t)\/ ∀j,j<ops.size->yy6 ops j=some t->Tp ops j i:=by
 have g:=(Y3.1 e).1;have b:=h.dep;unfold vm4 at b;rw [Y8] at b;have:=b i (K1.2 g);rw [e] at this;simp only [X3,Y8] at this;have:=this.2 t f;simp only [V5] at this;rcases this with c|c
 ·rw [List.any_eq_true] at c;obtain ⟨j,d,a⟩:=c;simp only [X3,beq_iff_eq] at a;exact .inl ⟨j,by simpa using d,a.2⟩
 ·rw [Y8] at c;refine .inr fun j d b=>?_;have a:=c j (K1.2 d);rw [V5] at a;rcases a with a|a
  ·rw [b] at a;simp at a
  ·exact zt1 _ _ _ (N7.1 a)
def OkD.guard (h:OkD ops n) {i} {o:Oper} (c:ops[i]?=some o) {g b} (d:o.guard=some (g,b)):g<i:=by
 have e:=(Y3.1 c).1;have a:=h.guards;unfold yu8 at a;rw [Y8] at a;have:=a i (K1.2 e);rw [c] at this;simp only [d] at this;simpa [V2] using this
def zk7 {i o} (a:ops[i]?=some o):yy6 ops i=o.dst:=by simp [yy6,a]
def TrOk.uniq (l:OkD ops n) {rs} (h:TrOk P C ops n B F0 H0 rs) {r c} (m:r∈rs) (f:c∈rs) {t} (p:r.o.dst=some t) (g:c.o.dst=some t):r=c:=by
 obtain ⟨i,k⟩:=Y9.1 m;obtain ⟨j,e⟩:=Y9.1 f;have a:=h i r k;have b:=h j c e;have q:r.d.j=i:=by rw [a.idx,Y6,K6 (Nat.le_of_lt (X2.1 k).1)]
 have s:c.d.j=j:=by rw [b.idx,Y6,K6 (Nat.le_of_lt (X2.1 e).1)]
 have:=l.uniq r.d.j c.d.j t (Y3.1 a.op).1 (Y3.1 b.op).1 (by rw [zk7 a.op];exact p) (by rw [zk7 b.op];exact g);rw [q,s] at this;subst this;rw [k] at e;exact X5 e
def TrOk.snoc {b r} (h:TrOk P C ops n B F0 H0 b) (d:RecOk P C ops n B F0 H0 b r):TrOk P C ops n B F0 H0 (b++ [r]):=by
 intro j q a;rcases M7 j b.length with c|c|c
 ·rw [X8 c] at a;rw [Z7 (by omega)];exact h j q a
 ·subst c;rw [Z2 (W8 _),Nat.sub_self] at a;simp at a;subst a;rw [List.take_left];exact d
 ·rw [Y5 (by simp;omega)] at a;cases a
def TrOk.dlocs {a} (h:TrOk P C ops n B F0 H0 a): ∀r∈a,r.d.loc=r.loc.map fun p=>(p.1,p.2.1,p.2.2.isSome):=fun r b=>by
 obtain ⟨j,c⟩:=Y9.1 b;exact (h j r c).dloc
def AccD.skip {c m i f} (h:AccD P C ops n B F0 H0 c m i f) {o} (v:ops[c.length]?=some o) (w:zi4 n o.dst=true) (p:match o.guard with
  |none=>False
  |some (g,b)=> ∃rg∈c,rg.d.j=g/\(∃d,rg.o.dst=some d)/\(rg.a=cB T (!b)\/ ∃u,rg.a=.raw (.tuple u))):
  ∃r,AccD P C ops n B F0 H0 (c++ [r]) (zb2 T m o.dst (.raw undef)) i (f++ [⟨c.length,i.length,i.length,[],[],none⟩])/\r.dead=false/\r.skip=true:=by
 let r:Rec T:=⟨o,⟨c.length,i.length,i.length,[],[],none⟩,true,[],[],.raw undef,[],false,none⟩
 have s: ∀e,¬jm7 r e:=fun e h=>h.elim (fun h=>h rfl) fun ⟨_,_,h⟩=>by cases h
 refine ⟨r,?_,rfl,rfl⟩;refine ⟨h.tr.snoc ⟨rfl,v,w,⟨h.le,W8 _⟩,h.mono,fun _=>⟨rfl,rfl⟩,fun h=>(by cases h),fun h=>(by cases h),fun _ _ _ h=>(by cases h),rfl,fun _=>?_⟩,?_,fun e x=>?_,h.le,fun q k=>?_,by rw [h.recs];simp [r]⟩
 ·show match o.guard with|none=>_|some (g,b)=>_
  split at p
  ·exact p.elim
  ·rename_i g b y;obtain ⟨rg,z,A,D,E⟩:=p;exact ⟨rg,z,A,D,fun h=>(by cases h),fun _=>E⟩
 ·intro t;rw [jx0];show (zb2 T m o.dst (.raw undef)).get T t=(match o.dst with|some d=>(fun t=>if t=d then (match zj2 r.d.j with|true=>some r.a|false=>fF zj2 c (F0.get T) t) else fF zj2 c (F0.get T) t)|none=>fF zj2 c (F0.get T)) t;cases hdst:o.dst with
  |none=>exact h.ff t
  |some d=>
   simp only [zb2,AF.get,zj2];cases hb:Nat.beq d t with
   |true=>have:=X1 hb;subst this;simp [r]
   |false=>rw [if_neg (fun e=>by subst e;simp at hb)];exact h.ff t
 ·rw [h.hc e x,yc9,zr1 (rs:= [r]) fun F l _=>by simp at l;subst l;exact s e]
 ·rcases X4.1 k with k|k
  ·exact h.mono q k
  ·simp at k;subst k;exact W8 _
def ya0 {m l} (h:qa3 m l=true): ∀i∈l,i<m:=by
 intro i a;unfold qa3 at h;rw [Y8] at h;simpa [V2] using h i a
def qc4 {F t a} (h:F.get T t=some a): ∀i∈a.ids,i∈vh0 T F:=yz3 h
def yp5 {nb e j a} {f:List (Rec T)} (k:a=f.map (·.d)) {i} (h:qx0 B nb e ((yw1 ops ops.size).getD j []) a i=true):
  i<B\/(nb<=i/\i<e)\/ ∃b∈f,b.d.nb<=i/\i<b.d.ne/\Tp ops j b.d.j:=by
 unfold qx0 at h;simp only [V5,X3,V2] at h;rcases h with h|⟨l,m⟩|h
 ·exact .inl h
 ·exact .inr (.inl ⟨Y1 l,m⟩)
 ·rw [List.any_eq_true] at h;obtain ⟨d,g,h⟩:=h;simp only [X3,V2] at h;rw [k] at g;obtain ⟨b,c,rfl⟩:=U7.1 g;exact .inr (.inr ⟨b,c,Y1 h.1,h.2.1,zt1 ops.size _ _ (zb9.1 h.2.2)⟩)
def jd1 {j g} {r:List (Rec T)} (E:g=r.map (·.d)) (b: ∀a∈r,a.d.loc=a.loc.map fun p=>(p.1,p.2.1,p.2.2.isSome)) {tch t z} (h:ks0 ((yw1 ops ops.size).getD j []) g tch t z=true):
  ∀a∈r,Tp ops j a.d.j\/((∀e∈tch,a.d.wrE e=false)/\(∀e∈t,e∉a.d.tch)/\(∀k c v,a.loc=some (k,c,some v)->k∉tch)/\(∀k c s,a.loc=some (k,c,s)->k∉t)/\(∀k c st,z=some (k,c,st)->a.d.wrE k=false/\(st=true->k∉a.d.tch)/\ ∀c' u,a.loc=some (k,c',u)->st=true\/u.isSome=true->c'≠c)):=by
 intro a m;unfold ks0 at h;rw [Y8] at h;have:=h a.d (by rw [E];exact List.mem_map_of_mem m);have b:=b a m;generalize a.d=d at this b⊢;generalize a.loc=ll at b⊢;rw [V5] at this;rcases this with h|h
 ·exact .inl (zt1 ops.size _ _ (zb9.1 h))
 ·rw [X3,X3,Y8,Y8] at h;obtain ⟨⟨F,G⟩,f⟩:=h;have q: ∀ {e:Nat} {l:List Nat},(!ye4 e l)=true->e∉l:=fun {e l} h H=>by rw [zb9.2 H] at h;cases h
  unfold locC at f;rw [X3] at f;obtain ⟨f,A⟩:=f;refine .inr ⟨fun e w=>by have:=F e w;simpa using this,fun e w=>q (G e w),fun k c v i=>?_,fun k c J i=>?_,fun k c st i=>?_⟩
  ·subst i;rw [b] at f;simp only [Z8,Option.isSome_some,W9,Bool.false_or,X3] at f;exact q f.1
  ·subst i;rw [b] at f;simp only [Z8,X3] at f;exact q f.2
  ·subst i;simp only [X3] at A;obtain ⟨I,D,o⟩:=A;refine ⟨by simpa using I,fun x=>?_,fun c' u i y=>?_⟩
   ·subst x;simp only [W9,Bool.false_or] at D;exact q D
   ·subst i;rw [b] at o;simp only [Z8,K3,W9,Bool.false_or] at o;intro e;subst e;rw [K3] at o;rcases y with h|h<;>rw [h] at o<;>simp at o
def AccD.take {l G c k} (h:AccD P C ops n B F0 H0 l G c k) {o} (ho:ops[l.length]?=some o) (hg:match o.guard with
  |none=>True
  |some (g,b)=> ∃rg∈l,rg.d.j=g/\(∃d,rg.o.dst=some d)/\rg.a=cB T b) {tch} (H: ∀e∈tch,∃f,c[e]?=some f/\f.live=true) {F} (R:F=zr8 T G (zy5 o))
  (w:zi4 n o.dst=true) (S:zc6 o=true) (I:zt5 F o=true) (v:qa3 c.length (vh0 T F)=true) (J:((zn5 T tch c 0).all fun e=>qa3 c.length e.cellIds)=true)
  {a H1 s} (y:zh7 P C o ⟨F,zn5 T tch c 0⟩ some (fun _ _=>none)=some ⟨zb2 T s o.dst a,H1⟩) (V:Keeps T (wrF C o ⟨F,zn5 T tch c 0⟩) (zn5 T tch c 0) H1)
  (K:ks0 ((yw1 ops ops.size).getD l.length []) k tch (wrF C o ⟨F,zn5 T tch c 0⟩) none=true) (L:((yw3 T (zb2 T s o.dst a) o.dst).ids.all (qx0 B c.length H1.length ((yw1 ops ops.size).getD l.length []) k))=true)
  (X:wp8 T tch c.length H0 (yw3 T (zb2 T s o.dst a) o.dst)=true) (x:(H1.all fun e=>e.cellIds.all (qx0 B c.length H1.length ((yw1 ops ops.size).getD l.length []) k))=true):
  ∃r,AccD P C ops n B F0 H0 (l++ [r]) (zb2 T G o.dst (yw3 T (zb2 T s o.dst a) o.dst)) (yh5 T tch c H1 0) (k++ [⟨l.length,c.length,H1.length,tch,wrF C o ⟨F,zn5 T tch c 0⟩,none⟩])/\r.dead=false/\r.d.j=l.length/\r.d.wr=wrF C o ⟨F,zn5 T tch c 0⟩/\r.loc=none:=by
 let r:Rec T:=⟨o,⟨l.length,c.length,H1.length,tch,wrF C o ⟨F,zn5 T tch c 0⟩,none⟩,false,F,zn5 T tch c 0,yw3 T (zb2 T s o.dst a) o.dst,H1,false,none⟩
 have m:c.length<=H1.length:=by have:=V.len;rwa [zs9] at this
 have Y:zb2 T s o.dst (yw3 T (zb2 T s o.dst a) o.dst)=zb2 T s o.dst a:=by
  cases hd:o.dst with
  |none=>rfl
  |some d=>simp only [zb2,yw3,AF.get,K3]
 have u: ∀e,e<c.length->(zn5 T tch c 0)[e]?=some (if e∈tch then hF zj2 l (base H0) e else .gone):=by
  intro e A;rw [yq0,h.hc e A,U2];rfl
 have Z:TakeOk P C ops B F0 H0 l r:=by
  refine ⟨S,I,?_,V,zs9,u,fun e A=>?_,rfl,fun t a M=>?_,fun t a M i z=>ya0 v i (qc4 M i z),fun f hf i z=>?_,fun r' hr'=>(jd1 h.recs h.tr.dlocs K r' hr').imp id fun ⟨q1,q2,q3,q4,_⟩=>⟨q1,q2,q3,q4,fun _ _ _ N=>(by cases N),fun _ _ _ N=>(by cases N),fun _ _ _ _ _ N=>(by cases N)⟩,fun i z=>?_,X,fun f hf i z=>?_⟩
  ·refine ⟨s,?_⟩;show zh7 P C o ⟨F,zn5 T tch c 0⟩ some (fun _ _=>none)=some ⟨zb2 T s o.dst (yw3 T (zb2 T s o.dst a) o.dst),H1⟩;rw [Y];exact y
  ·obtain ⟨f,D,h2⟩:=H e A;have v:=(X2.1 D).1;rw [h.hc e v] at D;simp only [X0] at D;exact ⟨v,by rw [D];exact h2⟩
  ·have M:(zr8 T G (zy5 o)).get T t=some a:=by rw [<-R];exact M
   obtain ⟨D,h2⟩:=zz8 M;exact ⟨D,by rw [<-h.ff];exact h2⟩
  ·rw [Y8] at J;exact ya0 (J f hf) i z
  ·rw [Y8] at L;exact yp5 h.recs (L i z)
  ·rw [Y8] at x;have:=x f hf;rw [Y8] at this;exact yp5 h.recs (this i z)
 refine ⟨r,?_,rfl,rfl,rfl,rfl⟩;refine ⟨h.tr.snoc ⟨rfl,ho,w,⟨h.le,m⟩,h.mono,fun h=>(by cases h),fun h=>(by cases h),fun _ _=>Z,fun _ _ _ h=>(by cases h),rfl,fun _=>?_⟩,?_,fun e A=>?_,by rw [ya1 m];exact U5 h.le m,fun q E=>?_,by rw [h.recs];simp [r]⟩
 ·show match o.guard with|none=>_|some (g,b)=>_
  split at hg
  ·rfl
  ·obtain ⟨rg,a1,a2,a3,a4⟩:=hg;exact ⟨rg,a1,a2,a3,fun _=>a4,fun h=>(by cases h)⟩
 ·intro t;rw [jx0];show (zb2 T G o.dst r.a).get T t=(match o.dst with|some d=>(fun t=>if t=d then (match zj2 r.d.j with|true=>some r.a|false=>fF zj2 l (F0.get T) t) else fF zj2 l (F0.get T) t)|none=>fF zj2 l (F0.get T)) t;cases w:o.dst with
  |none=>exact h.ff t
  |some d=>
   simp only [zb2,AF.get,zj2];cases hb:Nat.beq d t with
   |true=>have:=X1 hb;subst this;simp
   |false=>rw [if_neg (fun e=>by subst e;simp at hb)];exact h.ff t
 ·rw [ya1 m] at A;rw [yv3 m,U2,yc9];show _=some ((upR r e).getD (hF zj2 l (base H0) e));have hr:upR r e=if e<c.length then (if e∈tch/\e∈wrF C o ⟨F,zn5 T tch c 0⟩ then H1[e]? else none) else H1[e]?:=rfl
  rw [hr];have O:H1[e]?=some H1[e]:=Y0 A;by_cases p:e<c.length
  ·rw [if_pos p,if_pos p];by_cases Q:e∈tch
   ·rw [if_pos Q];by_cases hw:e∈wrF C o ⟨F,zn5 T tch c 0⟩
    ·rw [if_pos ⟨Q,hw⟩,O];rfl
    ·rw [if_neg (fun q=>hw q.2),V.same e (by rw [zs9];exact p) hw,u e p,if_pos Q];rfl
   ·rw [if_neg Q,if_neg (fun q=>Q q.1),h.hc e p];rfl
  ·rw [if_neg p,if_neg p,O];rfl
 ·rw [ya1 m];rcases X4.1 E with E|E
  ·exact U5 (h.mono q E) m
  ·simp at E;subst E;exact W8 _
def AccD.takeL {s O m u} (h:AccD P C ops n B F0 H0 s O m u) {o} (ho:ops[s.length]?=some o) (hg:match o.guard with
  |none=>True
  |some (g,b)=> ∃rg∈s,rg.d.j=g/\(∃d,rg.o.dst=some d)/\rg.a=cB T b) {tch F} (Y:F=zr8 T O (zy5 o))
  (y:zi4 n o.dst=true) (Z:zc6 o=true) (Q:zt5 F o=true) {k c p} (l:wr2 P o F (zn5 T tch m 0)=some (k,c,p))
  {a H1 L} (D:zh7 P C o ⟨F,zn5 T tch m 0⟩ some (fun _ _=>none)=some ⟨zb2 T L o.dst a,H1⟩)
  (R:ks0 ((yw1 ops ops.size).getD s.length []) u [] [] (some (k,c,p.isSome))=true) (S:((yw3 T (zb2 T L o.dst a) o.dst).ids.all (qx0 B m.length m.length ((yw1 ops ops.size).getD s.length []) u))=true)
  (z:((match p with|some v=>v.ids|none=> []).all (qx0 B m.length m.length ((yw1 ops ops.size).getD s.length []) u))=true):
  ∃r,AccD P C ops n B F0 H0 (s++ [r]) (zb2 T O o.dst (yw3 T (zb2 T L o.dst a) o.dst)) (qz5 k c p (m.getD k .gone) m) (u++ [⟨s.length,m.length,m.length,[],[],some (k,c,p.isSome)⟩])/\r.dead=false/\r.d.wr= []/\r.loc=some (k,c,p):=by
 let r:Rec T:=⟨o,⟨s.length,m.length,m.length,[],[],some (k,c,p.isSome)⟩,false,F,[],yw3 T (zb2 T L o.dst a) o.dst,[],false,some (k,c,p)⟩
 obtain ⟨x,M,hxl,_,hst⟩:=kx0 l D;have hda: ∀G:AF T,zb2 T G o.dst (yw3 T (zb2 T L o.dst a) o.dst)=zb2 T G o.dst a:=fun G=>by
  cases hd:o.dst with
  |none=>rfl
  |some d=>simp only [zb2,yw3,AF.get,K3]
 have hk:k<m.length:=by have:=(X2.1 M).1;rwa [zs9] at this
 have hxe:x=hF zj2 s (base H0) k:=by
  rw [yq0,h.hc k hk,U2] at M;simp only [Z8,X0] at M;split at M
  ·exact M.symm
  ·subst M;cases hxl
 have V:LocOk P C ops B F0 H0 s r k c p:=by
  refine ⟨rfl,Z,Q,hk,rfl,rfl,rfl,fun t a ha=>?_,fun F' H' f hF hf A=>?_,fun r' hr'=>?_,fun i hi=>?_,fun v hv i hi=>?_⟩
  ·have ha:(zr8 T O (zy5 o)).get T t=some a:=by rw [<-Y];exact ha
   obtain ⟨h1,h2⟩:=zz8 ha;exact ⟨h1,by rw [<-h.ff];exact h2⟩
  ·rw [<-hxe] at A;have:=hst F' H' f hF hf A;show zh7 P C o ⟨F',H'⟩ some (fun _ _=>none)=some ⟨zb2 T F' o.dst (yw3 T (zb2 T L o.dst a) o.dst),qz5 k c p f H'⟩;rw [hda];exact this
  ·rcases jd1 h.recs h.tr.dlocs R r' hr' with q|⟨q1,q2,q3,q4,q5⟩
   ·exact .inl q
   obtain ⟨u1,u2,u3⟩:=q5 k c p.isSome rfl;refine .inr ⟨fun _ E=>(by cases E),fun _ E=>(by cases E),fun _ _ _ _ E=>(by cases E),fun _ _ _ _ E=>(by cases E),fun H I X l=>?_,fun H I v0 l=>?_,fun H I X c' s' l hl' hor=>?_⟩
   ·have l:some (k,c,p)=some (H,I,X):=l;simp only [X0,X7] at l;obtain ⟨rfl,rfl,rfl⟩:=l;exact u1
   ·have l:some (k,c,p)=some (H,I,some v0):=l;simp only [X0,X7] at l;obtain ⟨rfl,rfl,rfl⟩:=l;exact u2 rfl
   ·have l:some (k,c,p)=some (H,I,X):=l;simp only [X0,X7] at l;obtain ⟨rfl,rfl,rfl⟩:=l;exact u3 c' s' hl' hor
  ·rw [Y8] at S;exact yp5 h.recs (S i hi)
  ·subst hv;rw [Y8] at z;exact yp5 h.recs (z i hi)
 have w:(qz5 k c p (m.getD k .gone) m).length=m.length:=by cases p<;>simp [qz5]
 refine ⟨r,?_,rfl,rfl,rfl⟩;refine ⟨h.tr.snoc ⟨rfl,ho,y,⟨h.le,W8 _⟩,h.mono,fun h=>(by cases h),fun h=>(by cases h),fun _ h=>(by cases h),fun H I X l=>?_,rfl,fun _=>?_⟩,?_,fun e he=>?_,by rw [w];exact h.le,fun q N=>?_,by rw [h.recs];simp [r]⟩
 ·have l:some (k,c,p)=some (H,I,X):=l;simp only [X0,X7] at l;obtain ⟨rfl,rfl,rfl⟩:=l;exact V
 ·show match o.guard with|none=>_|some (g,b)=>_
  split at hg
  ·rfl
  ·obtain ⟨rg,a1,a2,a3,a4⟩:=hg;exact ⟨rg,a1,a2,a3,fun _=>a4,fun h=>(by cases h)⟩
 ·intro t;rw [jx0];show (zb2 T O o.dst r.a).get T t=(match o.dst with|some d=>(fun t=>if t=d then (match zj2 r.d.j with|true=>some r.a|false=>fF zj2 s (F0.get T) t) else fF zj2 s (F0.get T) t)|none=>fF zj2 s (F0.get T)) t;cases y:o.dst with
  |none=>exact h.ff t
  |some d=>
   simp only [zb2,AF.get,zj2];cases hb:Nat.beq d t with
   |true=>have:=X1 hb;subst this;simp
   |false=>rw [if_neg (fun e=>by subst e;simp at hb)];exact h.ff t
 ·rw [w] at he;rw [yc9];show _=some (upG r e (hF zj2 s (base H0) e));have J:=h.hc e he;cases p with
  |none=>exact J
  |some v=>
   show (m.set k (zx6 c v (m.getD k .gone)))[e]?=some (if e=k then zx6 c v (hF zj2 s (base H0) e) else hF zj2 s (base H0) e);by_cases K:e=k
   ·subst K;rw [Q0 hk,if_pos rfl,Y2,J];rfl
   ·rw [Z5 (Ne.symm K),if_neg K];exact J
 ·rw [w];rcases X4.1 N with N|N
  ·exact h.mono q N
  ·simp at N;subst N;exact W8 _
def AccD.dies {g x f p} (L:H0.length=B) (h:AccD P C ops n B F0 H0 g x f p) {o} (D:ops[g.length]?=some o) (E:zi4 n o.dst=true) (m) (y:f.length<=m):
  AccD P C ops n B F0 H0 (g++ [⟨o,⟨g.length,f.length,m,[],[],none⟩,true,[],[],.raw undef,[],true,none⟩]) (zb2 T x o.dst (.raw undef)) (f++List.replicate (m-f.length) .gone) (p++ [⟨g.length,f.length,m,[],[],none⟩]):=by
 let r:Rec T:=⟨o,⟨g.length,f.length,m,[],[],none⟩,true,[],[],.raw undef,[],true,none⟩
 have z: ∀e,¬jm7 r e:=fun e h=>h.elim (fun h=>h rfl) fun ⟨_,_,h⟩=>by cases h
 have b:(f++List.replicate (m-f.length) Ent.gone).length=m:=by simp;omega
 refine ⟨h.tr.snoc ⟨rfl,D,E,⟨h.le,y⟩,h.mono,fun _=>⟨rfl,rfl⟩,fun _=>rfl,fun h=>(by cases h),fun _ _ _ h=>(by cases h),rfl,fun h=>(by cases h)⟩,?_,fun e F=>?_,by rw [b];exact U5 h.le y,fun q i=>?_,by rw [h.recs];simp⟩
 ·intro t;rw [jx0];show (zb2 T x o.dst (.raw undef)).get T t=(match o.dst with|some d=>(fun t=>if t=d then (match zj2 r.d.j with|true=>some r.a|false=>fF zj2 g (F0.get T) t) else fF zj2 g (F0.get T) t)|none=>fF zj2 g (F0.get T)) t;cases hdst:o.dst with
  |none=>exact h.ff t
  |some d=>
   simp only [zb2,AF.get,zj2];cases hb:Nat.beq d t with
   |true=>have:=X1 hb;subst this;simp [r]
   |false=>rw [if_neg (fun e=>by subst e;simp at hb)];exact h.ff t
 ·rw [yc9,zr1 (rs:= [_]) fun M u _=>by simp only [Q6] at u;subst u;exact z e];by_cases w:e<f.length
  ·rw [X8 w];exact h.hc e w
  ·rw [Z2 (by omega)];rw [b] at F;rw [List.getElem?_replicate,if_pos (by omega),zr1 fun q i _=>?_]
   ·have:=h.le;unfold base;rw [Y5 (by omega)];rfl
   ·intro l;obtain ⟨k,G⟩:=Y9.1 i;have s:=h.tr k q G;have H:=h.mono q i;have I:=s.le;rcases l with l|⟨c,v,A⟩
    ·unfold upR at l;split at l
     ·exact l rfl
     ·rename_i J;split at l
      ·exact l rfl
      ·rename_i A;have K:=(s.take J A).ne;split at l
       ·omega
       ·exact l (Y5 (by omega))
    ·have:=(s.lok _ _ _ A).lt;omega
 ·rw [b];rcases X4.1 i with i|i
  ·exact U5 (h.mono q i) y
  ·simp at i;subst i;exact W8 _
def PanI.snoc {l f a e} (h:PanI P C ops B F0 H0 l f a e) {q} (s:q.dead=true->q.d.j=f\/Tp ops q.d.j f) (t:q.skip=false->(q.d.wr≠ []\/ ∃k c v,q.loc=some (k,c,some v))->Tp ops f q.d.j):PanI P C ops B F0 H0 (l++ [q]) f a e:=by
 obtain ⟨⟨u,tch,F,Hm,w,x,o,y,z⟩,A,D,E,G⟩:=h;have m:=(X2.1 o).1;have H:(l++ [q]).take f=l.take f:=Z7 (by omega);refine ⟨⟨u,tch,F,Hm,w,x,by rw [X8 m];exact o,y,by rw [H];exact z⟩,fun p b g=>?_,fun p b r i=>?_,E,G⟩
 ·rcases X4.1 b with b|b
  ·exact A p b g
  ·simp at b;subst b;exact s g
 ·rcases X4.1 b with b|b
  ·exact D p b r i
  ·simp at b;subst b;exact t r i
def PzOk.snoc {R:Type} {i:AF T} {j:AV T.U->St T->Option R} {l:List (Rec T)} {f:Option (Nat×Option R)} (h:PzOk P C ops B F0 H0 i j l f) {q:Rec T} (m:q.dead=false) (o:f≠none->q.skip=false->q.d.wr= []/\ ∀k c v,q.loc≠some (k,c,some v)):PzOk P C ops B F0 H0 i j (l++ [q]) f:=by
 cases f with
 |none=>
  intro p b;rcases X4.1 b with b|b
  ·exact h p b
  ·simp at b;subst b;exact m
 |some x=>
  obtain ⟨y,z⟩:=x;obtain ⟨a,e,t,u⟩:=h;exact ⟨a,e,t.snoc (fun r=>by rw [m] at r;cases r) fun s g=>(g.elim (fun g=>absurd (o (by simp) s).1 g) fun ⟨k,c,v,w⟩=>absurd w ((o (by simp) s).2 k c v)),u⟩
def AccD.again {e c f b} (h:AccD P C ops n B F0 H0 e c f b) {d a} (g:c.get T d=some a):AccD P C ops n B F0 H0 e ((d,a)::c) f b:=
 ⟨h.tr,fun t=>by
  simp only [AF.get];cases hb:Nat.beq d t with
  |true=>have:=X1 hb;subst this;rw [<-h.ff,g]
  |false=>exact h.ff t,h.hc,h.le,h.mono,h.recs⟩
def vx7 (hB:H0.length=B) (hk:OkD ops n) (hE:zb4 T P C.E) {R r Fp pm Kp K}: ∀(rest:List Oper) (p:List (Rec T)) (M:Option (Nat×Option R)) (N:AF T) (I:List (Ent T.U)) (w:List DR),ops.toList.drop p.length=rest->AccD P C ops n B F0 H0 p N I w->PzOk P C ops B F0 H0 Fp Kp p M->yd5 T P C ops n B H0 Fp pm Kp K rest p.length M N I w=some r->
  ∃rs D y z m,AccD P C ops n B F0 H0 rs y z m/\PzOk P C ops B F0 H0 Fp Kp rs D/\rs.length=ops.size/\(match D with|none=>K ⟨y,z⟩|some (_,kf)=>kf)=some r
 | [],p,M,N,I,w,hr,h,hz,s=>by
  have:ops.size<=p.length:=by simpa using List.drop_eq_nil_iff.1 hr
  have hle:p.length<=ops.size:=by
   rcases N5 p.length with h0|h0
   ·omega
   ·have L:p.length-1<p.length:=by omega
    have V:=Y0 L;have hrk:=h.tr _ _ V;have J:=(Y3.1 hrk.op).1;rw [hrk.idx,Y6] at J;omega
  exact ⟨p,M,N,I,w,h,hz,by omega,s⟩
 |o::rest,p,M,N,I,w,hr,h,hz,s=>by
  have L:p.length<ops.size:=by
   apply Classical.byContradiction;intro hn;rw [T6 (by simpa using hn)] at hr;cases hr
  have ho:ops[p.length]?=some o:=by
   have:=M8 (l:=ops.toList) (i:=p.length) (by simpa using L);rw [hr] at this;rw [Z6 L];have J:=(List.cons.inj this).1;simpa using J.symm
  have hr':ops.toList.drop (p.length+1)=rest:=by
   have:=M8 (l:=ops.toList) (i:=p.length) (by simpa using L);rw [hr] at this;exact (List.cons.inj this).2.symm
  have go: ∀(q:Rec T) (M:Option (Nat×Option R)) (y:AF T) (z:List (Ent T.U)) (m:List DR),AccD P C ops n B F0 H0 (p++ [q]) y z m->PzOk P C ops B F0 H0 Fp Kp (p++ [q]) M->yd5 T P C ops n B H0 Fp pm Kp K rest (p.length+1) M y z m=some r->
    ∃rs D y z m,AccD P C ops n B F0 H0 rs y z m/\PzOk P C ops B F0 H0 Fp Kp rs D/\rs.length=ops.size/\(match D with|none=>K ⟨y,z⟩|some (_,kf)=>kf)=some r:=by
   intro q M y z m ha hz A;have hl:(p++ [q]).length=p.length+1:=by simp
   rw [<-hl] at A;exact vx7 hB hk hE rest (p++ [q]) M y z m (by rw [hl];exact hr') ha hz A
  let Gr:Option (Nat×Option R)->AF T->List (Ent T.U)->List DR->Option R:=fun M N I w=>yd5 T P C ops n B H0 Fp pm Kp K rest (p.length+1) M N I w
  have htake: ∀N,AccD P C ops n B F0 H0 p N I w->(match o.guard with
    |none=>True
    |some (g,b)=> ∃rg∈p,rg.d.j=g/\(∃d,rg.o.dst=some d)/\rg.a=cB T b)->
    vl5 T P C ops n B H0 Fp pm Kp o p.length M N I w Gr=some r-> ∃rs D y z m,AccD P C ops n B F0 H0 rs y z m/\PzOk P C ops B F0 H0 Fp Kp rs D/\rs.length=ops.size/\(match D with|none=>K ⟨y,z⟩|some (_,kf)=>kf)=some r:=by
   intro N h V s;unfold vl5 at s;simp only at s;generalize hF:zr8 T N (zy5 o)=F at s;generalize htch:qx6 T I (gv3 T o F I++jk2 C o F I)=tch at s;have htl: ∀e∈tch,∃f,I[e]?=some f/\f.live=true:=fun e he=>by
    rw [<-htch] at he;have:=(W3.1 he).2;split at this
    ·rename_i f hf;exact ⟨f,hf,this⟩
    ·cases this
   split at s<;>try (cases s;done)
   rename_i hb;simp only [X3] at hb;split at s
   ·rename_i k c sv hl;rcases qh0 hE s with ⟨Fz,a,H1,J,h2,h3⟩|⟨a,X,J,h2,h3⟩
    ·dsimp only at J;split at J<;>try (cases J;done)
     rename_i O;simp only [X3] at O;obtain ⟨S,hc1,hc2,hc3⟩:=O;obtain ⟨q,A,Y,hqw,hql⟩:=h.takeL ho V (tch:=tch) hF.symm hb.1 hb.2.1 hb.2.2.1 hl (h3 _ _) hc1 hc2 hc3;refine go q _ _ _ _ A (hz.snoc Y fun hne _=>⟨hqw,fun k' c' v' hl'=>?_⟩) J;rw [hql] at hl';simp only [X0,X7] at hl';obtain ⟨_,_,rfl⟩:=hl';cases M with
     |none=>exact absurd rfl hne
     |some x=>simp [qn6] at S
    ·cases J
   rcases qh0 hE s with ⟨Fz,a,H1,J,h2,h3⟩|⟨a,X,J,h2,h3⟩
   ·dsimp only at J;split at J<;>try (cases J;done)
    rename_i O;rw [X3] at O;obtain ⟨S,O⟩:=O;simp only [X3] at O;obtain ⟨q,A,Y,hqj,hqw,hql⟩:=h.take ho V (tch:=tch) htl hF.symm hb.1 hb.2.1 hb.2.2.1 hb.2.2.2.1 hb.2.2.2.2 (h3 _ _) h2 O.1 O.2.1.1 O.2.1.2 O.2.2;refine go q _ _ _ _ A (hz.snoc Y fun hne _=>⟨?_,fun k c v hl=>by rw [hql] at hl;cases hl⟩) J;rw [hqw];cases M with
    |none=>exact absurd rfl hne
    |some x=>simpa [qn6] using S
   ·split at J<;>try (cases J;done)
    rename_i O;rw [X3] at O;obtain ⟨hfst,hok⟩:=O;have hpz:M=none:=by cases M with|none=>rfl|some x=>cases hfst
    subst hpz;unfold ws2 at hok;simp only [X3] at hok;obtain ⟨k1,k2,k3,k4⟩:=hok;have hnb:I.length<=X.H.length:=by have:=h2.len;rwa [zs9] at this
    have hd:=h.dies hB ho hb.1 X.H.length hnb;refine go _ (some (p.length,Kp a ⟨Fp,ys1 T B tch I X.H⟩)) _ _ _ hd ⟨a,ys1 T B tch I X.H,⟨⟨⟨o,⟨p.length,I.length,X.H.length,[],[],none⟩,true,[],[],.raw undef,[],true,none⟩,tch,F,zn5 T tch I 0,X.H,_,?_,rfl,?_,hb.2.1,hb.2.2.1,h3 _ _,h2,zs9,fun e he=>?_,fun e he=>?_,rfl,fun t x hx=>?_,fun t x hx i hi=>ya0 hb.2.2.2.1 i (qc4 hx i hi),fun f hf i hi=>?_,?_,fun e he=>?_,?_⟩,fun q A Y=>?_,fun q A hs hw=>?_,fun f hf i hi=>?_,by simpa using k2⟩,rfl⟩ J
    ·rw [Z2 (W8 _)];simp
    ·show match o.guard with|none=>True|some (g,b)=>_
     split
     ·trivial
     ·rename_i g b hgd;rw [hgd] at V;simp only at V;rw [Z7 (W8 _),T2];exact V
    ·rw [Z7 (W8 _),T2,yq0,h.hc e he,U2];rfl
    ·obtain ⟨f,g1,g2⟩:=htl e he;have L:=(X2.1 g1).1;rw [h.hc e L] at g1;simp only [X0] at g1;rw [Z7 (W8 _),T2];exact ⟨L,by rw [g1];exact g2⟩
    ·rw [<-hF] at hx;obtain ⟨g1,g2⟩:=zz8 hx;rw [Z7 (W8 _),T2];exact ⟨g1,by rw [<-h.ff];exact g2⟩
    ·have:=Y8.1 hb.2.2.2.2 f hf;exact ya0 this i hi
    ·rw [Z7 (W8 _),T2];intro r' hr';rcases jd1 h.recs h.tr.dlocs k1 r' hr' with g1|⟨g1,_,g3,_⟩
     ·exact .inl g1
     ·exact .inr ⟨g1,g3⟩
    ·rw [Z7 (W8 _),T2];have hle:=h.le;unfold ys1;rw [Z3,if_pos he,yv3 hnb,if_pos (by omega),U2];split
     ·have L:e<X.H.length:=by omega
      rw [Y0 L];rfl
     ·rw [h.hc e (by omega)]
    ·have hle:=h.le;unfold ys1;rw [Y6,ya1 hnb];omega
    ·rcases X4.1 A with A|A
     ·rw [hz q A] at Y;cases Y
     ·simp at A;subst A;exact .inl rfl
    ·rcases X4.1 A with A|A
     ·have hm:=Y8.1 k3 q.d (by rw [h.recs];exact U7.2 ⟨q,A,rfl⟩);rw [V5] at hm;rcases hm with hm|hm
      ·exact zt1 ops.size _ _ (zb9.1 hm)
      ·rw [X3] at hm;rcases hw with hw|⟨k0,c0,v0,hl0⟩
       ·exact absurd (by simpa using hm.1) hw
       ·have J:=h.tr.dlocs q A;rw [hl0] at J;have h2:q.d.isSt=true:=by unfold DR.isSt;rw [J];rfl
        rw [h2] at hm;simp at hm
     ·simp at A;subst A;cases hs
    ·have:=Y8.1 k4 f hf;exact ya0 this i hi
  have hpass: ∀N,AccD P C ops n B F0 H0 p N I w->(match o.guard with
    |none=>False
    |some (g,b)=> ∃rg∈p,rg.d.j=g/\(∃d,rg.o.dst=some d)/\(rg.a=cB T (!b)\/ ∃u,rg.a=.raw (.tuple u)))->
    jq2 T n o p.length M N I w Gr=some r-> ∃rs D y z m,AccD P C ops n B F0 H0 rs y z m/\PzOk P C ops B F0 H0 Fp Kp rs D/\rs.length=ops.size/\(match D with|none=>K ⟨y,z⟩|some (_,kf)=>kf)=some r:=by
   intro N h V s;unfold jq2 at s;split at s<;>try (cases s;done)
   rename_i hd;obtain ⟨q,A,Y,hqs⟩:=h.skip ho hd V;exact go q _ _ _ _ A (hz.snoc Y fun _ hs=>(by rw [hqs] at hs;cases hs)) s
  unfold yd5 at s;simp only at s;split at s
  ·rename_i hdead;have s:jq2 T n o p.length M N I w Gr=some r:=s;unfold jq2 at s;split at s<;>try (cases s;done)
   rename_i hd;have A:=h.dies hB ho hd I.length (W8 _);rw [Nat.sub_self,List.replicate_zero,M4] at A;cases M with
   |none=>cases hdead
   |some x=>
    obtain ⟨j0,kf⟩:=x;obtain ⟨a,core,g1,g2⟩:=hz;exact go _ (some (j0,kf)) _ _ _ A ⟨a,core,g1.snoc (fun _=>.inr (zt1 ops.size _ _ (zb9.1 hdead))) fun hs=>(by cases hs),g2⟩ s
  split at s
  ·rename_i V;exact htake N h (by rw [V];trivial) s
  ·rename_i g b V;split at s
   ·cases s
   ·rename_i d hdg;have hgl:=hk.guard ho V;have hgg:p[g]?=some p[g]:=Y0 hgl;have hrk:=h.tr g _ hgg;have Q:p[g].d.j=g:=by rw [hrk.idx,Y6];omega
    have hop:=hrk.op;rw [Q] at hop;have G:p[g].o.dst=some d:=by
     unfold km0 at hdg;rw [hop] at hdg;exact hdg
    have hff:N.get T d=some p[g].a:=by
     rw [h.ff,yl3 (X6 hgg) G fun r' hr' hd'=>h.tr.uniq hk hr' (X6 hgg) hd' G];rfl
    have Z:=X6 hgg;split at s
    ·rename_i c O;have ha:p[g].a=cB T c:=by rw [hff] at O;exact X5 O
     rcases zh5 s with ⟨hct,s⟩|⟨hct,s⟩
     ·have hct:c=true:=hct;subst hct;have h':=h.again (d:=d) (a:=cB T true) (by rw [hff,ha]);cases b with
      |true=>exact htake _ h' (by rw [V];exact ⟨_,Z,Q,⟨d,G⟩,ha⟩) s
      |false=>exact hpass _ h' (by rw [V];exact ⟨_,Z,Q,⟨d,G⟩,.inl ha⟩) s
     ·have hct:c=false:=hct;subst hct;have h':=h.again (d:=d) (a:=cB T false) (by rw [hff,ha]);cases b with
      |true=>exact hpass _ h' (by rw [V];exact ⟨_,Z,Q,⟨d,G⟩,.inl ha⟩) s
      |false=>exact htake _ h' (by rw [V];exact ⟨_,Z,Q,⟨d,G⟩,ha⟩) s
    ·rename_i u O;have ha:p[g].a=.raw (.tuple u):=by rw [hff] at O;exact X5 O
     exact hpass N h (by rw [V];exact ⟨_,Z,Q,⟨d,G⟩,.inr ⟨u,ha⟩⟩) s
    ·cases s
end
end Go.X
namespace Go.X
open Go.RowKit Go.V
section
variable {T:Tab}
def mkH (N:Nat) (f:Nat->Ent T.U):List (Ent T.U):=(List.range N).map f
def zp9 {N:Nat} {f:Nat->Ent T.U}:(mkH N f).length=N:=by simp [mkH]
def zg1 {N:Nat} {f:Nat->Ent T.U} {e:Nat} {x:Ent T.U}:(mkH N f)[e]?=some x↔e<N/\f e=x:=by
 unfold mkH;rw [W4];by_cases h:e<N
 ·rw [List.getElem?_range h];simp [h]
 ·rw [Y5 (by simpa using h)];simp [h]
def mkF (f:Nat->Option (AV T.U)):Nat->AF T
 |0=> []
 |n+1=>match f n with|some a=>(n,a)::mkF f n|none=>mkF f n
def zg0 {f t a}: ∀ {n},(mkF f n).get T t=some a↔t<n/\f t=some a
 |0=>by simp [mkF,AF.get]
 |n+1=>by
  unfold mkF;by_cases d:t=n
  ·subst d;split
   ·rename_i b c;simp only [AF.get,K3];constructor
    ·intro h;exact ⟨by omega,by rw [c];exact h⟩
    ·intro h;rw [c] at h;exact h.2
   ·rename_i c;rw [zg0];constructor
    ·intro h;omega
    ·intro h;rw [c] at h;cases h.2
  ·have e:Nat.beq n t=false:=by cases c:Nat.beq n t;rfl;exact absurd (X1 c).symm d
   split
   ·simp only [AF.get,e];rw [zg0];constructor<;>intro h<;>exact ⟨by omega,h.2⟩
   ·rw [zg0];constructor<;>intro h<;>exact ⟨by omega,h.2⟩
def zw4 (a:Act):Nat->PF
 |0=> []
 |n+1=>(n,a.tmps.getD n undef)::zw4 a n
def zm4 {a t v}: ∀ {n},(zw4 a n).get t=some v↔t<n/\a.tmps.getD t undef=v
 |0=>by simp [zw4,PF.get]
 |n+1=>by
  simp only [zw4,PF.get];by_cases b:t=n
  ·subst b;simp [K3]
  ·have c:Nat.beq n t=false:=by cases hb:Nat.beq n t;rfl;exact absurd (X1 hb).symm b
   rw [c];simp only;rw [zm4];constructor<;>intro h<;>exact ⟨by omega,h.2⟩
def yn0 {a n ds} (b:a.tmps.size=n) (c:a.defers=ds):Fr n ds (zw4 a n) a:=⟨b,c,fun i v d=>by
 obtain ⟨e,f⟩:=zm4.1 d;exact ⟨f,e⟩⟩
end
section
variable {T:Tab} {P:Program} {C:Ctx T} {ops:Array Oper} {n B:Nat} {F0:AF T} {H0:List (Ent T.U)} {rs:List (Rec T)}
def TrOk.idx (h:TrOk P C ops n B F0 H0 rs) {j} {r:Rec T} (a:rs[j]?=some r):r.d.j=j:=by
 rw [(h j r a).idx,Y6,K6 (Nat.le_of_lt (X2.1 a).1)]
def zv5 {i j r} (a:i<j) (b:rs[i]?=some r):r∈rs.take j:=X6 (i:=i) (by rw [Z3,if_pos a];exact b)
def TrOk.ord (h:TrOk P C ops n B F0 H0 rs) {i j:Nat} {r q:Rec T} (a:i<j) (b:rs[i]?=some r) (c:rs[j]?=some q):r.d.ne<=q.d.nb:=(h j q c).mono r (zv5 a b)
def zl2 {r:Rec T} {e} (h:upR r e≠none):(r.skip=false/\r.loc=none)/\((e<r.d.nb/\e∈r.d.tch/\e∈r.d.wr)\/(r.d.nb<=e/\e<r.H1.length)):=by
 unfold upR at h;split at h
 ·exact absurd rfl h
 ·rename_i c;split at h
  ·exact absurd rfl h
  ·rename_i f;refine ⟨⟨c,f⟩,?_⟩;split at h
   ·rename_i a;split at h
    ·rename_i b;exact .inl ⟨a,b.1,b.2⟩
    ·exact absurd rfl h
   ·rename_i a;refine .inr ⟨by omega,?_⟩;apply Classical.byContradiction;intro g;exact h (Y5 (by omega))
def js6 {d:DR} {e} (h:d.wrE e=false):e∉d.wr/\ ¬(d.nb<=e/\e<d.ne):=by
 unfold DR.wrE at h;simp only [Bool.or_eq_false_iff,Bool.and_eq_false_imp] at h;refine ⟨fun a=>(by rw [zb9.2 a] at h;cases h.1),fun ⟨b,c⟩=>?_⟩;have:=h.2 (W5 b);rw [show Nat.blt e d.ne=true by rw [V2];exact c] at this;cases this
def TrOk.later (h:TrOk P C ops n B F0 H0 rs) {D:Nat->Bool} (p: ∀i k,D i=true->Tp ops i k->D k=true) {j:Nat} {r:Rec T} (m:rs[j]?=some r) (E:D j=false) {e:Nat} (s:e∈r.d.tch/\e<r.d.nb\/r.d.nb<=e/\e<r.d.ne) {i:Nat} {q:Rec T} (u:rs[i]?=some q) (g:j<i) (w:jm7 q e):D i=false:=by
 cases hDi:D i with
 |false=>rfl
 |true=>
  exfalso;have o:=(h i q u);have z:=h.ord g m u;have F:=(h j r m).le.2;have f: ¬Tp ops q.d.j r.d.j:=fun t=>by
   rw [h.idx u,h.idx m] at t;have:=p i j hDi t;rw [E] at this;cases this
  rcases w with w|⟨c,v,x⟩
  ·obtain ⟨⟨G,y⟩,H⟩:=zl2 w;rcases (o.take G y).chk r (zv5 g m) with a|a
   ·exact f a
   ·rcases H with ⟨I,A,J⟩|⟨I,A⟩
    ·rcases s with ⟨b,l⟩|⟨b,l⟩
     ·exact a.wr e J b
     ·exact (js6 (a.tch e A)).2 ⟨b,l⟩
    ·rcases s with ⟨b,l⟩|⟨b,l⟩<;>omega
  ·rcases (o.lok _ _ _ x).chk r (zv5 g m) with a|a
   ·exact f a
   ·rcases s with ⟨b,l⟩|⟨b,l⟩
    ·exact a.l4 e c v x b
    ·exact (js6 (a.l3 e c _ x)).2 ⟨b,l⟩
def yn9 {j r} (b:rs[j]?=some r):rs=rs.take j++r::rs.drop (j+1):=by
 obtain ⟨a,c⟩:=X2.1 b;rw [<-c,<-List.drop_eq_getElem_cons a,Q9]
def yg9 {j q} (h:q∈rs.drop (j+1)): ∃i,j<i/\rs[i]?=some q:=by
 obtain ⟨k,a⟩:=Y9.1 h;rw [Q7] at a;exact ⟨j+1+k,by omega,a⟩
def zl0 {j q} (h:q∈rs.take j): ∃i,i<j/\rs[i]?=some q:=by
 obtain ⟨k,a⟩:=Y9.1 h;rw [Z3] at a;split at a
 ·rename_i b;exact ⟨k,b,a⟩
 ·cases a
def TrOk.touch (h:TrOk P C ops n B F0 H0 rs) {D:Nat->Bool} (u: ∀i k,D i=true->Tp ops i k->D k=true) {j:Nat} {r:Rec T} (b:rs[j]?=some r) (I:r.skip=false) (w:r.loc=none) (E:D j=false) (f: ∀k,Tp ops j k->D k=true) {e:Nat} (s:e∈r.d.tch):
  hF D rs (base H0) e=hF zj2 (rs.take j) (base H0) e:=by
 have x:=h j r b;have g:=x.take I w;have l:=(g.live e s).1
 conv=>lhs;rw [yn9 b]
 rw [yc9];show hF D (rs.drop (j+1)) (match D r.d.j with|true=>_|false=>hF D (rs.take j) (base H0)) e=_;rw [h.idx b,E];simp only;rw [zr1 fun q t m o=>?_]
 ·refine yb0 rfl fun q t o=>?_;obtain ⟨i,F,a⟩:=zl0 t;show D q.d.j=true;rw [h.idx a];rcases g.chk q t with p|p
  ·rw [h.idx b,h.idx a] at p;exact f i p
  ·exfalso;have G:=js6 (p.tch e s);rcases o with o|⟨c,v,J⟩
   ·obtain ⟨⟨y,z⟩,A⟩:=zl2 o;rcases A with ⟨_,_,K⟩|⟨L,H⟩
    ·exact G.1 K
    ·rw [((h i q a).take y z).ne] at H;exact G.2 ⟨L,H⟩
   ·exact p.l1 e c v J s
 ·obtain ⟨i,F,a⟩:=yg9 t;have:=h.later u b E (.inl ⟨s,l⟩) a F o;rw [h.idx a,this] at m;cases m
def TrOk.laterL (h:TrOk P C ops n B F0 H0 rs) {D:Nat->Bool} (o: ∀i k,D i=true->Tp ops i k->D k=true) {j:Nat} {r:Rec T} (g:rs[j]?=some r) (A:D j=false) {k c:Nat} {p:Option (AV T.U)} (s:r.loc=some (k,c,p)) {i:Nat} {q:Rec T} (u:rs[i]?=some q) (e:j<i) (v:D i=true) (w:jm7 q k): ∃c' x,q.loc=some (k,c',some x)/\c≠c':=by
 have l:=h i q u;have m:=(h j r g).lok _ _ _ s;have z:=h.ord e g u;have b: ¬Tp ops q.d.j r.d.j:=fun t=>by
  rw [h.idx u,h.idx g] at t;have:=o i j v t;rw [A] at this;cases this
 rcases w with w|⟨c',x,f⟩
 ·exfalso;obtain ⟨⟨E,y⟩,F⟩:=zl2 w;rcases (l.take E y).chk r (zv5 e g) with a|a
  ·exact b a
  ·rcases F with ⟨G,H,I⟩|⟨G,H⟩
   ·exact a.l2 k c p s I
   ·have:=m.lt;have:=m.ne;omega
 ·rcases (l.lok _ _ _ f).chk r (zv5 e g) with a|a
  ·exact absurd a b
  ·exact ⟨c',x,f,a.l5 k c' _ c p f s (.inl rfl)⟩
def TrOk.touchL (h:TrOk P C ops n B F0 H0 rs) {D:Nat->Bool} (p: ∀i k,D i=true->Tp ops i k->D k=true) {j:Nat} {r:Rec T} (e:rs[j]?=some r) {k c:Nat} {s:Option (AV T.U)} (o:r.loc=some (k,c,s)) (y:D j=false) (f: ∀k,Tp ops j k->D k=true):
  simE c (hF D rs (base H0) k) (hF zj2 (rs.take j) (base H0) k):=by
 have t:=(h j r e).lok _ _ _ o;have F:hF D rs (base H0) k=hF D (rs.drop (j+1)) (hF D (rs.take j) (base H0)) k:=by
  conv=>lhs;rw [yn9 e]
  rw [yc9];show hF D (rs.drop (j+1)) (match D r.d.j with|true=>_|false=>_) k=_;rw [h.idx e,y]
 have G:hF zj2 (rs.take j) (base H0) k=hF (fun _=>false) (rs.drop (j+1)) (hF zj2 (rs.take j) (base H0)) k:=(zr1 fun _ _ b=>by cases b).symm;rw [F,G];refine vm6 (vm6 (.inl rfl) fun q b g=>?_) fun q b g=>?_
 ·obtain ⟨i,z,a⟩:=zl0 b;rcases t.chk q b with l|l
  ·rw [h.idx e,h.idx a] at l;left;rw [h.idx a,f i l];rfl
  ·rcases g with g|⟨c',u,m⟩
   ·exfalso;have A:=js6 (l.l3 k c s o);obtain ⟨⟨v,w⟩,x⟩:=zl2 g;rcases x with ⟨_,_,H⟩|⟨I,E⟩
    ·exact A.1 H
    ·rw [((h i q a).take v w).ne] at E;exact A.2 ⟨I,E⟩
   ·exact .inr ⟨c',u,m,l.l5 k c s c' _ o m (.inr rfl)⟩
 ·obtain ⟨i,z,a⟩:=yg9 b;cases hDi:D q.d.j with
  |false=>exact .inl rfl
  |true=>
   rw [h.idx a] at hDi;obtain ⟨c',u,J,K⟩:=h.laterL p e y o a z hDi g;exact .inr ⟨c',u,J,Ne.symm K⟩
def zi8 (D:Nat->Bool) (j:Nat):Nat->Bool:=fun i=>if i=j then true else D i
def TrOk.put (h:TrOk P C ops n B F0 H0 rs) {D:Nat->Bool} (o: ∀i k,D i=true->Tp ops i k->D k=true) {j:Nat} {r:Rec T} (g:rs[j]?=some r) (u:D j=false) (e:Nat):
  hF (zi8 D j) rs (base H0) e=upG r e (hF D rs (base H0) e):=by
 have p: ∀(i:Nat) (q:Rec T),rs[i]?=some q->i≠j->zi8 D j q.d.j=D q.d.j:=fun i q b l=>by
  unfold zi8;rw [h.idx b,if_neg l]
 have H:zi8 D j r.d.j=true:=by unfold zi8;rw [h.idx g,if_pos rfl]
 have w:hF (zi8 D j) (rs.take j) (base H0) e=hF D (rs.take j) (base H0) e:=yb0 rfl fun q b _=>by
  obtain ⟨i,l,a⟩:=zl0 b;exact p i q a (by omega)
 have lhs:hF (zi8 D j) rs (base H0) e=hF (zi8 D j) (rs.drop (j+1)) (fun e=>upG r e (hF (zi8 D j) (rs.take j) (base H0) e)) e:=by
  conv=>lhs;rw [yn9 g]
  rw [yc9];show hF (zi8 D j) (rs.drop (j+1)) (match zi8 D j r.d.j with|true=>_|false=>_) e=_;rw [H]
 have rhs:hF D rs (base H0) e=hF D (rs.drop (j+1)) (hF D (rs.take j) (base H0)) e:=by
  conv=>lhs;rw [yn9 g]
  rw [yc9];show hF D (rs.drop (j+1)) (match D r.d.j with|true=>_|false=>_) e=_;rw [h.idx g,u]
 have y: ∀q∈rs.drop (j+1),zi8 D j q.d.j=D q.d.j:=fun q b=>by
  obtain ⟨i,l,a⟩:=yg9 b;exact p i q a (by omega)
 have s:hF (zi8 D j) rs (base H0) e=hF D (rs.drop (j+1)) (fun e=>upG r e (hF (zi8 D j) (rs.take j) (base H0) e)) e:=by
  rw [lhs];exact yb0 rfl fun q b _=>y q b
 rw [s,rhs];by_cases t:jm7 r e
 ·rcases t with t|⟨c,v,F⟩
  ·obtain ⟨⟨I,z⟩,J⟩:=zl2 t;have G: ∀q∈rs.drop (j+1),D q.d.j=true-> ¬jm7 q e:=fun q b f m=>by
    obtain ⟨i,l,a⟩:=yg9 b;have K:e∈r.d.tch/\e<r.d.nb\/r.d.nb<=e/\e<r.d.ne:=by
     rcases J with ⟨A,E,_⟩|⟨A,E⟩
     ·exact .inl ⟨E,A⟩
     ·exact .inr ⟨A,by rw [<-((h j r g).take I z).ne];exact E⟩
    have:=h.later o g u K a l m;rw [h.idx a,this] at f;cases f
   rw [zr1 G,zr1 G,w]
  ·have up: ∀x,upG r e x=zx6 c v x:=fun x=>by unfold upG;rw [F];simp only [if_true]
   rw [up];refine vt7 (by rw [up,w]) fun q b f m=>?_;obtain ⟨i,l,a⟩:=yg9 b;rw [h.idx a] at f;exact h.laterL o g u F a l f m
 ·rw [yx7 t];exact yb0 (by rw [yx7 t];exact w) fun q b _=>rfl
def qa0 {U:Nat->Type}:Ent U->Bool| .row _ _ _=>true|_=>false
def vk7 {c:Nat} {v:AV T.U} {x:Ent T.U}:qa0 (zx6 c v x)=qa0 x:=by
 cases x with
 |drow e d fe xs op=>cases op with
  |none=>rfl
  |some p=>obtain ⟨a,cs⟩:=p;rfl
 |_=>rfl
def TrOk.rowFrom (h:TrOk P C ops n B F0 H0 rs) {y} (c:y<B): ∀(m D),qa0 (hF D (rs.take m) (base H0) y)=true->qa0 (base H0 y)=true
 |0,D,a=>a
 |m+1,D,a=>by
  by_cases k:m<rs.length
  ·rw [List.take_succ_eq_append_getElem k,yc9] at a;have l:rs[m]?=some rs[m]:=Y0 k;generalize rs[m]=r at l a;have a:qa0 ((match D r.d.j with|true=>fun e=>upG r e (hF D (rs.take m) (base H0) e)|false=>hF D (rs.take m) (base H0)) y)=true:=a;cases hD:D r.d.j with
   |false=>rw [hD] at a;exact h.rowFrom c m D a
   |true=>
    rw [hD] at a;have a:qa0 (upG r y (hF D (rs.take m) (base H0) y))=true:=a;unfold upG at a;split at a
    ·split at a
     ·rw [vk7] at a;exact h.rowFrom c m D a
     ·exact h.rowFrom c m D a
    ·cases hu:upR r y with
     |none=>rw [hu] at a;exact h.rowFrom c m D a
     |some x=>
      rw [hu] at a;have f:=h m r l;obtain ⟨⟨o,g⟩,s⟩:=zl2 (by rw [hu];simp:upR r y≠none);have b:=f.take o g;have u:=f.le.1;rcases s with ⟨i,p,v⟩|⟨i,_⟩
      ·have w:r.H1[y]?=some x:=by
        unfold upR at hu;rw [o,g] at hu;simp only at hu;rwa [if_pos i,if_pos ⟨p,v⟩] at hu
       have a:qa0 x=true:=a;cases x with
       |row e t xs=>
        obtain ⟨ys,q⟩:=b.keeps.row y e t xs (by rw [b.hlen];exact i) w;rw [b.hm y i,if_pos p] at q;refine h.rowFrom c m zj2 ?_;rw [X5 q];rfl
       |_=>cases a
      ·omega
  ·rw [Q5 (by omega)] at a;refine h.rowFrom c m D ?_;rw [Q5 (by omega)];exact a
def TrOk.free (h:TrOk P C ops n B F0 H0 rs) (E:H0.length=B) {D:Nat->Bool} (l: ∀i k,D i=true->Tp ops i k->D k=true) {j:Nat} {r:Rec T} (m:rs[j]?=some r) (p:D j=false) {e:Nat} (s:r.d.nb<=e) (t:e<r.d.ne):hF D rs (base H0) e=.gone:=by
 have u:=(h j r m).le;rw [zr1 fun q w b g=>?_]
 ·unfold base;rw [Y5 (by omega)];rfl
 ·obtain ⟨i,a⟩:=Y9.1 w;rw [h.idx a] at b;rcases M7 i j with f|rfl|f
  ·have F:=h.ord f a m;have:=(h i q a).le.2;rcases g with g|⟨c,v,x⟩
   ·obtain ⟨⟨y,o⟩,z⟩:=zl2 g;rcases z with ⟨G,_⟩|⟨_,A⟩
    ·omega
    ·rw [((h i q a).take y o).ne] at A;omega
   ·have:=((h i q a).lok _ _ _ x).lt;omega
  ·rw [p] at b;cases b
  ·have:=h.later l m p (.inr ⟨s,t⟩) a f g;rw [this] at b;cases b
def TrOk.okId (h:TrOk P C ops n B F0 H0 rs) {D:Nat->Bool} (m: ∀i k,D i=true->Tp ops i k->D k=true) {j:Nat} {r:Rec T} (o:rs[j]?=some r) (u:D j=false) {i:Nat} {q:Rec T} (c:rs[i]?=some q) (a:D i=true) {x:Nat} (s:wd4 B (rs.take i) ops q x):x<r.d.nb\/r.d.ne<=x:=by
 have v:=(h j r o).le;have e: ∀(i:Nat) (q:Rec T),rs[i]?=some q->D i=true->q.d.nb<=x->x<q.d.ne->x<r.d.nb\/r.d.ne<=x:=by
  intro i q c a g l;rcases M7 i j with b|rfl|b
  ·have:=h.ord b c o;exact .inl (by omega)
  ·rw [u] at a;cases a
  ·have:=h.ord b o c;exact .inr (by omega)
 rcases s with s|⟨g,l⟩|⟨w,p,g,l,t⟩
 ·exact .inl (by omega)
 ·exact e i q c a g l
 ·obtain ⟨k,y,f⟩:=zl0 p;rw [h.idx c,h.idx f] at t;exact e k w f (m i k a t) g l
def TrOk.fid (E:OkD ops n) (h:TrOk P C ops n B F0 H0 rs) (g: ∀t a,F0.get T t=some a-> ∀i∈a.ids,i<B) {D:Nat->Bool} (l: ∀i k,D i=true->Tp ops i k->D k=true) {j:Nat} {r:Rec T} (s:rs[j]?=some r) (z:D j=false) {t:Nat} {a:AV T.U} (e:fF D rs (F0.get T) t=some a): ∀x∈a.ids,x<r.d.nb\/r.d.ne<=x:=by
 intro x f;by_cases A: ∃q∈rs,q.o.dst=some t
 ·obtain ⟨q,m,u⟩:=A;rw [yl3 m u fun F v w=>h.uniq E v m w u] at e;obtain ⟨i,b⟩:=Y9.1 m;rw [h.idx b] at e;cases hDi:D i with
  |false=>
   rw [hDi] at e;have:=g t a e x f;have y:=(h j r s).le;exact .inl (by omega)
  |true=>
   rw [hDi] at e;simp only [X0] at e;subst e;cases hs:q.skip with
   |true=>rw [((h i q b).skip hs).1] at f;cases f
   |false=>
    cases hl:q.loc with
    |none=>exact h.okId l s z b hDi (((h i q b).take hs hl).ids x f)
    |some p=>obtain ⟨k,c,G⟩:=p;exact h.okId l s z b hDi (((h i q b).lok _ _ _ hl).ids x f)
 ·rw [zk4 fun q m u=>A ⟨q,m,u⟩] at e;have:=g t a e x f;have y:=(h j r s).le;exact .inl (by omega)
def gi3 {D:Nat->Bool} {e x:Nat}: ∀ {rs:List (Rec T)} {f:Nat->Ent T.U},x∈(hF D rs f e).cellIds->x∈(f e).cellIds\/ ∃r∈rs,D r.d.j=true/\((∃y,upR r e=some y/\x∈y.cellIds)\/ ∃c v,r.loc=some (e,c,some v)/\x∈v.ids)
 | [],f,h=>.inl h
 |r::rs,f,h=>by
  rcases gi3 (rs:=rs) (f:=match D r.d.j with|true=>fun e=>upG r e (f e)|false=>f) h with a|⟨q,a,b,g⟩
  ·cases hD:D r.d.j with
   |false=>rw [hD] at a;exact .inl a
   |true=>
    rw [hD] at a;have a:x∈(upG r e (f e)).cellIds:=a;unfold upG at a;split at a
    ·rename_i k c v i;split at a
     ·rename_i l;subst l;rcases ge8 a with a|a
      ·exact .inl a
      ·exact .inr ⟨r,U8 ..,hD,.inr ⟨c,v,i,a⟩⟩
     ·exact .inl a
    ·cases hu:upR r e with
     |none=>rw [hu] at a;exact .inl a
     |some y=>rw [hu] at a;exact .inr ⟨r,U8 ..,hD,.inl ⟨y,hu,a⟩⟩
  ·exact .inr ⟨q,Z4 _ a,b,g⟩
def wo6 {r:Rec T} {e x} (h:upR r e=some x):(r.skip=false/\r.loc=none)/\x∈r.H1:=by
 obtain ⟨a,_⟩:=zl2 (by rw [h];simp:upR r e≠none);refine ⟨a,?_⟩;unfold upR at h;rw [a.1,a.2] at h;simp only at h;split at h
 ·split at h
  ·exact X6 h
  ·cases h
 ·exact X6 h
def TrOk.hid (h:TrOk P C ops n B F0 H0 rs) (m: ∀f∈H0,∀i∈f.cellIds,i<B) {D} (l: ∀i k,D i=true->Tp ops i k->D k=true) {j r} (o:rs[j]?=some r) (s:D j=false) {e}: ∀x∈(hF D rs (base H0) e).cellIds,x<r.d.nb\/r.d.ne<=x:=by
 intro x a;rcases gi3 a with a|⟨q,u,g,p⟩
 ·unfold base at a;have w:=(h j r o).le;cases hg:H0[e]? with
  |none=>rw [hg] at a;cases a
  |some f=>
   rw [hg] at a;have:=m f (X6 hg) x a;exact .inl (by omega)
 ·obtain ⟨i,b⟩:=Y9.1 u;rw [h.idx b] at g;rcases p with ⟨y,p,a⟩|⟨c,v,z,a⟩
  ·obtain ⟨t,A⟩:=wo6 p;exact h.okId l o s b g (((h i q b).take t.1 t.2).cids _ A x a)
  ·exact h.okId l o s b g (((h i q b).lok _ _ _ z).vids v rfl x a)
end
end Go.X
namespace Go.X
open Go.RowKit Go.V
section
variable {T:Tab} {P:Program} {C:Ctx T} {ops:Array Oper} {n B:Nat} {F0:AF T} {H0:List (Ent T.U)} {rs:List (Rec T)}
variable {w w':World} {S:List Nat} {φ:Nat->RA} {w0:World} {S0:Ow} {Q:Exit->Act->World->Prop} {ds:List Deferred}
def StD (rs:List (Rec T)) (F0:AF T) (H0:List (Ent T.U)) (n N:Nat) (D:Nat->Bool):St T:=⟨mkF (fF D rs (F0.get T)) n,mkH N (hF D rs (base H0))⟩
def TrOk.slotD (u:OkD ops n) (h:TrOk P C ops n B F0 H0 rs) {D j r} (A:rs[j]?=some r) (M:rs.length=ops.size) (v: ∀k,Tp ops j k->D k=true) (E: ∀i k,D i=true->Tp ops i k->D k=true) (O:D j=false) {t} (R:t∈zy5 r.o++yn1 ops r.o):fF D rs (F0.get T) t=fF zj2 (rs.take j) (F0.get T) t:=by
 have m:=(h j r A).op;rw [h.idx A] at m;rcases u.reads m R with ⟨k,x,F⟩|G
 ·have y:=Tp.lt u.back (.one x) (Y3.1 m).1;have H:k<rs.length:=by have:=(X2.1 A).1;omega
  have z:=Y0 H;have g:=(h k _ z).op;rw [h.idx z] at g;have a:rs[k].o.dst=some t:=by rw [<-zk7 g];exact F
  have I:=X6 z;rw [yl3 I a fun q b c=>h.uniq u b I c a,yl3 (zv5 y z) a fun q b c=>h.uniq u (K8 b) I c a,h.idx z,v k (.one x)];rfl
 ·have l: ∀q∈rs,q.o.dst=some t-> ∃i,rs[i]?=some q/\i<ops.size/\Tp ops i j:=fun q b a=>by
   obtain ⟨i,p⟩:=Y9.1 b;have d:=(h i q p).op;rw [h.idx p] at d;have f:=(Y3.1 d).1;exact ⟨i,p,f,G i f (by rw [zk7 d];exact a)⟩
  have s:fF zj2 (rs.take j) (F0.get T) t=F0.get T t:=zk4 fun q b a=>by
   obtain ⟨k,y,J⟩:=zl0 b;obtain ⟨i,p,f,K⟩:=l q (K8 b) a;have e:i=k:=by rw [<-h.idx p,<-h.idx J]
   subst e;have:=Tp.lt u.back K f;omega
  rw [s];by_cases N: ∃q∈rs,q.o.dst=some t
  ·obtain ⟨q,b,a⟩:=N;obtain ⟨i,p,_,K⟩:=l q b a;rw [yl3 b a fun U L c=>h.uniq u L b c a,h.idx p];cases hDi:D i with
   |false=>rfl
   |true=>have:=E i j hDi K;rw [O] at this;cases this
  ·exact zk4 fun q b a=>N ⟨q,b,a⟩
def TrOk.slotPut (l:OkD ops n) (h:TrOk P C ops n B F0 H0 rs) {D j r} (k:rs[j]?=some r) (t):fF (zi8 D j) rs (F0.get T) t=if r.o.dst=some t then some r.a else fF D rs (F0.get T) t:=by
 by_cases m: ∃q∈rs,q.o.dst=some t
 ·obtain ⟨q,d,e⟩:=m;rw [yl3 d e fun p f b=>h.uniq l f d b e,yl3 d e fun p f b=>h.uniq l f d b e];obtain ⟨i,c⟩:=Y9.1 d;by_cases g:i=j
  ·subst g;rw [k] at c;have:=X5 c;subst this;rw [if_pos e];unfold zi8;rw [h.idx k,if_pos rfl]
  ·have:r.o.dst≠some t:=fun b=>g (by
    have:=h.uniq l d (X6 k) e b;subst this;rw [<-h.idx c,<-h.idx k])
   rw [if_neg this];unfold zi8;rw [h.idx c,if_neg g]
 ·have none: ∀q∈rs,q.o.dst≠some t:=fun q d e=>m ⟨q,d,e⟩;rw [zk4 none,zk4 none,if_neg (none r (X6 k))]
def jn5 {a:Act} {dst v n} (c:a.tmps.size=n) (e:zi4 n dst=true):(a.put dst v).tmps.size=n/\(a.put dst v).defers=a.defers/\ ∀t,t<n->(a.put dst v).tmps.getD t undef=if dst=some t then v else a.tmps.getD t undef:=by
 cases dst with
 |none=>exact ⟨c,rfl,fun t _=>by rw [if_neg (by simp)];rfl⟩
 |some d=>
  have f:d<n:=by simpa [zi4,V2] using e
  refine ⟨by simpa [Act.put] using c,rfl,fun t g=>?_⟩;simp only [Act.put];rw [Y7,Array.getElem?_setIfInBounds,Y7];by_cases b:d=t
  ·subst b;rw [if_pos rfl,if_pos (by omega),if_pos rfl];rfl
  ·rw [if_neg b,if_neg (by simpa using b)]
def vd5 (m:OkD ops n) (h:TrOk P C ops n B F0 H0 rs) {D:Nat->Bool} {j N:Nat} {r:Rec T} (i:rs[j]?=some r) {H2:List (Ent T.U)} {a:Act} {v:Value} (k:a.tmps.size=n) (d:Sim T w0 S0 ⟨mkF (fF D rs (F0.get T)) n,H2⟩ (zw4 a n) w S φ)
  (p:r.o.dst≠none->VR T w S φ r.a v/\okA H2 r.a):Sim T w0 S0 ⟨mkF (fF (zi8 D j) rs (F0.get T)) n,H2⟩ (zw4 (a.put r.o.dst v) n) w S φ:=by
 obtain ⟨_,_,e⟩:=jn5 (v:=v) k (h j r i).dst;refine ⟨fun t b c=>?_,fun t b c=>?_,d.chg,d.own,d.ex,d.lives,d.pins,d.ents,d.eids,d.apart⟩
 ·obtain ⟨f,c⟩:=zg0.1 c;rw [h.slotPut m i] at c;split at c
  ·rename_i g;simp only [X0] at c;subst c;exact ⟨v,zm4.2 ⟨f,by rw [e t f,if_pos g]⟩,(p (by rw [g];simp)).1⟩
  ·rename_i g;obtain ⟨u,q,l⟩:=d.fr t b (zg0.2 ⟨f,c⟩);exact ⟨u,zm4.2 ⟨f,by rw [e t f,if_neg g];exact (zm4.1 q).2⟩,l⟩
 ·obtain ⟨f,c⟩:=zg0.1 c;rw [h.slotPut m i] at c;split at c
  ·rename_i g;simp only [X0] at c;subst c;exact (p (by rw [g];simp)).2
  ·exact d.ids t b (zg0.2 ⟨f,c⟩)
def zas1 (hk:OkD ops n) (hE:zb4 T P C.E) (h:TrOk P C ops n B F0 H0 rs) (hlen:rs.length=ops.size) (hB:H0.length=B) (hF0: ∀t a,F0.get T t=some a->t<n/\ ∀i∈a.ids,i<B) (hH0: ∀f∈H0,∀i∈f.cellIds,i<B) (hpin:S0.pin.length<=B)
  {N} (hN: ∀q∈rs,q.d.ne<=N) {D} (I: ∀i k,D i=true->Tp ops i k->D k=true) {j r} (X:rs[j]?=some r) (hD:D j=false) (hpre: ∀k,Tp ops j k->D k=true) (s:r.skip=false) (p:r.loc=none)
  {a} (hsz:a.tmps.size=n) (hdf:a.defers=ds) (hs:Sim T w0 S0 (StD rs F0 H0 n N D) (zw4 a n) w S φ):
  r.o.wp P a w (fun a' w'=>a'.tmps.size=n/\a'.defers=ds/\ ∃S1 φ1,Sim T w0 S0 (StD rs F0 H0 n N (zi8 D j)) (zw4 a' n) w' S1 φ1) Q:=by
 have A:=h j r X;have g:=A.take s p;have hnN:=hN r (X6 X);have G: ∀e∈r.d.tch,hF D rs (base H0) e=hF zj2 (rs.take j) (base H0) e:=fun e J=>h.touch I X s p hD hpre J;have K: ∀(e:Nat) (f:Ent T.U),r.Hm[e]?=some f->f=.gone\/(e∈r.d.tch/\(mkH N (hF D rs (base H0)))[e]?=some f):=by
  intro e f m;have l:=(X2.1 m).1;rw [g.hlen] at l;rw [g.hm e l] at m;simp only [X0] at m;split at m
  ·rename_i J;exact .inr ⟨J,zg1.2 ⟨by have:=A.le.2;omega,by rw [G e J];exact m⟩⟩
  ·exact .inl m.symm
 have hsub:Sim T w ⟨r.d.tch.flatMap fun e=>(φ e).all,S,(List.range r.d.nb).map φ⟩ ⟨r.F,r.Hm⟩ (zw4 a n) w S φ:=by
  have hfr: ∀t x,r.F.get T t=some x->(mkF (fF D rs (F0.get T)) n).get T t=some x:=by
   intro t x z;obtain ⟨h1,H⟩:=g.fr t x z;have Y:=h.slotD hk X hlen hpre I hD (t:=t) (X4.2 (.inl h1));refine zg0.2 ⟨?_,by rw [Y];exact H⟩;by_cases O: ∃q∈rs.take j,q.o.dst=some t
   ·obtain ⟨q,hq,Z⟩:=O;obtain ⟨i,_,hqi⟩:=zl0 hq;have hopi:=(h i q hqi).op;exact hk.dst q.d.j t (Y3.1 hopi).1 (by rw [zk7 hopi];exact Z)
   ·rw [zk4 fun q hq Z=>O ⟨q,hq,Z⟩] at H;exact (hF0 t x H).1
  refine ⟨fun t x z=>hs.fr t x (hfr t x z),fun t x z=>⟨fun i hi=>by simp only [g.hlen];exact g.fid t x z i hi,?_⟩,Chg.refl _ _,fun b hb=>⟨.inl hb,(hs.own b hb).2⟩,fun b hb _ _=>hb,fun e f m hl x z=>?_,fun k q hq=>?_,fun e f m=>?_,fun e f m i hi=>by simp only [g.hlen];exact g.eids f (X6 m) i hi,fun i k f f' m hf' hl hl' hik x y z hy=>?_⟩
  ·obtain ⟨_,H⟩:=hs.ids t x (hfr t x z);cases x with
   |eptr y sz k c=>
    intro e1 t1 xs hxs;rcases K y _ hxs with Y|⟨_,Y⟩
    ·cases Y
    ·exact H e1 t1 xs Y
   |_=>trivial
  ·rcases K e f m with rfl|⟨h1,H⟩
   ·cases hl
   ·exact ⟨(hs.lives e f H hl x z).1,.inl (K4.2 ⟨e,h1,zu0.2 ⟨x,z,rfl⟩⟩)⟩
  ·have l:=(X2.1 hq).1;simp at l;simp [l] at hq;exact ⟨.of hq,by simp only [g.hlen];exact l⟩
  ·rcases K e f m with rfl|⟨_,H⟩
   ·trivial
   ·exact hs.ents e f H
  ·rcases K i f m with rfl|⟨_,H⟩
   ·cases hl
   ·rcases K k f' hf' with rfl|⟨_,h2'⟩
    ·cases hl'
    ·exact hs.apart i k f f' H h2' hl hl' hik x y z hy
 obtain ⟨Fz,hstep⟩:=g.step;have hop:=qd6 (Q:=Q) (ds:=ds) hE hstep A.dst g.ns g.pre hsub (yn0 hsz hdf);refine Oper.wp_mono (fun a' w' hX=>?_) hop;obtain ⟨F1,⟨S1,φ1,hst⟩,hfr1,v,rfl⟩:=hX;obtain ⟨hsz',hdf',hget⟩:=jn5 (v:=v) hsz A.dst;refine ⟨hsz',by rw [hdf',hdf],?_⟩;have hup: ∀e,hF (zi8 D j) rs (base H0) e=(upR r e).getD (hF D rs (base H0) e):=fun e=>(h.put I X hD e).trans (vd9 p ..);have hnb:=A.le.2;obtain ⟨φ2,g1,g2⟩:=hs.frame2 (tch:=r.d.tch) (nb:=r.d.nb) hst (by rw [g.ne];exact hnb) (by rw [zp9,g.ne];exact hnN) (by have:=A.le.1;omega)
  (fun e J=>⟨(g.live e J).1,_,zg1.2 ⟨by have:=(g.live e J).1;omega,rfl⟩,by rw [G e J];exact (g.live e J).2⟩)
  (fun e h1 H=>zg1.2 ⟨by rw [g.ne] at H;omega,h.free hB I X hD h1 (by rw [<-g.ne];exact H)⟩) (H2:=mkH N (hF (zi8 D j) rs (base H0))) (by rw [zp9,zp9])
  (fun e f m=>by
   obtain ⟨J,m⟩:=zg1.1 m;rw [hup] at m;by_cases L:e∈r.d.tch
   ·refine .inl ⟨L,?_⟩;have l:=(g.live e L).1;have R:r.H1[e]?=some (r.H1[e]'(by rw [g.ne];omega)):=Y0 _;by_cases O:e∈r.d.wr
    ·have:upR r e=r.H1[e]?:=by unfold upR;rw [s,p];simp only;rw [if_pos l,if_pos ⟨L,O⟩]
     rw [this,R,V3] at m;rw [R,m]
    ·have:upR r e=none:=by unfold upR;rw [s,p];simp only;rw [if_pos l,if_neg (fun q=>O q.2)]
     rw [this,Option.getD_none] at m;rw [g.keeps.same e (by rw [g.hlen];exact l) O,g.hm e l,if_pos L,<-G e L,m]
   ·by_cases hin:r.d.nb<=e/\e<r.d.ne
    ·refine .inr (.inl ⟨hin.1,?_⟩);have R:r.H1[e]?=some (r.H1[e]'(by rw [g.ne];exact hin.2)):=Y0 _;have:upR r e=r.H1[e]?:=by unfold upR;rw [s,p];simp only;rw [if_neg (by omega)]
     rw [this,R,V3] at m;rw [R,m]
    ·have:upR r e=none:=by
      unfold upR;rw [s,p];simp only;by_cases l:e<r.d.nb
      ·rw [if_pos l,if_neg (fun q=>L q.1)]
      ·rw [if_neg l,Y5 (by rw [g.ne];omega)]
     rw [this,Option.getD_none] at m;exact .inr (.inr ⟨L,by rw [g.ne];omega,zg1.2 ⟨J,m⟩⟩))
  (fun e ty t ys J hy=>by
   have l:=(g.live e J).1;obtain ⟨xs,z⟩:=g.keeps.row e ty t ys (by rw [g.hlen];exact l) hy;rcases K e _ z with Y|⟨_,Y⟩
   ·cases Y
   ·exact ⟨xs,Y⟩)
  (fun t x z=>by
   rw [g.ne];exact h.fid hk (fun t a ha=>(hF0 t a ha).2) I X hD (zg0.1 z).2)
  (fun e f m _=>by
   rw [g.ne];obtain ⟨_,rfl⟩:=zg1.1 m;exact h.hid hH0 I X hD)
 refine ⟨S1,φ2,vd5 hk h (N:=N) X hsz g1 fun hdn=>?_⟩;obtain ⟨d,Z⟩: ∃d,r.o.dst=some d:=by
  cases Z:r.o.dst with
  |none=>exact absurd Z hdn
  |some d=>exact ⟨d,rfl⟩
 have M:(zb2 T Fz r.o.dst r.a).get T d=some r.a:=by rw [Z];simp only [zb2,AF.get,K3]
 obtain ⟨u,hu1,hu2⟩:=hst.fr d r.a M;obtain ⟨ho1,ho2⟩:=hst.ids d r.a M;have hdn':d<n:=by have:=A.dst;rw [Z] at this;simpa [zi4,V2] using this
 have huv:u=v:=by
  have:=(hfr1.val d u hu1).1;rw [hget d hdn',if_pos Z] at this;exact this.symm
 subst huv;refine ⟨g2 r.a u hu2 ho1,fun i hi=>?_,?_⟩
 ·have h1:=ho1 i hi;simp only [g.ne] at h1;rw [zp9];omega
 ·cases hra:r.a with
  |eptr y sz k c=>
   rw [hra] at ho1 ho2;intro e1 t1 xs hxs;have hy:y<r.H1.length:=ho1 y (by simp [AV.ids]);obtain ⟨_,m⟩:=zg1.1 hxs;rw [hup] at m;have R:r.H1[y]?=some (r.H1[y]'hy):=Y0 _;by_cases l:y<r.d.nb
   ·by_cases L:y∈r.d.tch
    ·refine ho2 e1 t1 xs ?_;by_cases O:y∈r.d.wr
     ·have:upR r y=r.H1[y]?:=by unfold upR;rw [s,p];simp only;rw [if_pos l,if_pos ⟨L,O⟩]
      rw [this,R,V3] at m;rw [<-m];exact R
     ·have:upR r y=none:=by unfold upR;rw [s,p];simp only;rw [if_pos l,if_neg (fun q=>O q.2)]
      rw [this,Option.getD_none] at m;show r.H1[y]?=_;rw [g.keeps.same y (by rw [g.hlen];exact l) O,g.hm y l,if_pos L,<-G y L,m]
    ·have:=g.ep;rw [hra] at this;simp only [wp8,V5] at this;rcases this with V|V|V
     ·exact absurd (zb9.1 V) L
     ·have:=Y1 V;omega
     ·exfalso;have hyB:y<B:=by
       unfold wq7 at V;split at V
       ·rename_i z;have:=(X2.1 z).1;omega
       ·cases V
      have h6:=h.rowFrom hyB rs.length (zi8 D j) (by rw [T2,hup,m];rfl);unfold wq7 at V;unfold base at h6;split at V
      ·rename_i z;rw [z] at h6;cases h6
      ·cases V
   ·have:upR r y=r.H1[y]?:=by unfold upR;rw [s,p];simp only;rw [if_neg l]
    rw [this,R,V3] at m;refine ho2 e1 t1 xs ?_;rw [<-m];exact R
  |_=>trivial
def vi6 {F b} (hF: ∀t a,F.get T t=some a->b.get T t=some a) {o} (h:zt5 F o=true):zt5 b o=true:=by
 unfold zt5 at h⊢;rw [Y8] at h⊢;intro x c;obtain ⟨a,d⟩:=R5.1 (h x c);rw [ya4 hF d];rfl
def zas2 (hk:OkD ops n) (hE:zb4 T P C.E) (h:TrOk P C ops n B F0 H0 rs) (J:rs.length=ops.size) {N} (hN: ∀q∈rs,q.d.ne<=N) (hF0: ∀t a,F0.get T t=some a->t<n/\ ∀i∈a.ids,i<B)
  {D} (z: ∀i k,D i=true->Tp ops i k->D k=true) {j r} (H:rs[j]?=some r) {k c Z} (K:r.loc=some (k,c,Z)) (hD:D j=false) (p: ∀k,Tp ops j k->D k=true)
  {a} (L:a.tmps.size=n) (M:a.defers=ds) (hs:Sim T w0 S0 (StD rs F0 H0 n N D) (zw4 a n) w S φ):
  r.o.wp P a w (fun a' w'=>a'.tmps.size=n/\a'.defers=ds/\ ∃S1 A,Sim T w0 S0 (StD rs F0 H0 n N (zi8 D j)) (zw4 a' n) w' S1 A) Q:=by
 have m:=h j r H;have l:=m.lok _ _ _ K;have hkN:k<N:=by have:=hN r (X6 H);have:=l.lt;have:=m.le.2;omega
 have O: ∀t x,r.F.get T t=some x->(mkF (fF D rs (F0.get T)) n).get T t=some x:=by
  intro t x hx;obtain ⟨h1,R⟩:=l.fr t x hx;have h3:=h.slotD hk H J p z hD (t:=t) (X4.2 (.inl h1));refine zg0.2 ⟨?_,by rw [h3];exact R⟩;by_cases hw: ∃q∈rs.take j,q.o.dst=some t
  ·obtain ⟨q,hq,I⟩:=hw;obtain ⟨i,_,hqi⟩:=zl0 hq;have s:=(h i q hqi).op;exact hk.dst q.d.j t (Y3.1 s).1 (by rw [zk7 s];exact I)
  ·rw [zk4 fun q hq I=>hw ⟨q,hq,I⟩] at R;exact (hF0 t x R).1
 have hst:=l.step _ (mkH N (hF D rs (base H0))) _ O (zg1.2 ⟨hkN,rfl⟩) (h.touchL z H K hD p);have hop:=qd6 (Q:=Q) (ds:=ds) hE hst m.dst l.ns (vi6 O l.pre) hs (yn0 L M);refine Oper.wp_mono (fun a' w' hX=>?_) hop;obtain ⟨F1,⟨S1,A,f⟩,U,v,rfl⟩:=hX;obtain ⟨V,X,_⟩:=jn5 (v:=v) L m.dst;refine ⟨V,by rw [X,M],S1,A,?_⟩;have hH:qz5 k c Z (hF D rs (base H0) k) (mkH N (hF D rs (base H0)))=mkH N (hF (zi8 D j) rs (base H0)):=by
  apply R4;intro e;by_cases he:e<N
  ·rw [zg1.2 ⟨he,rfl⟩,h.put z H hD];cases Z with
   |none=>
    show (mkH N (hF D rs (base H0)))[e]?=_;rw [zg1.2 ⟨he,rfl⟩];have hup:upR r e=none:=by unfold upR;rw [l.skip,K]
    unfold upG;rw [K];simp only [hup,Option.getD_none]
   |some u=>
    show ((mkH N (hF D rs (base H0))).set k _)[e]?=_;unfold upG;rw [K];simp only;by_cases G:e=k
    ·subst G;rw [Q0 (by rw [zp9];exact he),if_pos rfl]
    ·rw [Z5 (Ne.symm G),if_neg G,zg1.2 ⟨he,rfl⟩]
  ·rw [Y5 (by cases Z<;>simp [qz5,zp9]<;>omega),Y5 (by rw [zp9];omega)]
 rw [hH] at f;have y: ∀t b,(mkF (fF (zi8 D j) rs (F0.get T)) n).get T t=some b->t<n/\(zb2 T (mkF (fF D rs (F0.get T)) n) r.o.dst r.a).get T t=some b:=by
  intro t b g;obtain ⟨Y,g⟩:=zg0.1 g;refine ⟨Y,?_⟩;rw [h.slotPut hk H] at g;cases I:r.o.dst with
  |none=>rw [I,if_neg (by simp)] at g;exact zg0.2 ⟨Y,g⟩
  |some d=>
   rw [I] at g;simp only [zb2,AF.get];cases hdt:Nat.beq d t with
   |true=>have:=X1 hdt;subst this;rw [if_pos rfl] at g;exact g
   |false=>
    rw [if_neg (fun e=>by cases e;simp at hdt)] at g;exact zg0.2 ⟨Y,g⟩
 refine ⟨fun t b g=>?_,fun t b g=>f.ids t b (y t b g).2,f.chg,f.own,f.ex,f.lives,f.pins,f.ents,f.eids,f.apart⟩;obtain ⟨Y,g⟩:=y t b g;obtain ⟨u,h1,R⟩:=f.fr t b g;exact ⟨u,zm4.2 ⟨Y,(U.val t u h1).1⟩,R⟩
def Sim.sub2 {I:AF T} {J K} (o:Sim T w0 S0 ⟨I,J⟩ K w S φ) {Fr:AF T} {Hm:List (Ent T.U)} {tch:List Nat} {nb} (p: ∀t x,Fr.get T t=some x->I.get T t=some x) (a: ∀(e:Nat) (f:Ent T.U),Hm[e]?=some f->f=.gone\/(e∈tch/\J[e]?=some f))
  (d:Hm.length=nb) (r: ∀t x,Fr.get T t=some x-> ∀i∈x.ids,i<nb) (h: ∀f∈Hm,∀i∈f.cellIds,i<nb):Sim T w ⟨tch.flatMap fun e=>(φ e).all,S,(List.range nb).map φ⟩ ⟨Fr,Hm⟩ K w S φ:=by
 refine ⟨fun t x g=>o.fr t x (p t x g),fun t x g=>⟨fun i z=>by simp only [d];exact r t x g i z,?_⟩,Chg.refl _ _,fun b v=>⟨.inl v,(o.own b v).2⟩,fun b v _ _=>v,fun e f j s x g=>?_,fun k q A=>?_,fun e f j=>?_,fun e f j i z=>by simp only [d];exact h f (X6 j) i z,fun i k f L j D s u E x y g M=>?_⟩
 ·obtain ⟨_,l⟩:=o.ids t x (p t x g);cases x with
  |eptr y sz k c=>
   intro N O xs F;rcases a y _ F with G|⟨_,G⟩
   ·cases G
   ·exact l N O xs G
  |_=>trivial
 ·rcases a e f j with rfl|⟨R,l⟩
  ·cases s
  ·exact ⟨(o.lives e f l s x g).1,.inl (K4.2 ⟨e,R,zu0.2 ⟨x,g,rfl⟩⟩)⟩
 ·have m:=(X2.1 A).1;simp at m;simp [m] at A;exact ⟨.of A,by simp only [d];exact m⟩
 ·rcases a e f j with rfl|⟨_,l⟩
  ·trivial
  ·exact o.ents e f l
 ·rcases a i f j with rfl|⟨_,l⟩
  ·cases s
  ·rcases a k L D with rfl|⟨_,H⟩
   ·cases u
   ·exact o.apart i k f L l H s u E x y g M
def Oper.wp_pan {o:Oper} {a:Act} {w:World} {K K':Act->World->Prop} {Q Q':Exit->Act->World->Prop} (hK: ∀a w,K a w->False) (hQ: ∀ch w',Q (.panic ch) a w'->Q' (.panic ch) a w') (hO: ∀a w,Q .outgrown a w->False)
  (h:o.wp P a w K Q):o.wp P a w K' Q':=by
 unfold Oper.wp at h⊢;generalize (execOp a.eval o).run P w=r at h⊢;unfold Oper.upon at h⊢;split at h
 ·exact (hK _ _ h).elim
 ·exact (hK _ _ h).elim
 ·exact (hK _ _ h).elim
 ·refine h.mono fun e w' hq=>?_;cases e with
  |returned v=>exact (hK _ _ hq).elim
  |panicked ch=>exact hQ _ _ hq
  |outgrown=>obtain ⟨a1,w1,h1⟩:=hq;exact (hO _ _ h1).elim
 ·exact h.mono fun v w' hq=>(hK _ _ hq).elim
 ·exact hQ _ _ h
 ·exact h.elim
def ke4 {o F H p} (N:zb4 T P C.E) {q r} (O:zh7 P C o ⟨F,H⟩ (fun _=>none) (fun a st=>some (a,st.H))=some (q,r)) (s:zi4 n o.dst=true) (y:zc6 o=true) (t:zt5 F o=true) (h:Sim T w0 S0 ⟨F,H⟩ p w S φ) {a} (L:Fr n ds p a)
  {K} (R: ∀v w' S1 b c i,Sim T w0 S0 ⟨i,r⟩ c w' S1 b->VR T w' S1 b q v->Q (.panic [{v:=v,recovered:=false}]) a w'):o.wp P a w K Q:=by
 let o':Oper:= {o with guard:=none}
 have M:dec #[o'] 0 n p=some o':=by
  unfold dec;have f:zx3 #[o'] p o'=some true:=rfl;have U:ye8 p o'=true:=yq4 (o:=o') h.fr t;have m:zi4 n o'.dst=true:=s;have V:zc6 o'=true:=y;simp only [List.getElem?_toArray,Y4,f,U,m,V,M6]
 have z:zh7 P C o' ⟨F,H⟩ (fun _=>none) (fun a st=>some (a,st.H))=some (q,r):=by
  cases o;exact O
 have A:=jh5 (Q:=fun e _ w'=> ∃v S1 b c i,e=.panic [{v:=v,recovered:=false}]/\Sim T w0 S0 ⟨i,r⟩ c w' S1 b/\VR T w' S1 b q v) (ds:=ds) N M z h (fun st d=>by cases d) (fun u st d=>by
  simp only [X0,X7] at d;obtain ⟨rfl,rfl⟩:=d;intro c x S1 b v D G _ X _;exact ⟨v,S1,b,c,st.F,rfl,D,G⟩)
 have f:=A a L;unfold wpList at f;have j:Region.wanted o' (yielded #[o'] a.tmps)=true:=(zi2 M).2.2.2.2 L;have k:(#[o']:Array Oper).toList.drop 0= [o']:=rfl;rw [k] at f;simp only [j,if_true] at f;have I: ∀ {u:Act} {x:World},wpList P #[o'] (fun e _ w'=> ∃v S1 b c i,e=.panic [{v:=v,recovered:=false}]/\Sim T w0 S0 ⟨i,r⟩ c w' S1 b/\VR T w' S1 b q v) [] u x->False:=by
  intro u x m;unfold wpList at m;obtain ⟨v,_,_,_,_,l,_⟩:=m;cases l
 rcases f with f|⟨_,u,x,m⟩
 ·refine jw1 (g:=none) ?_;refine Oper.wp_pan (o:=o') (fun _ _ h=>I h) (fun Y w' J=>?_) (fun _ _ J=>?_) f
  ·obtain ⟨v,S1,b,c,i,l,D,G⟩:=J;cases l;exact R v w' S1 b c i D G
  ·obtain ⟨v,_,_,_,_,l,_⟩:=J;cases l
 ·obtain ⟨v,_,_,_,_,l,_⟩:=m;cases l
def yz8 {l t a}: ∀ {F},(qy8 T l F).get T t=some a->F.get T t=some a/\t∉l
 | [],h=>by simp [qy8,AF.get] at h
 |(q,b)::r,h=>by
  unfold qy8 at h;split at h
  ·rename_i c;obtain ⟨f,e⟩:=yz8 h;refine ⟨?_,e⟩;simp only [AF.get];split
   ·rename_i d;have:=X1 d;subst this;exact absurd (zb9.1 c) e
   ·exact f
  ·rename_i c;simp only [AF.get] at h⊢;split at h
   ·rename_i d;have:=X1 d;subst this;refine ⟨h,fun g=>?_⟩;rw [zb9.2 g] at c;cases c
   ·exact yz8 h
def panD (hk:OkD ops n) (hE:zb4 T P C.E) (h:TrOk P C ops n B F0 H0 rs) (hlen:rs.length=ops.size) (hB:H0.length=B) (hF0: ∀t a,F0.get T t=some a->t<n/\ ∀i∈a.ids,i<B) (hH0: ∀f∈H0,∀i∈f.cellIds,i<B) (hpin:S0.pin.length<=B)
  {N} (hN: ∀q∈rs,q.d.ne<=N) {D} (hcl: ∀i k,D i=true->Tp ops i k->D k=true) {j r} (I:rs[j]?=some r) {a0 J} (hp:PanI P C ops B F0 H0 rs j a0 J) (hD:D j=false) (u: ∀k,Tp ops j k->D k=true)
  {a} (hsz:a.tmps.size=n) (hdf:a.defers=ds) (hs:Sim T w0 S0 (StD rs F0 H0 n N D) (zw4 a n) w S φ) (HP:yu1 Q n ds w0 S0 a0 (⟨qy8 T (vf6 ops ops.size) F0,J⟩:St T)) {K}:
  r.o.wp P a w K Q:=by
 obtain ⟨⟨V,tch,F,Hm,Hp,wr,p1,p2,p3,p4,p5,p6,p7,p8,p9,M,m,p12,p13,p14,p15,p16,p17⟩,q1,q2,q3,q4⟩:=hp;have:V=r:=by rw [I] at p1;exact (X5 p1).symm
 subst this;have p:=h j V I;have hnN:=hN V (X6 I);have same: ∀e,(∀q∈rs,jm7 q e->q.d.j<j/\D q.d.j=true)->hF D rs (base H0) e=hF zj2 (rs.take j) (base H0) e:=by
  intro e g
  conv=>lhs;rw [yn9 I]
  rw [yc9];show hF D (rs.drop (j+1)) (match D V.d.j with|true=>_|false=>hF D (rs.take j) (base H0)) e=_;rw [h.idx I,hD];simp only;rw [zr1 fun q z _ hu=>?_]
  ·refine yb0 rfl fun q z hu=>?_;exact (g q (K8 z) hu).2
  ·obtain ⟨i,hi,b⟩:=yg9 z;have:=(g q (X6 b) hu).1;rw [h.idx b] at this;omega
 have htch: ∀e∈tch,hF D rs (base H0) e=hF zj2 (rs.take j) (base H0) e:=by
  intro e g;refine same e fun q z hu=>?_;obtain ⟨i,b⟩:=Y9.1 z;have henb:=(M e g).1;rw [h.idx b];rcases Classical.em (∃c1 v1,q.loc=some (e,c1,some v1)) with ⟨c1,v1,A⟩|hnl
  ·have hlk:=(h i q b).lok _ _ _ A;rcases M7 i j with G|rfl|G
   ·refine ⟨G,?_⟩;rcases p15 q (zv5 G b) with X|⟨_,h1⟩
    ·rw [h.idx b] at X;exact u i X
    ·exact absurd g (h1 e c1 v1 A)
   ·rw [I] at b;have:=X5 b;subst this;rw [(p.skip (p.dskip p2)).2] at A;cases A
   ·exfalso;have:=q2 q z hlk.skip (.inr ⟨_,_,_,A⟩);rw [h.idx b] at this;have:=Tp.lt hk.back this (by have:=(X2.1 I).1;omega);omega
  obtain ⟨⟨O,hql⟩,hc⟩:=zl2 (hu.resolve_right hnl);rcases M7 i j with G|rfl|G
  ·refine ⟨G,?_⟩;rcases p15 q (zv5 G b) with X|⟨h1,_⟩
   ·rw [h.idx b] at X;exact u i X
   ·exfalso;have hw:=h1 e g;unfold DR.wrE at hw;simp only [Bool.or_eq_false_iff,Bool.and_eq_false_imp] at hw;rcases hc with ⟨_,_,g3⟩|⟨R,g2⟩
    ·rw [zb9.2 g3] at hw;cases hw.1
    ·have:=hw.2 (W5 R);rw [((h i q b).take O hql).ne] at g2;rw [show Nat.blt e q.d.ne=true by rw [V2];exact g2] at this;cases this
  ·rw [I] at b;have:=X5 b;subst this;rw [p.dskip p2] at O;cases O
  ·exfalso;have hord:=h.ord G I b;have hle:=p.le.2;rcases hc with ⟨_,_,g3⟩|⟨R,_⟩
   ·have:=q2 q z O (.inl fun e'=>by rw [e'] at g3;cases g3);rw [h.idx b] at this;have:=Tp.lt hk.back this (by have:=(X2.1 I).1;omega);omega
   ·omega
 have hcore: ∀e,e<B->hF D rs (base H0) e=hF zj2 (rs.take j) (base H0) e:=by
  intro e g;refine same e fun q z hu=>?_;obtain ⟨i,b⟩:=Y9.1 z;rcases Classical.em (∃c1 v1,q.loc=some (e,c1,some v1)) with ⟨c1,v1,A⟩|hnl
  ·have Y:=q2 q z ((h i q b).lok _ _ _ A).skip (.inr ⟨_,_,_,A⟩);refine ⟨Tp.lt hk.back Y (by have:=(X2.1 I).1;omega),u _ Y⟩
  obtain ⟨⟨O,hql⟩,hc⟩:=zl2 (hu.resolve_right hnl);have hqb:=(h i q b).le.1;rcases hc with ⟨_,_,g3⟩|⟨R,_⟩
  ·have Y:=q2 q z O (.inl fun e'=>by rw [e'] at g3;cases g3);refine ⟨Tp.lt hk.back Y (by have:=(X2.1 I).1;omega),u _ Y⟩
  ·omega
 have hHm: ∀(e:Nat) (f:Ent T.U),Hm[e]?=some f->f=.gone\/(e∈tch/\(mkH N (hF D rs (base H0)))[e]?=some f):=by
  intro e f l;have s:=(X2.1 l).1;rw [p8] at s;rw [p9 e s] at l;simp only [X0] at l;split at l
  ·rename_i g;exact .inr ⟨g,zg1.2 ⟨by have:=p.le.2;omega,by rw [htch e g];exact l⟩⟩
  ·exact .inl l.symm
 have hsub:=hs.sub2 (Fr:=F) (Hm:=Hm) (tch:=tch) (nb:=V.d.nb) (fun t x L=>by
  obtain ⟨h1,h2⟩:=p12 t x L;have h3:=h.slotD hk I hlen u hcl hD (t:=t) (X4.2 (.inl h1));refine zg0.2 ⟨?_,by rw [h3];exact h2⟩;by_cases hw: ∃q∈rs.take j,q.o.dst=some t
  ·obtain ⟨q,z,hd⟩:=hw;obtain ⟨i,_,b⟩:=zl0 z;have H:=(h i q b).op;exact hk.dst q.d.j t (Y3.1 H).1 (by rw [zk7 H];exact hd)
  ·rw [zk4 fun q z hd=>hw ⟨q,z,hd⟩] at h2;exact (hF0 t x h2).1) hHm p8 p13 p14
 refine ke4 hE p6 p.dst p4 p5 hsub (yn0 hsz hdf) fun v w' S1 φ1 F1 Fc hst hv=>?_;have hnb:=p.le.2;obtain ⟨φ2,R,g2⟩:=hs.frame2 (tch:=tch) (nb:=V.d.nb) hst (by rw [m];exact hnb) (by rw [zp9,m];exact hnN) (by have:=p.le.1;omega)
  (fun e g=>⟨(M e g).1,_,zg1.2 ⟨by have:=(M e g).1;omega,rfl⟩,by rw [htch e g];exact (M e g).2⟩)
  (fun e h1 h2=>zg1.2 ⟨by rw [m] at h2;omega,h.free hB hcl I hD h1 (by rw [<-m];exact h2)⟩)
  (H2:=mkH N fun e=>if e∈tch\/(V.d.nb<=e/\e<V.d.ne) then (Hp[e]?).getD .gone else hF D rs (base H0) e) (by rw [zp9,zp9])
  (fun e f l=>by
   obtain ⟨g,l⟩:=zg1.1 l;by_cases ht:e∈tch
   ·rw [if_pos (.inl ht)] at l;have s:=(M e ht).1;have hg:Hp[e]?=some (Hp[e]'(by rw [m];omega)):=Y0 _;rw [hg,V3] at l;exact .inl ⟨ht,by rw [hg,l]⟩
   ·by_cases hn:V.d.nb<=e/\e<V.d.ne
    ·rw [if_pos (.inr hn)] at l;have hg:Hp[e]?=some (Hp[e]'(by rw [m];exact hn.2)):=Y0 _;rw [hg,V3] at l;exact .inr (.inl ⟨hn.1,by rw [hg,l]⟩)
    ·rw [if_neg (fun hh=>hh.elim ht hn)] at l;exact .inr (.inr ⟨ht,by rw [m];omega,zg1.2 ⟨g,l⟩⟩))
  (fun e ty t ys g hy=>by
   have s:=(M e g).1;obtain ⟨xs,L⟩:=p7.row e ty t ys (by rw [p8];exact s) hy;rcases hHm e _ L with h3|⟨_,h3⟩
   ·cases h3
   ·exact ⟨xs,h3⟩)
  (fun t x L=>by
   rw [m];exact h.fid hk (fun t a ha=>(hF0 t a ha).2) hcl I hD (zg0.1 L).2)
  (fun e f l _=>by
   rw [m];obtain ⟨_,rfl⟩:=zg1.1 l;exact h.hid hH0 hcl I hD)
 have hv2:=g2 a0 v hv (by rw [q4];intro i hi;cases hi);have Z: ∀(e:Nat) (f:Ent T.U),J[e]?=some f->(mkH N fun e=>if e∈tch\/(V.d.nb<=e/\e<V.d.ne) then (Hp[e]?).getD .gone else hF D rs (base H0) e)[e]?=some f:=by
  intro e f l;have s:=(X2.1 l).1;rw [p17] at s;rw [p16 e s] at l;simp only [X0] at l;have:=p.le.1;refine zg1.2 ⟨by omega,?_⟩;by_cases ht:e∈tch
  ·rw [if_pos ht] at l;rw [if_pos (.inl ht)];exact l
  ·rw [if_neg ht] at l;rw [if_neg (fun hh=>hh.elim ht fun h2=>by omega),hcore e s];exact l
 have hfin:Sim T w0 S0 ⟨qy8 T (vf6 ops ops.size) F0,J⟩ (zw4 a n) w' S1 φ2:=by
  have hget: ∀t x,(qy8 T (vf6 ops ops.size) F0).get T t=some x->(mkF (fF D rs (F0.get T)) n).get T t=some x:=by
   intro t x L;obtain ⟨h1,h2⟩:=yz8 L;refine zg0.2 ⟨(hF0 t x h1).1,?_⟩;rw [zk4 fun q z hd=>?_]
   ·exact h1
   ·obtain ⟨i,b⟩:=Y9.1 z;have H:=(h i q b).op;exact h2 (List.mem_filterMap.2 ⟨q.d.j,K1.2 (Y3.1 H).1,by rw [H];exact hd⟩)
  refine ⟨fun t x L=>R.fr t x (hget t x L),fun t x L=>?_,R.chg,R.own,R.ex,fun i e g=>R.lives i e (Z i e g),fun k r hk=>?_,fun i e g=>R.ents i e (Z i e g),fun i e g x L=>?_,fun i k e e' g he'=>R.apart i k e e' (Z i e g) (Z k e' he')⟩
  ·obtain ⟨k1,k2⟩:=R.ids t x (hget t x L);refine ⟨fun i hi=>by simp only [p17];exact (hF0 t x (yz8 L).1).2 i hi,?_⟩;cases x with
   |eptr y sz k c=>intro e1 t1 xs hxs;exact k2 e1 t1 xs (Z y _ hxs)
   |_=>trivial
  ·have:=(X2.1 hk).1;exact ⟨(R.pins k r hk).1,by simp only [p17];omega⟩
  ·have:=q3 e (X6 g) x L;simp only [p17];exact this
 exact HP _ _ _ _ v hfin hv2 (zo6 q4 fun i sz k c e=>by rw [e,AV.ids] at q4;cases q4) a (yn0 hsz hdf)
def Sim.pad {F x H H'} (h:Sim T w0 S0 ⟨F,H⟩ x w S φ) (q:H.length<=H'.length) (o: ∀(e:Nat) (f:Ent T.U),H'[e]?=some f->f=.gone\/H[e]?=some f):Sim T w0 S0 ⟨F,H'⟩ x w S φ:=by
 refine ⟨h.fr,fun t a p=>?_,h.chg,h.own,h.ex,fun i e m d a p=>?_,fun k r z=>⟨(h.pins k r z).1,V6 (h.pins k r z).2 q⟩,fun i e m=>?_,fun i e m j A=>?_,fun i j e D m s d l u a b p E=>?_⟩
 ·obtain ⟨G,I⟩:=h.ids t a p;refine ⟨fun i J=>V6 (G i J) q,?_⟩;cases a with
  |eptr y sz k c=>
   intro K L xs M;rcases o y _ M with g|g
   ·cases g
   ·exact I K L xs g
  |_=>trivial
 ·rcases o i e m with rfl|g
  ·cases d
  ·exact h.lives i e g d a p
 ·rcases o i e m with rfl|g
  ·trivial
  ·exact h.ents i e g
 ·rcases o i e m with rfl|g
  ·cases A
  ·exact V6 (h.eids i e g j A) q
 ·rcases o i e m with rfl|g
  ·cases d
  ·rcases o j D s with rfl|v
   ·cases l
   ·exact h.apart i j e D g v d l u a b p E
def wp3:Value->Option Bool| .bool c=>some c|_=>none
def ve5 {R:Type} (a:Option (Nat×Option R)) (i:Nat):Prop:=match a with|none=>False|some (b,_)=>i=b
def vc0 {F:AF T} {H:List (Ent T.U)} {F':PF} {R:Type} {r:R} (hE:zb4 T P C.E) {pm:Bool} {Kp:AV T.U->St T->Option R} {K:St T->Option R} (HK: ∀st,K st=some r->kl4 Q n ds w0 S0 st) (HP: ∀a st,Kp a st=some r->yu1 Q n ds w0 S0 a st) (hr:ue4 T P C ops n pm Kp K ⟨F,H⟩=some r) (hs:Sim T w0 S0 ⟨F,H⟩ F' w S φ):
  ∀a,Fr n ds F' a->wpAny P .any ops Q ops.size (Array.replicate ops.size false) a {w with drawn:=w.drawn+1}:=by
 unfold ue4 at hr;split at hr<;>try (cases hr;done)
 rename_i hok;have Z:=ky0 hok;intro a ha;obtain ⟨rs,pz,FF,Hc,recs,M,hpz,hlen,hK⟩:=vx7 (B:=H.length) (F0:=F) (H0:=H) rfl Z hE ops.toList [] none F H [] rfl
  ⟨fun j r hj=>by simp at hj,fun t=>rfl,fun e he=>by simp only [hF,base];rw [Y0 he];rfl,W8 _,fun r hr=>(by cases hr),rfl⟩ (by intro q s;cases s) hr
 have h:=M.tr;have hF0: ∀t x,F.get T t=some x->t<n/\ ∀i∈x.ids,i<H.length:=fun t x J=>by
  obtain ⟨v,hv,_⟩:=hs.fr t x J;exact ⟨(ha.val t v hv).2,(hs.ids t x J).1⟩
 have hH0: ∀f∈H,∀i∈f.cellIds,i<H.length:=fun f hf i hi=>by
  obtain ⟨e,he⟩:=Y9.1 hf;exact hs.eids e f he i hi
 have hpin:S0.pin.length<=H.length:=by
  rcases N5 S0.pin.length with h0|h0
  ·omega
  ·have hlt:S0.pin.length-1<S0.pin.length:=by omega
   have:=(hs.pins _ _ (Y0 hlt)).2;simp only at this;omega
 have readyd: ∀(l:Array Bool) i,i∈Region.ready .any ops l->i<ops.size/\l.getD i true=false/\ ∀j,(zv7 ops i).contains j=true->l.getD j false=true:=by
  intro l i hi;unfold Region.ready at hi;rw [W3] at hi;have hlt:i<ops.size:=by simpa using hi.1
  have h2:=hi.2;rw [X3] at h2;refine ⟨hlt,by simpa using h2.1,fun j hj=>?_⟩;unfold zv7 at hj;rw [Z6 hlt] at hj h2;simp only [List.contains_eq_mem,decide_eq_true_eq,U7,W3] at hj;obtain ⟨e,⟨he,hb⟩,rfl⟩:=hj;have h3:=h2.2;simp only [Z8,V3,Array.all_eq_true'] at h3;have:=h3 e (by simpa using he);rw [hb] at this;simpa using this
 have readyI: ∀(l:Array Bool) i,i<ops.size->l.getD i true=false->(∀j,(zv7 ops i).contains j=true->l.getD j false=true)->i∈Region.ready .any ops l:=by
  intro l i hlt h1 h2;unfold Region.ready;rw [W3];refine ⟨by simpa using hlt,?_⟩;rw [Z6 hlt,h1];simp only [U6,N8,Z8,V3,Array.all_eq_true'];intro e he;cases hb:Region.binds .any e with
  |false=>rfl
  |true=>
   have:=h2 e.on (by
    unfold zv7;rw [Z6 hlt];simp only [List.contains_eq_mem,decide_eq_true_eq,U7,W3];exact ⟨e,⟨by simpa using he,hb⟩,rfl⟩)
   rw [this];rfl
 let A:Array Bool->Nat->Bool:=fun l i=>l.getD i false
 let bad:Nat->Prop:=ve5 pz
 have hbad1: ∀(i:Nat) (q:Rec T),rs[i]?=some q->q.dead=true-> ∃k,bad k/\(i=k\/Tp ops i k):=by
  intro i q s hqd;cases hpp:pz with
  |none=>rw [hpp] at hpz;have:=hpz q (X6 s);rw [this] at hqd;cases hqd
  |some x=>
   obtain ⟨j0,kf⟩:=x;rw [hpp] at hpz;obtain ⟨a0,O,g1,_⟩:=hpz;refine ⟨j0,by show ve5 pz j0;rw [hpp];rfl,?_⟩;have:=g1.deads q (X6 s) hqd;rw [h.idx s] at this;exact this
 have hbad2: ∀k,bad k-> ∃(q:Rec T) (a0:AV T.U) (O:List (Ent T.U)) (_:Unit),rs[k]?=some q/\PanI P C ops H.length F H rs k a0 O/\Kp a0 ⟨qy8 T (vf6 ops ops.size) F,O⟩=some r:=by
  intro k hb;cases hpp:pz with
  |none=>have hb:ve5 pz k:=hb;rw [hpp] at hb;exact hb.elim
  |some x=>
   obtain ⟨j0,kf⟩:=x;have hb:k=j0:=by have hb:ve5 pz k:=hb;rw [hpp] at hb;exact hb
   subst hb;rw [hpp] at hpz hK;obtain ⟨a0,O,g1,rfl⟩:=hpz;obtain ⟨q,_,_,_,_,_,g2,_⟩:=g1.out;exact ⟨q,a0,O,(),g2,g1,hK⟩
 have hbad3:(∃k,bad k)\/K ⟨FF,Hc⟩=some r:=by
  cases hpp:pz with
  |none=>rw [hpp] at hK;exact .inr hK
  |some x=>
   obtain ⟨j0,kf⟩:=x;exact .inl ⟨j0,by show ve5 pz j0;rw [hpp];rfl⟩
 let I:Array Bool->Act->World->Prop:=fun l a w=>l.size=ops.size/\(∀i k,A l i=true->(zv7 ops i).contains k=true->A l k=true)/\a.tmps.size=n/\a.defers=ds/\(∀k,bad k->A l k=false)/\
  ∃S φ,Sim T w0 S0 (StD rs F H n Hc.length (A l)) (zw4 a n) w S φ
 refine qh6 I ?_ ?_ ops.size _ a _ ⟨by simp,by simp⟩ ⟨by simp,fun i k hi _=>?_,ha.size,ha.defers,fun k _=>?_,S,φ,?_⟩
 ·
  intro l a w i hI hi;obtain ⟨hls,hcl1,V,hdf,hnb,S,φ,L⟩:=hI;obtain ⟨hilt,hil,hip⟩:=readyd l i hi;have hDi:A l i=false:=by
   show l.getD i false=false;rw [Y7] at hil⊢;rw [Z6 (by omega)] at hil⊢;simpa using hil
  have hcl: ∀i k,A l i=true->Tp ops i k->A l k=true:=fun i k hi t=>by
   induction t with
   |one h=>exact hcl1 _ _ hi h
   |step h _ ih=>exact ih (hcl1 _ _ hi h)
  have hpre: ∀k,Tp ops i k->A l k=true:=fun k t=>by
   cases t with
   |one h=>exact hip _ h
   |step h t=>exact hcl _ _ (hip _ h) t
  have hset:A (l.setIfInBounds i true)=zi8 (A l) i:=by
   funext j;show (l.setIfInBounds i true).getD j false=if j=i then true else l.getD j false
   rw [Y7,Array.getElem?_setIfInBounds];by_cases hji:j=i
   ·subst hji;simp [hls,hilt]
   ·rw [if_neg (fun e=>hji e.symm),if_neg hji,<-Array.getD_eq_getD_getElem?]
  have D:rs[i]?=some rs[i]:=Y0 (by omega);generalize hrr:rs[i]=r at D;have hrk:=h i r D;have hop:=hrk.op;rw [h.idx D] at hop;have keepI: ¬bad i-> ∀a' w',a'.tmps.size=n->a'.defers=ds->(∃S1 φ1,Sim T w0 S0 (StD rs F H n Hc.length (zi8 (A l) i)) (zw4 a' n) w' S1 φ1)->I (l.setIfInBounds i true) a' w':=by
   intro hnbi a' w' h1 h2 h3;refine ⟨by simpa using hls,fun x k J Z=>?_,h1,h2,fun k Z=>by
    have hne:k≠i:=fun e=>hnbi (e▸Z);rw [hset];unfold zi8;rw [if_neg hne];exact hnb k Z,by rw [hset];exact h3⟩
   rw [hset] at J⊢;unfold zi8 at J⊢;by_cases hki:k=i
   ·rw [if_pos hki]
   ·rw [if_neg hki];by_cases hxi:x=i
    ·subst hxi;exact hip k Z
    ·rw [if_neg hxi] at J;exact hcl1 x k J Z
  have z: ∀b,(match r.o.guard with|none=>(some true:Option Bool)|some (g,b)=>(yielded ops a.tmps g).map fun c=>c==b)=b->(Region.wanted r.o (yielded ops a.tmps)=true↔b=some true):=by
   intro b hb;unfold Region.wanted;cases hg:r.o.guard with
   |none=>rw [hg] at hb;subst hb;simp
   |some gb=>
    obtain ⟨g,b'⟩:=gb;rw [hg] at hb;simp only at hb⊢;subst hb;cases yielded ops a.tmps g with
    |none=>simp
    |some c=>cases c<;>cases b'<;>simp
  have hwant:r.dead=false->Region.wanted r.o (yielded ops a.tmps)= !r.skip:=by
   intro hnd;have hg:=hrk.guard hnd;cases hgd:r.o.guard with
   |none=>
    rw [hgd] at hg;simp only at hg;rw [hg];exact (z (some true) (by rw [hgd])).2 rfl
   |some gb=>
    obtain ⟨g,b⟩:=gb;rw [hgd] at hg;simp only at hg;obtain ⟨rg,hm1,hm2,⟨d,G⟩,hm3,hm4⟩:=hg;obtain ⟨k,hki,X⟩:=zl0 hm1;have hkg:k=g:=by rw [<-h.idx X,hm2]
    subst hkg;have y:=(h k rg X).op;rw [h.idx X] at y;have hdn:=Z.dst k d (Y3.1 y).1 (by rw [zk7 y];exact G);have hsl:=h.slotD Z D hlen hpre hcl hDi (t:=d) (X4.2 (.inr (by unfold yn1;rw [hgd];simp [zk7 y,G])));rw [yl3 hm1 G fun q s hd'=>h.uniq Z (K8 s) (K8 hm1) hd' G] at hsl;have hsl:fF (A l) rs (F.get T) d=some rg.a:=hsl;obtain ⟨v,hv,Y⟩:=L.fr d rg.a (zg0.2 ⟨hdn,hsl⟩);have hv:=(zm4.1 hv).2;have hyv:yielded ops a.tmps k=wp3 v:=by
     unfold yielded;rw [y];simp only [Option.bind_some,G];rw [Y7,Z6 (by rw [V];exact hdn)] at hv;rw [Z6 (by rw [V];exact hdn)];simp only [V3] at hv;rw [hv];cases v<;>rfl
    cases hs:r.skip with
    |false=>
     have:=hm3 hs;rw [this] at Y;have:=zf6 Y;subst this;exact (z (some true) (by rw [hgd];simp only [hyv];cases b<;>rfl)).2 rfl
    |true=>
     rcases hm4 hs with h5|⟨u,h5⟩
     ·rw [h5] at Y;have:=zf6 Y;subst this;have:=z (some false) (by rw [hgd];simp only [hyv];cases b<;>rfl);cases hwd:Region.wanted r.o (yielded ops a.tmps) with
      |false=>rfl
      |true=>exact absurd (this.1 hwd) (by simp)
     ·rw [h5,VR] at Y;subst Y;have:=z none (by rw [hgd];simp only [hyv];rfl);cases hwd:Region.wanted r.o (yielded ops a.tmps) with
      |false=>rfl
      |true=>exact absurd (this.1 hwd) (by simp)
  have hlets:(match r.o.guard with|none=>True|some (g,b)=> ∃rg∈rs.take i,rg.d.j=g/\(∃d,rg.o.dst=some d)/\rg.a=cB T b)->Region.wanted r.o (yielded ops a.tmps)=true:=by
   intro hg;cases hgd:r.o.guard with
   |none=>exact (z (some true) (by rw [hgd])).2 rfl
   |some gb=>
    obtain ⟨g,b⟩:=gb;rw [hgd] at hg;simp only at hg;obtain ⟨rg,hm1,hm2,⟨d,G⟩,hm3⟩:=hg;obtain ⟨k,hki,X⟩:=zl0 hm1;have hkg:k=g:=by rw [<-h.idx X,hm2]
    subst hkg;have y:=(h k rg X).op;rw [h.idx X] at y;have hdn:=Z.dst k d (Y3.1 y).1 (by rw [zk7 y];exact G);have hsl:=h.slotD Z D hlen hpre hcl hDi (t:=d) (X4.2 (.inr (by unfold yn1;rw [hgd];simp [zk7 y,G])));rw [yl3 hm1 G fun q s hd'=>h.uniq Z (K8 s) (K8 hm1) hd' G] at hsl;have hsl:fF (A l) rs (F.get T) d=some rg.a:=hsl;obtain ⟨v,hv,Y⟩:=L.fr d rg.a (zg0.2 ⟨hdn,hsl⟩);have hv:=(zm4.1 hv).2;have hyv:yielded ops a.tmps k=wp3 v:=by
     unfold yielded;rw [y];simp only [Option.bind_some,G];rw [Y7,Z6 (by rw [V];exact hdn)] at hv;rw [Z6 (by rw [V];exact hdn)];simp only [V3] at hv;rw [hv];cases v<;>rfl
    rw [hm3] at Y;have:=zf6 Y;subst this;exact (z (some true) (by rw [hgd];simp only [hyv];cases b<;>rfl)).2 rfl
  unfold wpOp;rw [hop];cases hdd:r.dead with
  |true=>
   obtain ⟨k,hbk,hik⟩:=hbad1 i r D hdd;rcases hik with rfl|hik
   ·obtain ⟨q,a0,O,_,g1,g2,g3⟩:=hbad2 i hbk;have:q=r:=by rw [D] at g1;exact (X5 g1).symm
    subst this;obtain ⟨r0,tch,_,_,_,_,p1,_,p3,_⟩:=g2.out;have:r0=q:=by rw [D] at p1;exact (X5 p1).symm
    subst this;simp only [hlets p3,if_true];left;exact panD Z hE h hlen rfl hF0 hH0 hpin M.mono hcl D g2 hDi hpre V hdf L (HP a0 _ g3)
   ·have:=hnb k hbk;rw [hpre k hik] at this;cases this
  |false=>
  have hnbi: ¬bad i:=fun hb=>by
   obtain ⟨q,a0,O,_,g1,g2,g3⟩:=hbad2 i hb;obtain ⟨r0,tch,_,_,_,_,p1,p2,_⟩:=g2.out;have:r0=r:=by rw [D] at p1;exact (X5 p1).symm
   subst this;rw [hdd] at p2;cases p2
  simp only [hwant hdd];cases hs:r.skip with
  |true=>
   simp only [W9];rw [if_neg (by simp)];obtain ⟨h1,h2,_⟩:=jn5 (v:=undef) V hrk.dst;refine keepI hnbi _ _ h1 (by rw [h2,hdf]) ⟨S,φ,vd5 Z h (N:=Hc.length) D V ?_ fun _=>?_⟩
   ·have e1: ∀e,hF (zi8 (A l) i) rs (base H) e=hF (A l) rs (base H) e:=fun e=>by
     rw [h.put hcl D hDi];have:upR r e=none:=by unfold upR;rw [hs]
     rw [vd9 (hrk.skip hs).2,this];rfl
    have e2:hF (zi8 (A l) i) rs (base H)=hF (A l) rs (base H):=funext e1;rw [e2];exact L
   ·rw [(hrk.skip hs).1];exact ⟨rfl,fun i hi=>(by cases hi),trivial⟩
  |false=>
   simp only [U6,if_true];left;cases hl:r.loc with
   |none=>exact Oper.wp_mono (fun a' w' hX=>keepI hnbi a' w' hX.1 hX.2.1 hX.2.2) (zas1 (Q:=Q) Z hE h hlen rfl hF0 hH0 hpin M.mono hcl D hDi hpre hs hl V hdf L)
   |some p=>obtain ⟨k,c,sv⟩:=p;exact Oper.wp_mono (fun a' w' hX=>keepI hnbi a' w' hX.1 hX.2.1 hX.2.2) (zas2 (Q:=Q) Z hE h hlen M.mono hF0 hcl D hl hDi hpre V hdf L)
 ·
  intro l a w hI hready;obtain ⟨hls,hcl1,V,hdf,hnb,S,φ,L⟩:=hI;have hall: ∀i,i<ops.size->A l i=true:=by
   intro i;induction i using Nat.strongRecOn with
   |_ i ih=>
    intro hi;cases hD:A l i with
    |true=>rfl
    |false=>
     have:i∈Region.ready .any ops l:=readyI l i hi (by
      have hD:l.getD i false=false:=hD;rw [Y7] at hD⊢;rw [Z6 (by omega)] at hD⊢;simpa using hD) fun j hj=>by
       have:=Tp.lt Z.back (.one hj) hi;exact ih j this (by omega)
     rw [hready] at this;cases this
  have hmem: ∀q∈rs,A l q.d.j=true:=fun q s=>by
   obtain ⟨k,hk'⟩:=Y9.1 s;rw [h.idx hk'];exact hall k (by have:=(X2.1 hk').1;omega)
  have e1:hF (A l) rs (base H)=hF zj2 rs (base H):=funext fun e=>yb0 rfl fun q s _=>hmem q s;have hHc:mkH Hc.length (hF (A l) rs (base H))=Hc:=by
   apply R4;intro e;by_cases he:e<Hc.length
   ·rw [zg1.2 ⟨he,rfl⟩,e1,M.hc e he]
   ·rw [Y5 (by rw [zp9];omega),Y5 (by omega)]
  have m:Sim T w0 S0 ⟨mkF (fF (A l) rs (F.get T)) n,Hc⟩ (zw4 a n) w S φ:=by
   have:=L;unfold StD at this;rw [hHc] at this;exact this
  have hfin:Sim T w0 S0 ⟨FF,Hc⟩ (zw4 a n) w S φ:=by
   have hget: ∀t x,FF.get T t=some x->(mkF (fF (A l) rs (F.get T)) n).get T t=some x:=by
    intro t x J;rw [M.ff] at J;have e2:fF (A l) rs (F.get T) t=fF zj2 rs (F.get T) t:=by
     by_cases hw: ∃q∈rs,q.o.dst=some t
     ·obtain ⟨q,s,G⟩:=hw;rw [yl3 s G fun q' hq' hd'=>h.uniq Z hq' s hd' G,yl3 s G fun q' hq' hd'=>h.uniq Z hq' s hd' G,hmem q s];rfl
     ·rw [zk4 fun q s G=>hw ⟨q,s,G⟩,zk4 fun q s G=>hw ⟨q,s,G⟩]
    refine zg0.2 ⟨?_,by rw [e2];exact J⟩;by_cases hw: ∃q∈rs,q.o.dst=some t
    ·obtain ⟨q,s,G⟩:=hw;obtain ⟨i,hqi⟩:=Y9.1 s;have hopi:=(h i q hqi).op;exact Z.dst q.d.j t (Y3.1 hopi).1 (by rw [zk7 hopi];exact G)
    ·rw [zk4 fun q s G=>hw ⟨q,s,G⟩] at J;exact (hF0 t x J).1
   exact ⟨fun t x J=>m.fr t x (hget t x J),fun t x J=>m.ids t x (hget t x J),m.chg,m.own,m.ex,m.lives,m.pins,m.ents,m.eids,m.apart⟩
  rcases hbad3 with ⟨k,hk3⟩|hK
  ·exfalso;obtain ⟨q,_,_,_,g1,_⟩:=hbad2 k hk3;have h1:=hall k (by have:=(X2.1 g1).1;omega);rw [hnb k hk3] at h1;cases h1
  ·exact HK _ hK _ _ ⟨S,φ,hfin⟩ a (yn0 V hdf)
 ·
  exfalso;have hi:(Array.replicate ops.size false).getD i false=true:=hi;rw [Y7,Array.getElem?_replicate] at hi;split at hi<;>cases hi
 ·show (Array.replicate ops.size false).getD k false=false;rw [Y7,Array.getElem?_replicate];split<;>rfl
 ·have hdr:Chg [] w {w with drawn:=w.drawn+1}:=⟨rfl,rfl,rfl,W8 _,fun k _ _=>rfl⟩;have h1:=hs.pure hdr;have hnoD: ∀k,A (Array.replicate ops.size false) k=false:=fun k=>by
   show (Array.replicate ops.size false).getD k false=false;rw [Y7,Array.getElem?_replicate];split<;>rfl
  have e1: ∀e,hF (A (Array.replicate ops.size false)) rs (base H) e=base H e:=fun e=>zr1 fun q _ s=>by rw [hnoD] at s;cases s
  have h2:=h1.pad (H':=mkH Hc.length (hF (A (Array.replicate ops.size false)) rs (base H))) (by rw [zp9];exact M.le) fun e f hf=>by
   obtain ⟨_,rfl⟩:=zg1.1 hf;rw [e1];unfold base;cases hg:H[e]? with
   |none=>exact .inl rfl
   |some x=>exact .inr rfl
  have hget: ∀t x,(mkF (fF (A (Array.replicate ops.size false)) rs (F.get T)) n).get T t=some x->F.get T t=some x:=by
   intro t x J;obtain ⟨_,J⟩:=zg0.1 J;by_cases hw: ∃q∈rs,q.o.dst=some t
   ·obtain ⟨q,s,G⟩:=hw;rw [yl3 s G fun q' hq' hd'=>h.uniq Z hq' s hd' G,hnoD] at J;exact J
   ·rw [zk4 fun q s G=>hw ⟨q,s,G⟩] at J;exact J
  refine ⟨fun t x J=>?_,fun t x J=>h2.ids t x (hget t x J),h2.chg,h2.own,h2.ex,h2.lives,h2.pins,h2.ents,h2.eids,h2.apart⟩;obtain ⟨v,hv,Y⟩:=h2.fr t x (hget t x J);have:=ha.val t v hv;exact ⟨v,zm4.2 ⟨this.2,this.1⟩,Y⟩
def vk2 {F:AF T} {H:List (Ent T.U)} {c:PF} {R:Type} {r:R} {b:Nat} (e:zb4 T P C.E) (f:P.follows .mixedOrders=true) {g:Bool} {d:AV T.U->St T->Option R} {K:St T->Option R} (h: ∀st,K st=some r->kl4 Q n ds w0 S0 st) (i: ∀a st,d a st=some r->yu1 Q n ds w0 S0 a st) (j:ue4 T P C ops n g d K ⟨F,H⟩=some r) (k:Sim T w0 S0 ⟨F,H⟩ c w S φ):
  CW P (.region b ops true) Q n ds c w:=
 fun a l=>wp_region_any f (vc0 e h i j k a l)
end
end Go.X
