import Derived.Test.YtbanjakljpjknaaGreatA6
set_option linter.defProp false
namespace Go.X
open Go.RowKit Go.V
structure DR where
 j:Nat
 nb:Nat
 ne:Nat
 tch:List Nat
 wr:List Nat
 loc:Option (Nat×Nat×Bool)
 kp:Nat->Nat->Bool
def nk:Nat->Nat->Bool:=fun _ _=>false
def DR.isSt (r:DR):Bool:=match r.loc with|some (_,_,true)=>true|_=>false
def DR.wrE (r:DR) (e:Nat):Bool:=zu7 e r.wr||(Nat.ble r.nb e&&Nat.blt e r.ne)
section
variable (T:Tab) (P:Program) (C:Ctx T) {R:Type}
def qx1 (F:AF T) (x:Operand):List Nat:=match aev T F x with|some a=>a.ids|none=> []
def wk4 (F:AF T) (l:List Operand):List Nat:=match zx4 T F l with|some aS=>za1 aS|none=> []
def wk7 (H:List (Ent T.U)) (i:Nat):Bool:=match H[i]? with|some (.drow _ _ _ _ _)=>true|_=>false
def epX (F:AF T) (H:List (Ent T.U)) (x:Operand):List Nat:=match aev T F x with|some (.eptr i _ _ _)=>(match wk7 T H i with|true=> []|false=> [i])|_=> []
def wj7 (l:List Nat) (nb:Nat) (a:List (Ent T.U)):AV T.U->Bool| .eptr i _ _ _=>zu7 i l||(Nat.ble nb i||wk7 T a i)|_=>true
def gp6 (o:Oper) (F:AF T) (H:List (Ent T.U)):List Nat:=
 match o.op with
 | .move x=>epX T F H x
 | .assign x=>epX T F H x
 | .fieldAddr _ x _=>epX T F H x
 | .load _ x=>qx1 T F x
 | .store _ x _=>qx1 T F x
 | .indexAddr _ x _=>qx1 T F x
 | .slice _ x _ _ _=>qx1 T F x
 | .sliceToArrayPointer _ x=>qx1 T F x
 | .nilCheck x=>epX T F H x
 | .lookup _ m _ _=>qx1 T F m
 | .insert _ m _ v=>vr4 [] (qx1 T F m)
 | .mapUpdate _ m _ v=>vr4 [] (qx1 T F m)
 | .convert _ _ x=>qx1 T F x
 | .call c=>match c.callee with
  | .value f=>vm4 T H (H.length+1) (vr4 [] (qx1 T F f++wk4 T F c.args.toList))
  |_=>vr4 [] (wk4 T F c.args.toList)
 |_=> []
def qx3 (H:List (Ent T.U)) (l:List Nat):List Nat:=l.filter fun i=>match H[i]? with|some e=>e.live|none=>false
def zm8 (l:List Nat):List (Ent T.U)->Nat->List (Ent T.U)
 | [],_=> []
 |e::r,i=>(match zu7 i l with|true=>e|false=>.gone)::zm8 l r (i+1)
def yg7 (l:List Nat):List (Ent T.U)->List (Ent T.U)->Nat->List (Ent T.U)
 | [],s,_=>s
 |_::_,[],_=> []
 |e::r,f::s,i=>(match zu7 i l with|true=>f|false=>e)::yg7 l r s (i+1)
def qx0 (B nb c:Nat) (b:List Nat) (a:List DR) (i:Nat):Bool:=Nat.blt i B||((Nat.ble nb i&&Nat.blt i c)||a.any fun r=>Nat.ble r.nb i&&(Nat.blt i r.ne&&zu7 r.j b))
def jh4 (F:AF T) (dst:Option Tmp):AV T.U:=match dst with|some d=>(match F.get T d with|some a=>a|none=>.raw undef)|none=>.raw undef
def wk5 (x y:Int):Bool:=decide (x=y)
def ue5:AV T.U->AV T.U->Bool
 | .cell ⟨.int k,x⟩,.cell ⟨.int k',y⟩=>zf9 k k'&&wk5 x y
 |_,_=>false
def gz1 (H H1:List (Ent T.U)) (k c:Nat):Bool:=match H[k]?,H1[k]? with
 |some (.blk t cs),some (.blk t' cs')=>Nat.beq t' t&&(Nat.beq cs'.length cs.length&&(cs.all (zb7 T)&&(cs'.all (zb7 T)&&(match cs[c]?,cs'[c]? with|some a,some b=>ue5 T a b|_,_=>false))))
 |_,_=>false
def locC (r:DR) (tch wr:List Nat) (lc:Option (Nat×Nat×Bool)):Bool:=
 (match r.loc with|none=>true|some (k,_,st)=>(!st|| !zu7 k tch)&& !zu7 k wr)&&
 (match lc with|none=>true|some (k,c,st)=>(!r.wrE k||(!st&&r.kp k c))&&((!st|| !zu7 k r.tch)&&(match r.loc with|none=>true|some (k',c',st')=> !(Nat.beq k' k)||(!(st||st')|| !(Nat.beq c' c)))))
def vs3 (b:List Nat) (a:List DR) (tch c:List Nat) (d:Option (Nat×Nat×Bool)):Bool:=a.all fun r=>zu7 r.j b||((tch.all (fun e=> !r.wrE e)&&c.all fun e=> !zu7 e r.tch)&&locC r tch c d)
def wl2 (r:DR) (tch wr:List Nat) (lc:Option (Nat×Nat×Bool)):Bool:=
 (match r.loc with|none=>true|some (k,_,st)=>(!st|| !zu7 k tch)&& !zu7 k wr)&&
 (match lc with|none=>true|some (k,c,st)=>(!r.wrE k|| !st)&&((!st|| !zu7 k r.tch)&&(match r.loc with|none=>true|some (k',c',st')=> !(Nat.beq k' k)||(!(st||st')|| !(Nat.beq c' c)))))
def chk0 (clo:List Nat) (recs:List DR) (tch wr:List Nat) (lc:Option (Nat×Nat×Bool)):Bool:=recs.all fun r=>zu7 r.j clo||((tch.all (fun e=> !r.wrE e)&&wr.all fun e=> !zu7 e r.tch)&&wl2 r tch wr lc)
def kpD (clo:List Nat) (recs:List DR) (lc:Option (Nat×Nat×Bool)):Bool:=recs.all fun r=>zu7 r.j clo||(match lc with|some (k,c,false)=> !r.wrE k||r.kp k c|_=>true)
def qc8 (n:Nat) (l:List Nat):Bool:=l.all fun i=>Nat.blt i n
def qy5 (l:List Nat):AF T->AF T
 | []=> []
 |(t,a)::r=>match zu7 t l with|true=>qy5 l r|false=>(t,a)::qy5 l r
def zal3 {R:Type} (b:Option (Nat×Option R)) (a:List Nat):Bool:=match b with|some (j,_)=>zu7 j a|none=>false
def qp8 {R:Type} (a:Option (Nat×Option R)) (b:List Nat):Bool:=match a with|some _=>b.isEmpty|none=>true
def zq1 {R:Type} (pm:Bool) (a:Option (Nat×Option R)):Bool:=match a with|some _=>false|none=>pm
def yr6 (B:Nat) (tch:List Nat) (a b:List (Ent T.U)):List (Ent T.U):=(yg7 T tch a b 0).take B
def wm1 (B:Nat) (c:List Nat) (b:List DR) (tch f:List Nat) (a:AV T.U) (d:List (Ent T.U)):Bool:=
 vs3 c b tch f none&&(a.ids.isEmpty&&((b.all fun r=>zu7 r.j c||(r.wr.isEmpty&& !r.isSt))&&d.all fun e=>qc8 B e.cellIds))
def vl6 (ops:Array Oper) (n B:Nat) (HB:List (Ent T.U)) (Fp:AF T) (pm:Bool) (Kp:AV T.U->St T->Option R) (o:Oper) (j:Nat) (pz:Option (Nat×Option R)) (FF:AF T) (Hc:List (Ent T.U)) (recs:List DR) (G:Option (Nat×Option R)->AF T->List (Ent T.U)->List DR->Option R):Option R:=
 let F:=yd8 T FF (zy4 o)
 let tch:=qx3 T Hc (gp6 T o F Hc++yy0 C o F Hc)
 let Hm:=zm8 T tch Hc 0
 let clo:=(yw5 ops ops.size).getD j []
 match zk1 n o.dst&&(zd3 o&&(zu1 F o&&(qc8 Hc.length (vg7 T F)&&Hm.all fun e=>qc8 Hc.length e.cellIds))) with
 |true=>match wl3 P o F Hm with
  |some (k,c,sv)=>zj7 P C o ⟨F,Hm⟩ (fun st'=>
   match qp8 pz (match sv with|some _=> [k]|none=> [])&&(chk0 clo recs [] [] (some (k,c,sv.isSome))&&((jh4 T st'.F o.dst).ids.all (qx0 B Hc.length Hc.length clo recs)&&(match sv with|some v=>v.ids|none=> []).all (qx0 B Hc.length Hc.length clo recs))) with
   |true=>j9 (kpD clo recs (some (k,c,sv.isSome))) (G pz (zc2 T FF o.dst (jh4 T st'.F o.dst)) (vi6 k c sv (Hc.getD k .gone) Hc) (recs++ [⟨j,Hc.length,Hc.length,[],[],some (k,c,sv.isSome),nk⟩])) none
   |false=>none) (fun _ _=>none)
  |none=>zj7 P C o ⟨F,Hm⟩ (fun st'=>
   match qp8 pz (wrF C o ⟨F,Hm⟩)&&(vs3 clo recs tch (wrF C o ⟨F,Hm⟩) none&&(((jh4 T st'.F o.dst).ids.all (qx0 B Hc.length st'.H.length clo recs)&&wj7 T tch Hc.length HB (jh4 T st'.F o.dst))&&st'.H.all fun e=>e.cellIds.all (qx0 B Hc.length st'.H.length clo recs))) with
   |true=>G pz (zc2 T FF o.dst (jh4 T st'.F o.dst)) (yg7 T tch Hc st'.H 0) (recs++ [⟨j,Hc.length,st'.H.length,tch,wrF C o ⟨F,Hm⟩,none,gz1 T Hm st'.H⟩])
   |false=>none) (fun a st'=>match zq1 pm pz&&wm1 T B clo recs tch (wrF C o ⟨F,Hm⟩) a (yr6 T B tch Hc st'.H) with
   |true=>G (some (j,Kp a ⟨Fp,yr6 T B tch Hc st'.H⟩)) (zc2 T FF o.dst (.raw undef)) (Hc++List.replicate (st'.H.length-Hc.length) .gone) (recs++ [⟨j,Hc.length,st'.H.length,[],[],none,nk⟩])
   |false=>none)
 |false=>none
def jq5 (n:Nat) (o:Oper) (j:Nat) (pz:Option (Nat×Option R)) (FF:AF T) (Hc:List (Ent T.U)) (recs:List DR) (G:Option (Nat×Option R)->AF T->List (Ent T.U)->List DR->Option R):Option R:=
 match zk1 n o.dst with
 |true=>G pz (zc2 T FF o.dst (.raw undef)) Hc (recs++ [⟨j,Hc.length,Hc.length,[],[],none,nk⟩])
 |false=>none
def yd2 (ops:Array Oper) (n B:Nat) (i:List (Ent T.U)) (k:AF T) (pm:Bool) (l:AV T.U->St T->Option R) (K:St T->Option R):List Oper->Nat->Option (Nat×Option R)->AF T->List (Ent T.U)->List DR->Option R
 | [],_,e,f,h,_=>match e with|none=>K ⟨f,h⟩|some (_,m)=>m
 |o::r,j,e,f,h,a=>
  let G:=fun e f h a=>yd2 ops n B i k pm l K r (j+1) e f h a
  match zal3 e ((yw5 ops ops.size).getD j []) with
  |true=>jq5 T n o j e f h a G
  |false=>match o.guard with
   |none=>vl6 T P C ops n B i k pm l o j e f h a G
   |some (g,b)=>match kl1 ops g with
    |none=>none
    |some d=>match f.get T d with
     |some (.cell ⟨.bool,c⟩)=>j9 c (match b with|true=>vl6 T P C ops n B i k pm l o j e ((d,cB T true)::f) h a G|false=>jq5 T n o j e ((d,cB T true)::f) h a G) (match b with|true=>jq5 T n o j e ((d,cB T false)::f) h a G|false=>vl6 T P C ops n B i k pm l o j e ((d,cB T false)::f) h a G)
     |some (.raw (.tuple _))=>jq5 T n o j e f h a G
     |_=>none
def vm6 (ops:Array Oper) (m:Nat):Bool:=(List.range m).all fun i=>match ops[i]? with
 |some o=>zd3 o&&((zy4 o++yn0 ops o).all fun t=>(zw2 ops i).any (fun j=>Nat.blt j m&&yz5 ops j==some t)||(List.range m).all fun j=>yz5 ops j != some t||((yw5 ops ops.size).getD j []).contains i)
 |none=>true
def okD (ops:Array Oper) (n:Nat):Bool:=vm6 ops ops.size&&(Go.V.ya2 (vf8 ops ops.size)&&(yo8 ops&&(yv1 ops ops.size&&(vf8 ops ops.size).all fun d=>Nat.blt d n)))
def ue2 (ops:Array Oper) (n:Nat) (pm:Bool) (a:AV T.U->St T->Option R) (K:St T->Option R) (st:St T):Option R:=
 match okD ops n with
 |true=>yd2 T P C ops n st.H.length st.H (qy5 T (vf8 ops ops.size) st.F) pm a K ops.toList 0 none st.F st.H []
 |false=>none
end
end Go.X
namespace Go.X
open Go.RowKit Go.V
structure Rec (T:Tab) where
 o:Oper
 d:DR
 skip:Bool
 F:AF T
 Hm:List (Ent T.U)
 a:AV T.U
 H1:List (Ent T.U)
 dead:Bool
 loc:Option (Nat×Nat×Option (AV T.U))
section
variable {T:Tab}
def upR (r:Rec T) (e:Nat):Option (Ent T.U):=
 match r.skip with
 |true=>none
 |false=>match r.loc with
  |some _=>none
  |none=>if e<r.d.nb then (if e∈r.d.tch/\e∈r.d.wr then r.H1[e]? else none) else r.H1[e]?
def upG (r:Rec T) (e:Nat) (x:Ent T.U):Ent T.U:=match r.loc with|some (k,c,some v)=>(if e=k then yd3 c v x else x)|_=>(upR r e).getD x
def jc1 (r:Rec T) (e:Nat):Prop:=upR r e≠none\/ ∃c v,r.loc=some (e,c,some v)
def jx9 {r} (h:r.loc=none) (e:Nat) (x:Ent T.U):upG r e x=(upR r e).getD x:=by unfold upG;rw [h]
def yu2 {r e} (h: ¬jc1 r e) (x:Ent T.U):upG r e x=x:=by
 have a:upR r e=none:=Classical.byContradiction fun b=>h (.inl b);unfold upG;split
 ·rename_i k c v d;split
  ·rename_i f;subst f;exact absurd (.inr ⟨c,v,d⟩) h
  ·rfl
 ·rw [a];rfl
def hF (D:Nat->Bool):List (Rec T)->(Nat->Ent T.U)->Nat->Ent T.U
 | [],f=>f
 |r::rs,f=>hF D rs (match D r.d.j with|true=>fun e=>upG r e (f e)|false=>f)
def fF (D:Nat->Bool):List (Rec T)->(Nat->Option (AV T.U))->Nat->Option (AV T.U)
 | [],f=>f
 |r::rs,f=>fF D rs (match r.o.dst with|some d=>(fun t=>if t=d then (match D r.d.j with|true=>some r.a|false=>f t) else f t)|none=>f)
def base (H0:List (Ent T.U)) (e:Nat):Ent T.U:=(H0[e]?).getD .gone
def zk3:Nat->Bool:=fun _=>true
def yb8 (D:Nat->Bool): ∀(ps a:List (Rec T)) (f:Nat->Ent T.U),hF D (ps++a) f=hF D a (hF D ps f)
 | [],_,_=>rfl
 |r::ps,a,f=>yb8 D ps a _
def jz5 (D:Nat->Bool): ∀(ps a:List (Rec T)) (f:Nat->Option (AV T.U)),fF D (ps++a) f=fF D a (fF D ps f)
 | [],_,_=>rfl
 |r::ps,a,f=>jz5 D ps a _
def zr0 {D:Nat->Bool} {e:Nat}: ∀ {rs:List (Rec T)} {f:Nat->Ent T.U},(∀r∈rs,D r.d.j=true-> ¬jc1 r e)->hF D rs f e=f e
 | [],f,_=>rfl
 |r::rs,f,h=>by
  unfold hF;rw [zr0 (rs:=rs) fun b a=>h b (Z4 _ a)];cases hD:D r.d.j with
  |false=>rfl
  |true=>exact yu2 (h r (U6 ..) hD) _
def ya3 {D D':Nat->Bool} {e:Nat}: ∀ {rs:List (Rec T)} {f g:Nat->Ent T.U},f e=g e->(∀r∈rs,jc1 r e->D r.d.j=D' r.d.j)->hF D rs f e=hF D' rs g e
 | [],f,g,hf,_=>hf
 |r::rs,f,g,hf,h=>by
  unfold hF;refine ya3 (rs:=rs) ?_ fun r' hr'=>h r' (Z4 _ hr');by_cases hu:jc1 r e
  ·rw [h r (U6 ..) hu];cases D' r.d.j
   ·exact hf
   ·grind
  ·cases D r.d.j<;>cases D' r.d.j<;>simp only [yu2 hu]<;>exact hf
def vn0 {D b:Nat->Bool} {e c:Nat}: ∀ {rs:List (Rec T)} {f g:Nat->Ent T.U},simE c (f e) (g e)->(∀r∈rs,jc1 r e->D r.d.j=b r.d.j\/ ∃c' v,r.loc=some (e,c',some v)/\c'≠c)->simE c (hF D rs f e) (hF b rs g e)
 | [],f,g,a,_=>a
 |r::rs,f,g,a,h=>by
  unfold hF;refine vn0 (rs:=rs) ?_ fun o i=>h o (Z4 _ i);by_cases k:jc1 r e
  ·have same:simE c (upG r e (f e)) (upG r e (g e)):=by
    unfold upG;split
    ·split
     ·exact a.both _ _
     ·exact a
    ·cases hx:upR r e with
     |some x=>exact .inl rfl
     |none=>exact a
   rcases h r (U6 ..) k with p|⟨c',v,q,l⟩
   ·rw [p];cases b r.d.j with
    |false=>exact a
    |true=>exact same
   ·have m: ∀x,upG r e x=yd3 c' v x:=fun x=>by unfold upG;rw [q];simp only [if_true]
    cases D r.d.j<;>cases b r.d.j
    ·exact a
    ·show simE c (f e) (upG r e (g e));rw [m];exact (a.symm.left l v).symm
    ·show simE c (upG r e (f e)) (g e);rw [m];exact a.left l v
    ·exact same
  ·cases D r.d.j<;>cases b r.d.j<;>simp only [yu2 k]<;>exact a
def vt1 {D D':Nat->Bool} {e c:Nat}: ∀ {rs:List (Rec T)} {f g:Nat->Ent T.U},simE c (f e) (g e)->(∀i r,rs[i]?=some r->jc1 r e->(D r.d.j=D' r.d.j\/ ∃c' v,r.loc=some (e,c',some v)/\c'≠c)\/(r.loc=none/\D' r.d.j=true/\ ∃y,upR r e=some y/\simE c y (hF D' (rs.take i) g e)))->simE c (hF D rs f e) (hF D' rs g e)
 | [],f,g,hf,_=>hf
 |r::rs,f,g,hf,h=>by
  unfold hF;refine vt1 (rs:=rs) ?_ fun i r' hr' hu=>(h (i+1) r' (by simpa using hr') hu).imp id fun ⟨h1,h2,y,h3,h4⟩=>⟨h1,h2,y,h3,h4⟩;by_cases hu:jc1 r e
  ·rcases h 0 r rfl hu with h0|⟨h1,h2,y,h3,h4⟩
   ·have:= @vn0 _ D D' e c [r] _ _ hf fun r' hr' hu'=>by simp at hr';subst hr';exact h0
    exact this
   ·have h4:simE c y (g e):=h4;have up: ∀x,upG r e x=y:=fun x=>by rw [jx9 h1,h3];rfl
    rw [h2];cases D r.d.j
    ·show simE c (f e) (upG r e (g e));rw [up];exact hf.trans h4.symm
    ·show simE c (upG r e (f e)) (upG r e (g e));rw [up,up];exact .inl rfl
  ·cases D r.d.j<;>cases D' r.d.j<;>simp only [yu2 hu]<;>exact hf
def vt0 {D:Nat->Bool} {e c:Nat} {v:AV T.U}: ∀ {rs:List (Rec T)} {f g:Nat->Ent T.U},f e=yd3 c v (g e)->(∀r∈rs,D r.d.j=true->jc1 r e-> ∃c' k,r.loc=some (e,c',some k)/\c≠c')->hF D rs f e=yd3 c v (hF D rs g e)
 | [],f,g,a,_=>a
 |r::rs,f,g,a,h=>by
  unfold hF;refine vt0 (rs:=rs) ?_ fun l b=>h l (Z4 _ b);cases hD:D r.d.j with
  |false=>exact a
  |true=>
   show upG r e (f e)=yd3 c v (upG r e (g e));by_cases i:jc1 r e
   ·obtain ⟨c',k,m,o⟩:=h r (U6 ..) hD i;unfold upG;rw [m];simp only [if_true];rw [a,ki9 o]
   ·rw [yu2 i,yu2 i];exact a
def zl0 {D:Nat->Bool} {t:Nat}: ∀ {rs:List (Rec T)} {f:Nat->Option (AV T.U)},(∀r∈rs,r.o.dst≠some t)->fF D rs f t=f t
 | [],f,_=>rfl
 |r::rs,f,h=>by
  unfold fF;rw [zl0 (rs:=rs) fun b a=>h b (Z4 _ a)];have:=h r (U6 ..);cases hd:r.o.dst with
  |none=>rfl
  |some d=>exact if_neg (fun e=>this (by rw [hd,e]))
def yl2 {D t}: ∀ {rs f} {r:Rec T},r∈rs->r.o.dst=some t->(∀i∈rs,i.o.dst=some t->i=r)->fF D rs f t=(match D r.d.j with|true=>some r.a|false=>f t)
 | [],f,r,h,_,_=>by cases h
 |q::rs,f,r,h,p,k=>by
  unfold fF;by_cases c:r∈rs
  ·rw [yl2 c p fun i b=>k i (Z4 _ b)];cases hD:D r.d.j with
   |true=>rfl
   |false=>
    by_cases g:q.o.dst=some t
    ·have e:=k q (U6 ..) g;subst e;simp only [g,if_true,hD]
    ·cases l:q.o.dst with
     |none=>rfl
     |some d=>exact if_neg (fun e=>g (by rw [l,e]))
  ·have l:q=r:=by
    rcases Z0.1 h with h|h
    ·exact h.symm
    ·exact absurd h c
   subst l;rw [zl0 fun i b m=>c (k i (Z4 _ b) m▸b)];simp only [p,if_true]
def yp8 {l}: ∀ {H i e},(zm8 T l H i)[e]?=(H[e]?).map fun x=>if (i+e)∈l then x else .gone
 | [],i,e=>by simp [zm8]
 |x::r,i,0=>by
  simp only [zm8,Y4,Z8,M3];cases hm:zu7 i l with
  |true=>rw [if_pos (zc9.1 hm)]
  |false=>rw [if_neg (fun h=>by rw [zc9.2 h] at hm;cases hm)]
 |x::r,i,e+1=>by
  simp only [zm8,List.getElem?_cons_succ];rw [yp8 (H:=r),show i+1+e=i+(e+1) by omega]
def zt0 {l}: ∀ {H i},(zm8 T l H i).length=H.length
 | [],i=>rfl
 |x::r,i=>by simp [zm8,zt0 (H:=r)]
def yv5 {l}: ∀ {H H1 i e},H.length<=H1.length->(yg7 T l H H1 i)[e]?=if e<H.length then (if (i+e)∈l then H1[e]? else H[e]?) else H1[e]?
 | [],H1,i,e,_=>by simp [yg7]
 |x::r,[],i,e,h=>by simp at h
 |x::r,y::s,i,0,h=>by
  simp only [yg7,Y4,M3,U3,Nat.zero_lt_succ,if_true];cases hm:zu7 i l with
  |true=>rw [if_pos (zc9.1 hm)]
  |false=>rw [if_neg (fun h=>by rw [zc9.2 h] at hm;cases hm)]
 |x::r,y::s,i,e+1,h=>by
  simp only [yg7,List.getElem?_cons_succ,U3];rw [yv5 (H:=r) (H1:=s) (by simpa using h),show i+1+e=i+(e+1) by omega];simp only [Nat.add_lt_add_iff_right]
def zz3 {l}: ∀ {H H1 i},H.length<=H1.length->(yg7 T l H H1 i).length=H1.length
 | [],H1,i,_=>rfl
 |x::r,[],i,h=>by simp at h
 |x::r,y::s,i,h=>by simp [yg7,zz3 (H:=r) (H1:=s) (by simpa using h)]
def zz1 {F i a}: ∀ {l},(yd8 T F l).get T i=some a->i∈l/\F.get T i=some a
 | [],h=>by simp [yd8,AF.get] at h
 |j::r,h=>by
  unfold yd8 at h;split at h
  ·rename_i u d;simp only [AF.get] at h;split at h
   ·rename_i e;have:=X1 e;subst this;rw [d];exact ⟨U6 ..,h⟩
   ·obtain ⟨b,c⟩:=zz1 h;exact ⟨Z4 _ b,c⟩
  ·obtain ⟨b,c⟩:=zz1 h;exact ⟨Z4 _ b,c⟩
end
section
variable {T:Tab} (P:Program) (C:Ctx T) (ops:Array Oper) (n B:Nat) (F0:AF T) (H0:List (Ent T.U))
def gu5 (B:Nat) (ps:List (Rec T)) (ops:Array Oper) (r:Rec T) (i:Nat):Prop:=i<B\/(r.d.nb<=i/\i<r.d.ne)\/ ∃a∈ps,a.d.nb<=i/\i<a.d.ne/\Tp ops r.d.j a.d.j
structure ChkR (r r':Rec T):Prop where
 tch: ∀e∈r.d.tch,r'.d.wrE e=false
 wr: ∀e∈r.d.wr,e∉r'.d.tch
 l1: ∀k c v,r'.loc=some (k,c,some v)->k∉r.d.tch
 l2: ∀k c s,r'.loc=some (k,c,s)->k∉r.d.wr
 l3: ∀k c s,r.loc=some (k,c,s)->r'.d.wrE k=false\/s=none/\r'.d.kp k c=true
 l4: ∀k c v,r.loc=some (k,c,some v)->k∉r'.d.tch
 l5: ∀k c s c' s',r.loc=some (k,c,s)->r'.loc=some (k,c',s')->s.isSome=true\/s'.isSome=true->c'≠c
structure LocOk (ps:List (Rec T)) (r:Rec T) (k c:Nat) (sv:Option (AV T.U)):Prop where
 skip:r.skip=false
 ns:zd3 r.o=true
 pre:zu1 r.F r.o=true
 lt:k<r.d.nb
 ne:r.d.ne=r.d.nb
 tch:r.d.tch= []
 wr:r.d.wr= []
 fr: ∀t a,r.F.get T t=some a->t∈zy4 r.o/\fF zk3 ps (F0.get T) t=some a
 step: ∀(F':AF T) (H':List (Ent T.U)) (f:Ent T.U),(∀t a,r.F.get T t=some a->F'.get T t=some a)->H'[k]?=some f->simE c f (hF zk3 ps (base H0) k)->zj7 P C r.o ⟨F',H'⟩ some (fun _ _=>none)=some ⟨zc2 T F' r.o.dst r.a,vi6 k c sv f H'⟩
 chk: ∀r'∈ps,Tp ops r.d.j r'.d.j\/ChkR r r'
 ids: ∀i∈r.a.ids,gu5 B ps ops r i
 vids: ∀v,sv=some v-> ∀i∈v.ids,gu5 B ps ops r i
structure TakeOk (ps:List (Rec T)) (r:Rec T):Prop where
 ns:zd3 r.o=true
 pre:zu1 r.F r.o=true
 step: ∃Fz,zj7 P C r.o ⟨r.F,r.Hm⟩ some (fun _ _=>none)=some ⟨zc2 T Fz r.o.dst r.a,r.H1⟩
 keeps:Keeps T r.d.wr r.Hm r.H1
 hlen:r.Hm.length=r.d.nb
 hm: ∀e,e<r.d.nb->r.Hm[e]?=some (if e∈r.d.tch then hF zk3 ps (base H0) e else .gone)
 live: ∀e∈r.d.tch,e<r.d.nb/\(hF zk3 ps (base H0) e).live=true
 ne:r.H1.length=r.d.ne
 fr: ∀t a,r.F.get T t=some a->t∈zy4 r.o/\fF zk3 ps (F0.get T) t=some a
 fid: ∀t a,r.F.get T t=some a-> ∀i∈a.ids,i<r.d.nb
 eids: ∀f∈r.Hm,∀i∈f.cellIds,i<r.d.nb
 chk: ∀r'∈ps,Tp ops r.d.j r'.d.j\/ChkR r r'
 ids: ∀i∈r.a.ids,gu5 B ps ops r i
 ep:wj7 T r.d.tch r.d.nb H0 r.a=true
 cids: ∀f∈r.H1,∀i∈f.cellIds,gu5 B ps ops r i
structure RecOk (ps:List (Rec T)) (r:Rec T):Prop where
 idx:r.d.j=ps.length
 op:ops[r.d.j]?=some r.o
 dst:zk1 n r.o.dst=true
 le:B<=r.d.nb/\r.d.nb<=r.d.ne
 mono: ∀r'∈ps,r'.d.ne<=r.d.nb
 skip:r.skip=true->r.a=.raw undef/\r.loc=none
 dskip:r.dead=true->r.skip=true
 take:r.skip=false->r.loc=none->TakeOk P C ops B F0 H0 ps r
 lok: ∀k c sv,r.loc=some (k,c,sv)->LocOk P C ops B F0 H0 ps r k c sv
 dloc:r.d.loc=r.loc.map fun p=>(p.1,p.2.1,p.2.2.isSome)
 kp: ∀k c,r.d.kp k c=true->r.skip=false/\r.loc=none/\ ∃x y,r.Hm[k]?=some x/\r.H1[k]?=some y/\x.live=true/\simE c y x
 guard:r.dead=false->match r.o.guard with
  |none=>r.skip=false
  |some (g,b)=> ∃rg∈ps,rg.d.j=g/\(∃d,rg.o.dst=some d)/\(r.skip=false->rg.a=cB T b)/\(r.skip=true->rg.a=cB T (!b)\/ ∃u,rg.a=.raw (.tuple u))
structure PanI (ps:List (Rec T)) (j0:Nat) (a:AV T.U) (core:List (Ent T.U)):Prop where
 out: ∃(r0:Rec T) (tch:List Nat) (F:AF T) (Hm Hp:List (Ent T.U)) (wr:List Nat),ps[j0]?=some r0/\r0.dead=true/\
  (match r0.o.guard with|none=>True|some (g,b)=> ∃rg∈ps.take j0,rg.d.j=g/\(∃d,rg.o.dst=some d)/\rg.a=cB T b)/\
  zd3 r0.o=true/\zu1 F r0.o=true/\zj7 P C r0.o ⟨F,Hm⟩ (fun _=>none) (fun a st=>some (a,st.H))=some (a,Hp)/\Keeps T wr Hm Hp/\
  Hm.length=r0.d.nb/\(∀e,e<r0.d.nb->Hm[e]?=some (if e∈tch then hF zk3 (ps.take j0) (base H0) e else .gone))/\
  (∀e∈tch,e<r0.d.nb/\(hF zk3 (ps.take j0) (base H0) e).live=true)/\Hp.length=r0.d.ne/\
  (∀t a,F.get T t=some a->t∈zy4 r0.o/\fF zk3 (ps.take j0) (F0.get T) t=some a)/\(∀t a,F.get T t=some a-> ∀i∈a.ids,i<r0.d.nb)/\(∀f∈Hm,∀i∈f.cellIds,i<r0.d.nb)/\
  (∀r'∈ps.take j0,Tp ops j0 r'.d.j\/((∀e∈tch,r'.d.wrE e=false)/\ ∀k c v,r'.loc=some (k,c,some v)->k∉tch))/\
  (∀e,e<B->core[e]?=some (if e∈tch then (Hp[e]?).getD .gone else hF zk3 (ps.take j0) (base H0) e))/\core.length=B
 deads: ∀q∈ps,q.dead=true->q.d.j=j0\/Tp ops q.d.j j0
 wrs: ∀q∈ps,q.skip=false->(q.d.wr≠ []\/ ∃k c v,q.loc=some (k,c,some v))->Tp ops j0 q.d.j
 coreIds: ∀f∈core,∀i∈f.cellIds,i<B
 aids:a.ids= []
def PzOk {R:Type} (c:AF T) (d:AV T.U->St T->Option R) (ps:List (Rec T)):Option (Nat×Option R)->Prop
 |none=> ∀q∈ps,q.dead=false
 |some (e,f)=> ∃a b,PanI P C ops B F0 H0 ps e a b/\f=d a ⟨c,b⟩
def TrOk (rs:List (Rec T)):Prop:= ∀j r,rs[j]?=some r->RecOk P C ops n B F0 H0 (rs.take j) r
structure AccD (ps:List (Rec T)) (FF:AF T) (Hc:List (Ent T.U)) (recs:List DR):Prop where
 tr:TrOk P C ops n B F0 H0 ps
 ff: ∀t,FF.get T t=fF zk3 ps (F0.get T) t
 hc: ∀e,e<Hc.length->Hc[e]?=some (hF zk3 ps (base H0) e)
 le:B<=Hc.length
 mono: ∀r∈ps,r.d.ne<=Hc.length
 recs:recs=ps.map (·.d)
end
section
variable {T:Tab} {P:Program} {C:Ctx T} {ops:Array Oper} {n B:Nat} {F0:AF T} {H0:List (Ent T.U)}
structure OkD (ops:Array Oper) (n:Nat):Prop where
 dep:vm6 ops ops.size=true
 uniq: ∀i j d,i<ops.size->j<ops.size->yz5 ops i=some d->yz5 ops j=some d->i=j
 back:yo8 ops=true
 guards:yv1 ops ops.size=true
 dst: ∀i d,i<ops.size->yz5 ops i=some d->d<n
def kv4 (h:okD ops n=true):OkD ops n:=by
 unfold okD at h;simp only [X3] at h;obtain ⟨b,c,e,f,a⟩:=h;refine ⟨b,jy8 c,e,f,fun i d g j=>?_⟩;rw [Y8] at a;simpa [U7] using a d (by unfold vf8;rw [List.mem_filterMap];exact ⟨i,J3.2 g,j⟩)
def OkD.reads (h:OkD ops n) {i:Nat} {o:Oper} (ho:ops[i]?=some o) {t:Nat} (ht:t∈zy4 o++yn0 ops o):(∃j,(zw2 ops i).contains j=true/\yz5 ops j=some t)\/ ∀j,j<ops.size->yz5 ops j=some t->Tp ops j i:=by
 have hi:=(Y3.1 ho).1;have hd:=h.dep;unfold vm6 at hd;rw [Y8] at hd;have:=hd i (J3.2 hi);rw [ho] at this;simp only [X3,Y8] at this;have:=this.2 t ht;simp only [J2] at this;rcases this with h1|h1
 ·grind
 ·rw [Y8] at h1;refine .inr fun j hj hd=>?_;have h2:=h1 j (J3.2 hj);rw [J2] at h2;rcases h2 with h2|h2
  ·rw [hd] at h2;simp at h2
  ·exact zt2 _ _ _ (T3.1 h2)
def OkD.guard (h:OkD ops n) {i} {o:Oper} (c:ops[i]?=some o) {g b} (d:o.guard=some (g,b)):g<i:=by
 have e:=(Y3.1 c).1;have a:=h.guards;unfold yv1 at a;rw [Y8] at a;have:=a i (J3.2 e);rw [c] at this;simp only [d] at this;simpa [U7] using this
def zl2 {i o} (a:ops[i]?=some o):yz5 ops i=o.dst:=by simp [yz5,a]
def TrOk.uniq (hk:OkD ops n) {rs:List (Rec T)} (h:TrOk P C ops n B F0 H0 rs) {r r':Rec T} (hr:r∈rs) (hr':r'∈rs) {t:Nat} (hd:r.o.dst=some t) (hd':r'.o.dst=some t):r=r':=by
 obtain ⟨i,hi⟩:=Y9.1 hr;obtain ⟨j,hj⟩:=Y9.1 hr';have a:=h i r hi;have b:=h j r' hj;have e1:r.d.j=i:=by rw [a.idx,Y6,J5 (Nat.le_of_lt (X2.1 hi).1)]
 have e2:r'.d.j=j:=by rw [b.idx,Y6,J5 (Nat.le_of_lt (X2.1 hj).1)]
 have:=hk.uniq r.d.j r'.d.j t (Y3.1 a.op).1 (Y3.1 b.op).1 (by rw [zl2 a.op];exact hd) (by rw [zl2 b.op];exact hd')
 grind
def TrOk.snoc {ps:List (Rec T)} {r:Rec T} (h:TrOk P C ops n B F0 H0 ps) (hr:RecOk P C ops n B F0 H0 ps r):TrOk P C ops n B F0 H0 (ps++ [r]):=by
 intro j q hq;rcases N2 j ps.length with hj|hj|hj
 ·rw [X8 hj] at hq;rw [Z7 (by omega)];exact h j q hq
 ·grind
 ·grind
def TrOk.dlocs {ps} (h:TrOk P C ops n B F0 H0 ps): ∀r∈ps,r.d.loc=r.loc.map fun p=>(p.1,p.2.1,p.2.2.isSome):=fun r a=>by
 obtain ⟨j,b⟩:=Y9.1 a;exact (h j r b).dloc
def AccD.skip {ps:List (Rec T)} {FF:AF T} {Hc:List (Ent T.U)} {recs:List DR} (h:AccD P C ops n B F0 H0 ps FF Hc recs) {o:Oper} (ho:ops[ps.length]?=some o) (hd:zk1 n o.dst=true) (hg:match o.guard with
  |none=>False
  |some (g,b)=> ∃rg∈ps,rg.d.j=g/\(∃d,rg.o.dst=some d)/\(rg.a=cB T (!b)\/ ∃u,rg.a=.raw (.tuple u))):
  ∃r,AccD P C ops n B F0 H0 (ps++ [r]) (zc2 T FF o.dst (.raw undef)) Hc (recs++ [⟨ps.length,Hc.length,Hc.length,[],[],none,nk⟩])/\r.dead=false/\r.skip=true:=by
 let r:Rec T:=⟨o,⟨ps.length,Hc.length,Hc.length,[],[],none,nk⟩,true,[],[],.raw undef,[],false,none⟩
 have hup: ∀e,¬jc1 r e:=fun e h=>h.elim (fun h=>h rfl) fun ⟨_,_,h⟩=>by cases h
 refine ⟨r,?_,rfl,rfl⟩;refine ⟨h.tr.snoc ⟨rfl,ho,hd,⟨h.le,W6 _⟩,h.mono,fun _=>⟨rfl,rfl⟩,fun h=>(by cases h),fun h=>(by cases h),fun _ _ _ h=>(by cases h),rfl,fun _ _ h=>(by cases h),fun _=>?_⟩,?_,fun e he=>?_,h.le,fun q hq=>?_,by rw [h.recs];simp [r]⟩
 ·grind
 ·intro t;rw [jz5];show (zc2 T FF o.dst (.raw undef)).get T t=(match o.dst with|some d=>(fun t=>if t=d then (match zk3 r.d.j with|true=>some r.a|false=>fF zk3 ps (F0.get T) t) else fF zk3 ps (F0.get T) t)|none=>fF zk3 ps (F0.get T)) t;cases hdst:o.dst with
  |none=>exact h.ff t
  |some d=>
   simp only [zc2,AF.get,zk3];cases hb:Nat.beq d t with
   |true=>have:=X1 hb;subst this;simp [r]
   |false=>rw [if_neg (fun e=>by subst e;simp at hb)];exact h.ff t
 ·rw [h.hc e he,yb8,zr0 (rs:= [r]) fun r' hr' _=>by simp at hr';subst hr';exact hup e]
 ·rcases X4.1 hq with hq|hq
  ·exact h.mono q hq
  ·simp at hq;subst hq;exact W6 _
def zz2 {m l} (h:qc8 m l=true): ∀i∈l,i<m:=by
 intro i a;unfold qc8 at h;rw [Y8] at h;simpa [U7] using h i a
def qf2 {F t a} (h:F.get T t=some a): ∀i∈a.ids,i∈vg7 T F:=ja4 h
def yp3 {nb e j a} {ps:List (Rec T)} (g:a=ps.map (·.d)) {i} (h:qx0 B nb e ((yw5 ops ops.size).getD j []) a i=true):
  i<B\/(nb<=i/\i<e)\/ ∃b∈ps,b.d.nb<=i/\i<b.d.ne/\Tp ops j b.d.j:=by
 unfold qx0 at h;simp only [J2,X3,U7] at h;rcases h with h|⟨k,l⟩|h
 ·exact .inl h
 ·exact .inr (.inl ⟨Y1 k,l⟩)
 ·rw [List.any_eq_true] at h;obtain ⟨d,f,h⟩:=h;simp only [X3,U7] at h;rw [g] at f;obtain ⟨b,c,rfl⟩:=U5.1 f;exact .inr (.inr ⟨b,c,Y1 h.1,h.2.1,zt2 ops.size _ _ (zc9.1 h.2.2)⟩)
def kt6 {x y:Int} (h:wk5 x y=true):x=y:=of_decide_eq_true h
def gv9 {clo:List Nat} {recs:List DR} {tch wr:List Nat} {lc:Option (Nat×Nat×Bool)} (h:chk0 clo recs tch wr lc=true) (hk:kpD clo recs lc=true):vs3 clo recs tch wr lc=true:=by
 unfold chk0 at h;unfold kpD at hk;unfold vs3;rw [Y8] at h hk⊢;intro r hr;have h1:=h r hr;have h2:=hk r hr;cases hm:zu7 r.j clo with
 |true=>rfl
 |false=>
  rw [hm] at h1 h2;rw [Bool.false_or] at h1 h2⊢;rw [X3] at h1⊢;refine ⟨h1.1,?_⟩;have h3:=h1.2;unfold wl2 at h3;unfold locC;cases lc with
  |none=>exact h3
  |some p=>
   obtain ⟨k,c,st⟩:=p;rw [X3] at h3⊢;refine ⟨h3.1,?_⟩;have h4:=h3.2;simp only [X3] at h4⊢;refine ⟨?_,h4.2⟩;cases st with
   |true=>simpa using h4.1
   |false=>simpa using h2
def kc3 {H H1:List (Ent T.U)} {k c:Nat} (h:gz1 T H H1 k c=true): ∃x y,H[k]?=some x/\H1[k]?=some y/\x.live=true/\simE c y x:=by
 unfold gz1 at h;split at h<;>try (cases h;done)
 rename_i t cs t' cs' e1 e2;simp only [X3] at h;obtain ⟨h1,h2,h3,h4,h5⟩:=h;split at h5<;>try (cases h5;done)
 rename_i a b e3 e4;have hab:b=a:=by
  unfold ue5 at h5;split at h5<;>try (cases h5;done)
  rw [X3] at h5;have:=zb6 h5.1;subst this;rename_i _ x y;rw [show y=x from (kt6 h5.2).symm]
 exact ⟨_,_,e1,e2,rfl,.inr ⟨X1 h1,X1 h2,by rw [e3,e4,hab],h4,h3⟩⟩
def je5 {j:Nat} {recs:List DR} {ps:List (Rec T)} (hr:recs=ps.map (·.d)) (hdl: ∀r'∈ps,r'.d.loc=r'.loc.map fun p=>(p.1,p.2.1,p.2.2.isSome)) {tch wr:List Nat} {lc:Option (Nat×Nat×Bool)} (h:vs3 ((yw5 ops ops.size).getD j []) recs tch wr lc=true):
  ∀r'∈ps,Tp ops j r'.d.j\/((∀e∈tch,r'.d.wrE e=false)/\(∀e∈wr,e∉r'.d.tch)/\(∀k c v,r'.loc=some (k,c,some v)->k∉tch)/\(∀k c s,r'.loc=some (k,c,s)->k∉wr)/\(∀k c st,lc=some (k,c,st)->(r'.d.wrE k=false\/st=false/\r'.d.kp k c=true)/\(st=true->k∉r'.d.tch)/\ ∀c' s',r'.loc=some (k,c',s')->st=true\/s'.isSome=true->c'≠c)):=by
 intro r' hr';unfold vs3 at h;rw [Y8] at h;have:=h r'.d (by rw [hr];exact List.mem_map_of_mem hr');have hdl:=hdl r' hr';generalize r'.d=d at this hdl⊢;generalize r'.loc=ll at hdl⊢;rw [J2] at this;rcases this with h|h
 ·exact .inl (zt2 ops.size _ _ (zc9.1 h))
 ·rw [X3,X3,Y8,Y8] at h;obtain ⟨⟨h1,h2⟩,h3⟩:=h;have nm: ∀ {e:Nat} {l:List Nat},(!zu7 e l)=true->e∉l:=fun {e l} h hm=>by rw [zc9.2 hm] at h;cases h
  unfold locC at h3;rw [X3] at h3;obtain ⟨h3,h4⟩:=h3;refine .inr ⟨fun e he=>by have:=h1 e he;simpa using this,fun e he=>nm (h2 e he),fun k c v hl=>?_,fun k c sv hl=>?_,fun k c st hl=>?_⟩
  ·grind
  ·grind
  ·subst hl;simp only [X3] at h4;obtain ⟨g1,g2,g3⟩:=h4;refine ⟨by simpa using g1,fun hst=>?_,fun c' s' hl hor=>?_⟩
   ·grind
   ·subst hl;rw [hdl] at g3;simp only [Z8,J4,W7,Bool.false_or] at g3;intro e;subst e;rw [J4] at g3
    grind
def AccD.take {ps:List (Rec T)} {FF:AF T} {Hc:List (Ent T.U)} {recs:List DR} (h:AccD P C ops n B F0 H0 ps FF Hc recs) {o:Oper} (ho:ops[ps.length]?=some o) (hg:match o.guard with
  |none=>True
  |some (g,b)=> ∃rg∈ps,rg.d.j=g/\(∃d,rg.o.dst=some d)/\rg.a=cB T b) {tch:List Nat} (htch: ∀e∈tch,∃f,Hc[e]?=some f/\f.live=true) {F:AF T} (hFk:F=yd8 T FF (zy4 o))
  (hdst:zk1 n o.dst=true) (hns:zd3 o=true) (hpre:zu1 F o=true) (hlt:qc8 Hc.length (vg7 T F)=true) (hlc:((zm8 T tch Hc 0).all fun e=>qc8 Hc.length e.cellIds)=true)
  {a:AV T.U} {H1:List (Ent T.U)} {Fz:AF T} (hstep:zj7 P C o ⟨F,zm8 T tch Hc 0⟩ some (fun _ _=>none)=some ⟨zc2 T Fz o.dst a,H1⟩) (hk:Keeps T (wrF C o ⟨F,zm8 T tch Hc 0⟩) (zm8 T tch Hc 0) H1)
  (hchk:vs3 ((yw5 ops ops.size).getD ps.length []) recs tch (wrF C o ⟨F,zm8 T tch Hc 0⟩) none=true) (hid:((jh4 T (zc2 T Fz o.dst a) o.dst).ids.all (qx0 B Hc.length H1.length ((yw5 ops ops.size).getD ps.length []) recs))=true)
  (hep:wj7 T tch Hc.length H0 (jh4 T (zc2 T Fz o.dst a) o.dst)=true) (hcid:(H1.all fun e=>e.cellIds.all (qx0 B Hc.length H1.length ((yw5 ops ops.size).getD ps.length []) recs))=true):
  ∃r,AccD P C ops n B F0 H0 (ps++ [r]) (zc2 T FF o.dst (jh4 T (zc2 T Fz o.dst a) o.dst)) (yg7 T tch Hc H1 0) (recs++ [⟨ps.length,Hc.length,H1.length,tch,wrF C o ⟨F,zm8 T tch Hc 0⟩,none,gz1 T (zm8 T tch Hc 0) H1⟩])/\r.dead=false/\r.d.j=ps.length/\r.d.wr=wrF C o ⟨F,zm8 T tch Hc 0⟩/\r.loc=none:=by
 let r:Rec T:=⟨o,⟨ps.length,Hc.length,H1.length,tch,wrF C o ⟨F,zm8 T tch Hc 0⟩,none,gz1 T (zm8 T tch Hc 0) H1⟩,false,F,zm8 T tch Hc 0,jh4 T (zc2 T Fz o.dst a) o.dst,H1,false,none⟩
 have hnb:Hc.length<=H1.length:=by have:=hk.len;rwa [zt0] at this
 have hda:zc2 T Fz o.dst (jh4 T (zc2 T Fz o.dst a) o.dst)=zc2 T Fz o.dst a:=by
  cases hd:o.dst with
  |none=>rfl
  |some d=>simp only [zc2,jh4,AF.get,J4]
 have hmask: ∀e,e<Hc.length->(zm8 T tch Hc 0)[e]?=some (if e∈tch then hF zk3 ps (base H0) e else .gone):=by
  intro e he;rw [yp8,h.hc e he,W9];rfl
 have htk:TakeOk P C ops B F0 H0 ps r:=by
  refine ⟨hns,hpre,?_,hk,zt0,hmask,fun e he=>?_,rfl,fun t a ha=>?_,fun t a ha i hi=>zz2 hlt i (qf2 ha i hi),fun f hf i hi=>?_,fun r' hr'=>(je5 h.recs h.tr.dlocs hchk r' hr').imp id fun ⟨q1,q2,q3,q4,_⟩=>⟨q1,q2,q3,q4,fun _ _ _ hl=>(by cases hl),fun _ _ _ hl=>(by cases hl),fun _ _ _ _ _ hl=>(by cases hl)⟩,fun i hi=>?_,hep,fun f hf i hi=>?_⟩
  ·grind
  ·obtain ⟨f,h1,h2⟩:=htch e he;have hlt:=(X2.1 h1).1;rw [h.hc e hlt] at h1;simp only [X0] at h1;exact ⟨hlt,by rw [h1];exact h2⟩
  ·have ha:(yd8 T FF (zy4 o)).get T t=some a:=by rw [<-hFk];exact ha
   obtain ⟨h1,h2⟩:=zz1 ha;exact ⟨h1,by rw [<-h.ff];exact h2⟩
  ·rw [Y8] at hlc;exact zz2 (hlc f hf) i hi
  ·rw [Y8] at hid;exact yp3 h.recs (hid i hi)
  ·rw [Y8] at hcid;have:=hcid f hf;rw [Y8] at this;exact yp3 h.recs (this i hi)
 refine ⟨r,?_,rfl,rfl,rfl,rfl⟩;refine ⟨h.tr.snoc ⟨rfl,ho,hdst,⟨h.le,hnb⟩,h.mono,fun h=>(by cases h),fun h=>(by cases h),fun _ _=>htk,fun _ _ _ h=>(by cases h),rfl,fun k c h=>⟨rfl,rfl,kc3 h⟩,fun _=>?_⟩,?_,fun e he=>?_,by rw [zz3 hnb];exact W8 h.le hnb,fun q hq=>?_,by rw [h.recs];simp [r]⟩
 ·grind
 ·intro t;rw [jz5];show (zc2 T FF o.dst r.a).get T t=(match o.dst with|some d=>(fun t=>if t=d then (match zk3 r.d.j with|true=>some r.a|false=>fF zk3 ps (F0.get T) t) else fF zk3 ps (F0.get T) t)|none=>fF zk3 ps (F0.get T)) t;cases hdst:o.dst with
  |none=>exact h.ff t
  |some d=>
   simp only [zc2,AF.get,zk3];cases hb:Nat.beq d t with
   |true=>have:=X1 hb;subst this;simp
   |false=>rw [if_neg (fun e=>by subst e;simp at hb)];exact h.ff t
 ·rw [zz3 hnb] at he;rw [yv5 hnb,W9,yb8];show _=some ((upR r e).getD (hF zk3 ps (base H0) e));have hr:upR r e=if e<Hc.length then (if e∈tch/\e∈wrF C o ⟨F,zm8 T tch Hc 0⟩ then H1[e]? else none) else H1[e]?:=rfl
  rw [hr];have hH1:H1[e]?=some H1[e]:=Y0 he;by_cases hel:e<Hc.length
  ·rw [if_pos hel,if_pos hel];by_cases ht:e∈tch
   ·rw [if_pos ht];by_cases hw:e∈wrF C o ⟨F,zm8 T tch Hc 0⟩
    ·rw [if_pos ⟨ht,hw⟩,hH1];rfl
    ·rw [if_neg (fun q=>hw q.2),hk.same e (by rw [zt0];exact hel) hw,hmask e hel,if_pos ht];rfl
   ·rw [if_neg ht,if_neg (fun q=>ht q.1),h.hc e hel];rfl
  ·rw [if_neg hel,if_neg hel,hH1];rfl
 ·rw [zz3 hnb];rcases X4.1 hq with hq|hq
  ·exact W8 (h.mono q hq) hnb
  ·simp at hq;subst hq;exact W6 _
def AccD.takeL {ps:List (Rec T)} {FF:AF T} {Hc:List (Ent T.U)} {recs:List DR} (h:AccD P C ops n B F0 H0 ps FF Hc recs) {o:Oper} (ho:ops[ps.length]?=some o) (hg:match o.guard with
  |none=>True
  |some (g,b)=> ∃rg∈ps,rg.d.j=g/\(∃d,rg.o.dst=some d)/\rg.a=cB T b) {tch:List Nat} {F:AF T} (hFk:F=yd8 T FF (zy4 o))
  (hdst:zk1 n o.dst=true) (hns:zd3 o=true) (hpre:zu1 F o=true) {k c:Nat} {sv:Option (AV T.U)} (hl:wl3 P o F (zm8 T tch Hc 0)=some (k,c,sv))
  {a:AV T.U} {H1:List (Ent T.U)} {Fz:AF T} (hstep:zj7 P C o ⟨F,zm8 T tch Hc 0⟩ some (fun _ _=>none)=some ⟨zc2 T Fz o.dst a,H1⟩)
  (hchk:vs3 ((yw5 ops ops.size).getD ps.length []) recs [] [] (some (k,c,sv.isSome))=true) (hid:((jh4 T (zc2 T Fz o.dst a) o.dst).ids.all (qx0 B Hc.length Hc.length ((yw5 ops ops.size).getD ps.length []) recs))=true)
  (hvid:((match sv with|some v=>v.ids|none=> []).all (qx0 B Hc.length Hc.length ((yw5 ops ops.size).getD ps.length []) recs))=true):
  ∃r,AccD P C ops n B F0 H0 (ps++ [r]) (zc2 T FF o.dst (jh4 T (zc2 T Fz o.dst a) o.dst)) (vi6 k c sv (Hc.getD k .gone) Hc) (recs++ [⟨ps.length,Hc.length,Hc.length,[],[],some (k,c,sv.isSome),nk⟩])/\r.dead=false/\r.d.wr= []/\r.loc=some (k,c,sv):=by
 let r:Rec T:=⟨o,⟨ps.length,Hc.length,Hc.length,[],[],some (k,c,sv.isSome),nk⟩,false,F,[],jh4 T (zc2 T Fz o.dst a) o.dst,[],false,some (k,c,sv)⟩
 obtain ⟨x,hx,hxl,_,hst⟩:=ku2 hl hstep;have hda: ∀G:AF T,zc2 T G o.dst (jh4 T (zc2 T Fz o.dst a) o.dst)=zc2 T G o.dst a:=fun G=>by
  cases hd:o.dst with
  |none=>rfl
  |some d=>simp only [zc2,jh4,AF.get,J4]
 have hk:k<Hc.length:=by have:=(X2.1 hx).1;rwa [zt0] at this
 have hxe:x=hF zk3 ps (base H0) k:=by
  rw [yp8,h.hc k hk,W9] at hx;simp only [Z8,X0] at hx;split at hx
  ·exact hx.symm
  ·subst hx;cases hxl
 have hlok:LocOk P C ops B F0 H0 ps r k c sv:=by
  refine ⟨rfl,hns,hpre,hk,rfl,rfl,rfl,fun t a ha=>?_,fun F' H' f hF hf hsim=>?_,fun r' hr'=>?_,fun i hi=>?_,fun v hv i hi=>?_⟩
  ·have ha:(yd8 T FF (zy4 o)).get T t=some a:=by rw [<-hFk];exact ha
   obtain ⟨h1,h2⟩:=zz1 ha;exact ⟨h1,by rw [<-h.ff];exact h2⟩
  ·grind
  ·rcases je5 h.recs h.tr.dlocs hchk r' hr' with q|⟨q1,q2,q3,q4,q5⟩
   ·exact .inl q
   obtain ⟨u1,u2,u3⟩:=q5 k c sv.isSome rfl;refine .inr ⟨fun _ hm=>(by cases hm),fun _ hm=>(by cases hm),fun _ _ _ _ hm=>(by cases hm),fun _ _ _ _ hm=>(by cases hm),fun k0 c0 s0 hl=>?_,fun k0 c0 v0 hl=>?_,fun k0 c0 s0 c' s' hl hl' hor=>?_⟩
   ·grind
   ·grind
   ·grind
  ·rw [Y8] at hid;exact yp3 h.recs (hid i hi)
  ·subst hv;rw [Y8] at hvid;exact yp3 h.recs (hvid i hi)
 have hlen:(vi6 k c sv (Hc.getD k .gone) Hc).length=Hc.length:=by cases sv<;>simp [vi6]
 refine ⟨r,?_,rfl,rfl,rfl⟩;refine ⟨h.tr.snoc ⟨rfl,ho,hdst,⟨h.le,W6 _⟩,h.mono,fun h=>(by cases h),fun h=>(by cases h),fun _ h=>(by cases h),fun k0 c0 s0 hl=>?_,rfl,fun _ _ h=>(by cases h),fun _=>?_⟩,?_,fun e he=>?_,by rw [hlen];exact h.le,fun q hq=>?_,by rw [h.recs];simp [r]⟩
 ·grind
 ·grind
 ·intro t;rw [jz5];show (zc2 T FF o.dst r.a).get T t=(match o.dst with|some d=>(fun t=>if t=d then (match zk3 r.d.j with|true=>some r.a|false=>fF zk3 ps (F0.get T) t) else fF zk3 ps (F0.get T) t)|none=>fF zk3 ps (F0.get T)) t;cases hdst:o.dst with
  |none=>exact h.ff t
  |some d=>
   simp only [zc2,AF.get,zk3];cases hb:Nat.beq d t with
   |true=>have:=X1 hb;subst this;simp
   |false=>rw [if_neg (fun e=>by subst e;simp at hb)];exact h.ff t
 ·rw [hlen] at he;rw [yb8];show _=some (upG r e (hF zk3 ps (base H0) e));have hge:=h.hc e he;cases sv with
  |none=>exact hge
  |some v=>
   show (Hc.set k (yd3 c v (Hc.getD k .gone)))[e]?=some (if e=k then yd3 c v (hF zk3 ps (base H0) e) else hF zk3 ps (base H0) e)
   grind
 ·rw [hlen];rcases X4.1 hq with hq|hq
  ·exact h.mono q hq
  ·simp at hq;subst hq;exact W6 _
def AccD.dies {ps:List (Rec T)} {FF:AF T} {Hc:List (Ent T.U)} {recs:List DR} (hB:H0.length=B) (h:AccD P C ops n B F0 H0 ps FF Hc recs) {o:Oper} (ho:ops[ps.length]?=some o) (hd:zk1 n o.dst=true) (m:Nat) (hm:Hc.length<=m):
  AccD P C ops n B F0 H0 (ps++ [⟨o,⟨ps.length,Hc.length,m,[],[],none,nk⟩,true,[],[],.raw undef,[],true,none⟩]) (zc2 T FF o.dst (.raw undef)) (Hc++List.replicate (m-Hc.length) .gone) (recs++ [⟨ps.length,Hc.length,m,[],[],none,nk⟩]):=by
 let r:Rec T:=⟨o,⟨ps.length,Hc.length,m,[],[],none,nk⟩,true,[],[],.raw undef,[],true,none⟩
 have hup: ∀e,¬jc1 r e:=fun e h=>h.elim (fun h=>h rfl) fun ⟨_,_,h⟩=>by cases h
 have hlen:(Hc++List.replicate (m-Hc.length) Ent.gone).length=m:=by simp;omega
 refine ⟨h.tr.snoc ⟨rfl,ho,hd,⟨h.le,hm⟩,h.mono,fun _=>⟨rfl,rfl⟩,fun _=>rfl,fun h=>(by cases h),fun _ _ _ h=>(by cases h),rfl,fun _ _ h=>(by cases h),fun h=>(by cases h)⟩,?_,fun e he=>?_,by rw [hlen];exact W8 h.le hm,fun q hq=>?_,by rw [h.recs];simp⟩
 ·intro t;rw [jz5];show (zc2 T FF o.dst (.raw undef)).get T t=(match o.dst with|some d=>(fun t=>if t=d then (match zk3 r.d.j with|true=>some r.a|false=>fF zk3 ps (F0.get T) t) else fF zk3 ps (F0.get T) t)|none=>fF zk3 ps (F0.get T)) t;cases hdst:o.dst with
  |none=>exact h.ff t
  |some d=>
   simp only [zc2,AF.get,zk3];cases hb:Nat.beq d t with
   |true=>have:=X1 hb;subst this;simp [r]
   |false=>rw [if_neg (fun e=>by subst e;simp at hb)];exact h.ff t
 ·rw [yb8,zr0 (rs:= [_]) fun r' hr' _=>by simp only [Q5] at hr';subst hr';exact hup e];by_cases hel:e<Hc.length
  ·rw [X8 hel];exact h.hc e hel
  ·rw [Z2 (by omega)];rw [hlen] at he;rw [List.getElem?_replicate,if_pos (by omega),zr0 fun q hq _=>?_]
   ·have:=h.le;unfold base;rw [Y5 (by omega)];rfl
   ·intro hu;obtain ⟨k,hk⟩:=Y9.1 hq;have hqk:=h.tr k q hk;have hmo:=h.mono q hq;have hle:=hqk.le;rcases hu with hu|⟨c,v,hl⟩
    ·unfold upR at hu;split at hu
     ·exact hu rfl
     ·rename_i hs;split at hu
      ·exact hu rfl
      ·rename_i hl;have hne:=(hqk.take hs hl).ne
       grind
    ·have:=(hqk.lok _ _ _ hl).lt;omega
 ·rw [hlen];rcases X4.1 hq with hq|hq
  ·exact W8 (h.mono q hq) hm
  ·simp at hq;subst hq;exact W6 _
def PanI.snoc {ps:List (Rec T)} {j0:Nat} {a:AV T.U} {core:List (Ent T.U)} (h:PanI P C ops B F0 H0 ps j0 a core) {q:Rec T} (hd:q.dead=true->q.d.j=j0\/Tp ops q.d.j j0) (hw:q.skip=false->(q.d.wr≠ []\/ ∃k c v,q.loc=some (k,c,some v))->Tp ops j0 q.d.j):PanI P C ops B F0 H0 (ps++ [q]) j0 a core:=by
 obtain ⟨⟨r0,tch,F,Hm,Hp,wr,h1,h2,h3⟩,h4,h5,h6,h7⟩:=h;have hlt:=(X2.1 h1).1;have ht:(ps++ [q]).take j0=ps.take j0:=Z7 (by omega);refine ⟨⟨r0,tch,F,Hm,Hp,wr,by rw [X8 hlt];exact h1,h2,by rw [ht];exact h3⟩,fun p hp hpd=>?_,fun p hp hs hpw=>?_,h6,h7⟩
 ·grind
 ·grind
def PzOk.snoc {R:Type} {i:AF T} {j:AV T.U->St T->Option R} {ps:List (Rec T)} {f:Option (Nat×Option R)} (h:PzOk P C ops B F0 H0 i j ps f) {q:Rec T} (l:q.dead=false) (m:f≠none->q.skip=false->q.d.wr= []/\ ∀k c v,q.loc≠some (k,c,some v)):PzOk P C ops B F0 H0 i j (ps++ [q]) f:=by
 cases f with
 |none=>
  intro p b;rcases X4.1 b with b|b
  ·exact h p b
  ·simp at b;subst b;exact l
 |some x=>
  obtain ⟨w,y⟩:=x;obtain ⟨a,e,s,t⟩:=h;exact ⟨a,e,s.snoc (fun o=>by rw [l] at o;cases o) fun r g=>(g.elim (fun g=>absurd (m (by simp) r).1 g) fun ⟨k,c,v,u⟩=>absurd u ((m (by simp) r).2 k c v)),t⟩
def AccD.again {ps c e b} (h:AccD P C ops n B F0 H0 ps c e b) {d a} (f:c.get T d=some a):AccD P C ops n B F0 H0 ps ((d,a)::c) e b:=
 ⟨h.tr,fun t=>by
  simp only [AF.get];cases hb:Nat.beq d t with
  |true=>have:=X1 hb;subst this;rw [<-h.ff,f]
  |false=>exact h.ff t,h.hc,h.le,h.mono,h.recs⟩
def vx5 (hB:H0.length=B) (hk:OkD ops n) (hE:zb1 T P C.E) {R:Type} {r:R} {Fp:AF T} {pm:Bool} {Kp:AV T.U->St T->Option R} {K:St T->Option R}: ∀(rest:List Oper) (ps:List (Rec T)) (pz:Option (Nat×Option R)) (FF:AF T) (Hc:List (Ent T.U)) (recs:List DR),ops.toList.drop ps.length=rest->AccD P C ops n B F0 H0 ps FF Hc recs->PzOk P C ops B F0 H0 Fp Kp ps pz->yd2 T P C ops n B H0 Fp pm Kp K rest ps.length pz FF Hc recs=some r->
  ∃rs pz' FF' Hc' recs',AccD P C ops n B F0 H0 rs FF' Hc' recs'/\PzOk P C ops B F0 H0 Fp Kp rs pz'/\rs.length=ops.size/\(match pz' with|none=>K ⟨FF',Hc'⟩|some (_,kf)=>kf)=some r
 | [],ps,pz,FF,Hc,recs,hr,h,hz,hp=>by
  have:ops.size<=ps.length:=by simpa using List.drop_eq_nil_iff.1 hr
  have hle:ps.length<=ops.size:=by
   rcases T5 ps.length with h0|h0
   ·omega
   ·have hlt:ps.length-1<ps.length:=by omega
    have hg:=Y0 hlt;have hrk:=h.tr _ _ hg;have h1:=(Y3.1 hrk.op).1;rw [hrk.idx,Y6] at h1;omega
  exact ⟨ps,pz,FF,Hc,recs,h,hz,by omega,hp⟩
 |o::rest,ps,pz,FF,Hc,recs,hr,h,hz,hp=>by
  have hlt:ps.length<ops.size:=by
   apply Classical.byContradiction;intro hn;rw [N7 (by simpa using hn)] at hr;cases hr
  have ho:ops[ps.length]?=some o:=by
   have:=J8 (l:=ops.toList) (i:=ps.length) (by simpa using hlt);rw [hr] at this;rw [Z6 hlt];have h1:=(List.cons.inj this).1;simpa using h1.symm
  have hr':ops.toList.drop (ps.length+1)=rest:=by
   have:=J8 (l:=ops.toList) (i:=ps.length) (by simpa using hlt);rw [hr] at this;exact (List.cons.inj this).2.symm
  have go: ∀(q:Rec T) (pz:Option (Nat×Option R)) (FF':AF T) (Hc':List (Ent T.U)) (recs':List DR),AccD P C ops n B F0 H0 (ps++ [q]) FF' Hc' recs'->PzOk P C ops B F0 H0 Fp Kp (ps++ [q]) pz->yd2 T P C ops n B H0 Fp pm Kp K rest (ps.length+1) pz FF' Hc' recs'=some r->
    ∃rs pz' FF' Hc' recs',AccD P C ops n B F0 H0 rs FF' Hc' recs'/\PzOk P C ops B F0 H0 Fp Kp rs pz'/\rs.length=ops.size/\(match pz' with|none=>K ⟨FF',Hc'⟩|some (_,kf)=>kf)=some r:=by
   intro q pz FF' Hc' recs' ha hz hq;have hl:(ps++ [q]).length=ps.length+1:=by simp
   rw [<-hl] at hq;exact vx5 hB hk hE rest (ps++ [q]) pz FF' Hc' recs' (by rw [hl];exact hr') ha hz hq
  let Gr:Option (Nat×Option R)->AF T->List (Ent T.U)->List DR->Option R:=fun pz FF Hc recs=>yd2 T P C ops n B H0 Fp pm Kp K rest (ps.length+1) pz FF Hc recs
  have htake: ∀FF,AccD P C ops n B F0 H0 ps FF Hc recs->(match o.guard with
    |none=>True
    |some (g,b)=> ∃rg∈ps,rg.d.j=g/\(∃d,rg.o.dst=some d)/\rg.a=cB T b)->
    vl6 T P C ops n B H0 Fp pm Kp o ps.length pz FF Hc recs Gr=some r-> ∃rs pz' FF' Hc' recs',AccD P C ops n B F0 H0 rs FF' Hc' recs'/\PzOk P C ops B F0 H0 Fp Kp rs pz'/\rs.length=ops.size/\(match pz' with|none=>K ⟨FF',Hc'⟩|some (_,kf)=>kf)=some r:=by
   intro FF h hg hp;unfold vl6 at hp;simp only at hp;generalize hF:yd8 T FF (zy4 o)=F at hp;generalize htch:qx3 T Hc (gp6 T o F Hc++yy0 C o F Hc)=tch at hp;have htl: ∀e∈tch,∃f,Hc[e]?=some f/\f.live=true:=fun e he=>by
    rw [<-htch] at he;have:=(W0.1 he).2;split at this
    ·rename_i f hf;exact ⟨f,hf,this⟩
    ·cases this
   split at hp<;>try (cases hp;done)
   rename_i hb;simp only [X3] at hb;split at hp
   ·rename_i k c sv hl;rcases qj2 hE hp with ⟨Fz,a,H1,h1,h2,h3⟩|⟨a,st',h1,h2,h3⟩
    ·dsimp only at h1;split at h1<;>try (cases h1;done)
     rename_i hc;simp only [X3] at hc;obtain ⟨hlater,hc1,hc2,hc3⟩:=hc;unfold j9 at h1;split at h1<;>try (cases h1;done)
     rename_i hkp;have hc1:=gv9 hc1 hkp;obtain ⟨q,hq,hqd,hqw,hql⟩:=h.takeL ho hg (tch:=tch) hF.symm hb.1 hb.2.1 hb.2.2.1 hl (h3 _ _) hc1 hc2 hc3;refine go q _ _ _ _ hq (hz.snoc hqd fun hne _=>⟨hqw,fun k' c' v' hl'=>?_⟩) h1;rw [hql] at hl';simp only [X0,X7] at hl';obtain ⟨_,_,rfl⟩:=hl';cases pz with
     |none=>exact absurd rfl hne
     |some x=>simp [qp8] at hlater
    ·cases h1
   rcases qj2 hE hp with ⟨Fz,a,H1,h1,h2,h3⟩|⟨a,st',h1,h2,h3⟩
   ·dsimp only at h1;split at h1<;>try (cases h1;done)
    rename_i hc;rw [X3] at hc;obtain ⟨hlater,hc⟩:=hc;simp only [X3] at hc;obtain ⟨q,hq,hqd,hqj,hqw,hql⟩:=h.take ho hg (tch:=tch) htl hF.symm hb.1 hb.2.1 hb.2.2.1 hb.2.2.2.1 hb.2.2.2.2 (h3 _ _) h2 hc.1 hc.2.1.1 hc.2.1.2 hc.2.2;refine go q _ _ _ _ hq (hz.snoc hqd fun hne _=>⟨?_,fun k c v hl=>by rw [hql] at hl;cases hl⟩) h1;rw [hqw];cases pz with
    |none=>exact absurd rfl hne
    |some x=>simpa [qp8] using hlater
   ·split at h1<;>try (cases h1;done)
    rename_i hc;rw [X3] at hc;obtain ⟨hfst,hok⟩:=hc;have hpz:pz=none:=by cases pz with|none=>rfl|some x=>cases hfst
    subst hpz;unfold wm1 at hok;simp only [X3] at hok;obtain ⟨k1,k2,k3,k4⟩:=hok;have hnb:Hc.length<=st'.H.length:=by have:=h2.len;rwa [zt0] at this
    have hd:=h.dies hB ho hb.1 st'.H.length hnb;refine go _ (some (ps.length,Kp a ⟨Fp,yr6 T B tch Hc st'.H⟩)) _ _ _ hd ⟨a,yr6 T B tch Hc st'.H,⟨⟨⟨o,⟨ps.length,Hc.length,st'.H.length,[],[],none,nk⟩,true,[],[],.raw undef,[],true,none⟩,tch,F,zm8 T tch Hc 0,st'.H,_,?_,rfl,?_,hb.2.1,hb.2.2.1,h3 _ _,h2,zt0,fun e he=>?_,fun e he=>?_,rfl,fun t x hx=>?_,fun t x hx i hi=>zz2 hb.2.2.2.1 i (qf2 hx i hi),fun f hf i hi=>?_,?_,fun e he=>?_,?_⟩,fun q hq hqd=>?_,fun q hq hs hw=>?_,fun f hf i hi=>?_,by simpa using k2⟩,rfl⟩ h1
    ·rw [Z2 (W6 _)];simp
    ·show match o.guard with|none=>True|some (g,b)=>_
     split
     ·trivial
     ·rename_i g b hgd;rw [hgd] at hg;simp only at hg;rw [Z7 (W6 _),N9];exact hg
    ·rw [Z7 (W6 _),N9,yp8,h.hc e he,W9];rfl
    ·obtain ⟨f,g1,g2⟩:=htl e he;have hlt:=(X2.1 g1).1;rw [h.hc e hlt] at g1;simp only [X0] at g1;rw [Z7 (W6 _),N9];exact ⟨hlt,by rw [g1];exact g2⟩
    ·rw [<-hF] at hx;obtain ⟨g1,g2⟩:=zz1 hx;rw [Z7 (W6 _),N9];exact ⟨g1,by rw [<-h.ff];exact g2⟩
    ·have:=Y8.1 hb.2.2.2.2 f hf;exact zz2 this i hi
    ·rw [Z7 (W6 _),N9];intro r' hr';rcases je5 h.recs h.tr.dlocs k1 r' hr' with g1|⟨g1,_,g3,_⟩
     ·exact .inl g1
     ·exact .inr ⟨g1,g3⟩
    ·rw [Z7 (W6 _),N9];have hle:=h.le;unfold yr6;rw [Z3,if_pos he,yv5 hnb,if_pos (by omega),W9];split
     ·have hlt:e<st'.H.length:=by omega
      rw [Y0 hlt];rfl
     ·rw [h.hc e (by omega)]
    ·have hle:=h.le;unfold yr6;rw [Y6,zz3 hnb];omega
    ·rcases X4.1 hq with hq|hq
     ·rw [hz q hq] at hqd;cases hqd
     ·simp at hq;subst hq;exact .inl rfl
    ·rcases X4.1 hq with hq|hq
     ·have hm:=Y8.1 k3 q.d (by rw [h.recs];exact U5.2 ⟨q,hq,rfl⟩);rw [J2] at hm;rcases hm with hm|hm
      ·exact zt2 ops.size _ _ (zc9.1 hm)
      ·rw [X3] at hm;rcases hw with hw|⟨k0,c0,v0,hl0⟩
       ·exact absurd (by simpa using hm.1) hw
       ·have h1:=h.tr.dlocs q hq;rw [hl0] at h1;have h2:q.d.isSt=true:=by unfold DR.isSt;rw [h1];rfl
        rw [h2] at hm;simp at hm
     ·simp at hq;subst hq;cases hs
    ·have:=Y8.1 k4 f hf;exact zz2 this i hi
  have hpass: ∀FF,AccD P C ops n B F0 H0 ps FF Hc recs->(match o.guard with
    |none=>False
    |some (g,b)=> ∃rg∈ps,rg.d.j=g/\(∃d,rg.o.dst=some d)/\(rg.a=cB T (!b)\/ ∃u,rg.a=.raw (.tuple u)))->
    jq5 T n o ps.length pz FF Hc recs Gr=some r-> ∃rs pz' FF' Hc' recs',AccD P C ops n B F0 H0 rs FF' Hc' recs'/\PzOk P C ops B F0 H0 Fp Kp rs pz'/\rs.length=ops.size/\(match pz' with|none=>K ⟨FF',Hc'⟩|some (_,kf)=>kf)=some r:=by
   intro FF h hg hp;unfold jq5 at hp;split at hp<;>try (cases hp;done)
   rename_i hd;obtain ⟨q,hq,hqd,hqs⟩:=h.skip ho hd hg;exact go q _ _ _ _ hq (hz.snoc hqd fun _ hs=>(by rw [hqs] at hs;cases hs)) hp
  unfold yd2 at hp;simp only at hp;split at hp
  ·rename_i hdead;have hp:jq5 T n o ps.length pz FF Hc recs Gr=some r:=hp;unfold jq5 at hp;split at hp<;>try (cases hp;done)
   rename_i hd;have hq:=h.dies hB ho hd Hc.length (W6 _);rw [Nat.sub_self,List.replicate_zero,V5] at hq;cases pz with
   |none=>cases hdead
   |some x=>
    obtain ⟨j0,kf⟩:=x;obtain ⟨a,core,g1,g2⟩:=hz;exact go _ (some (j0,kf)) _ _ _ hq ⟨a,core,g1.snoc (fun _=>.inr (zt2 ops.size _ _ (zc9.1 hdead))) fun hs=>(by cases hs),g2⟩ hp
  split at hp
  ·rename_i hg;exact htake FF h (by rw [hg];trivial) hp
  ·rename_i g b hg;split at hp
   ·cases hp
   ·rename_i d hdg;have hgl:=hk.guard ho hg;have hgg:ps[g]?=some ps[g]:=Y0 hgl;have hrk:=h.tr g _ hgg;have hidx:ps[g].d.j=g:=by rw [hrk.idx,Y6];omega
    have hop:=hrk.op;rw [hidx] at hop;have hdst:ps[g].o.dst=some d:=by
     unfold kl1 at hdg;rw [hop] at hdg;exact hdg
    have hff:FF.get T d=some ps[g].a:=by
     rw [h.ff,yl2 (X6 hgg) hdst fun r' hr' hd'=>h.tr.uniq hk hr' (X6 hgg) hd' hdst];rfl
    have hmem:=X6 hgg;split at hp
    ·rename_i c hc;have ha:ps[g].a=cB T c:=by rw [hff] at hc;exact X5 hc
     rcases zo8 hp with ⟨hct,hp⟩|⟨hct,hp⟩
     ·have hct:c=true:=hct;subst hct;have h':=h.again (d:=d) (a:=cB T true) (by rw [hff,ha]);cases b with
      |true=>exact htake _ h' (by rw [hg];exact ⟨_,hmem,hidx,⟨d,hdst⟩,ha⟩) hp
      |false=>exact hpass _ h' (by rw [hg];exact ⟨_,hmem,hidx,⟨d,hdst⟩,.inl ha⟩) hp
     ·have hct:c=false:=hct;subst hct;have h':=h.again (d:=d) (a:=cB T false) (by rw [hff,ha]);cases b with
      |true=>exact hpass _ h' (by rw [hg];exact ⟨_,hmem,hidx,⟨d,hdst⟩,.inl ha⟩) hp
      |false=>exact htake _ h' (by rw [hg];exact ⟨_,hmem,hidx,⟨d,hdst⟩,ha⟩) hp
    ·rename_i u hc;have ha:ps[g].a=.raw (.tuple u):=by rw [hff] at hc;exact X5 hc
     exact hpass FF h (by rw [hg];exact ⟨_,hmem,hidx,⟨d,hdst⟩,.inr ⟨u,ha⟩⟩) hp
    ·cases hp
end
end Go.X
namespace Go.X
open Go.RowKit Go.V
section
variable {T:Tab}
def mkH (N:Nat) (f:Nat->Ent T.U):List (Ent T.U):=(List.range N).map f
def zp4 {N:Nat} {f:Nat->Ent T.U}:(mkH N f).length=N:=by simp [mkH]
def zg3 {N:Nat} {f:Nat->Ent T.U} {e:Nat} {x:Ent T.U}:(mkH N f)[e]?=some x↔e<N/\f e=x:=by
 unfold mkH
 grind
def mkF (f:Nat->Option (AV T.U)):Nat->AF T
 |0=> []
 |n+1=>match f n with|some a=>(n,a)::mkF f n|none=>mkF f n
def zg2 {f:Nat->Option (AV T.U)} {t:Nat} {a:AV T.U}: ∀ {n:Nat},(mkF f n).get T t=some a↔t<n/\f t=some a
 |0=>by simp [mkF,AF.get]
 |n+1=>by
  unfold mkF;by_cases htn:t=n
  ·subst htn;split
   ·rename_i b hb;simp only [AF.get,J4]
    grind
   ·rename_i hb;rw [zg2]
    grind
  ·have hne:Nat.beq n t=false:=by cases hb:Nat.beq n t;rfl;exact absurd (X1 hb).symm htn
   split
   ·simp only [AF.get,hne];rw [zg2];constructor<;>intro h<;>exact ⟨by omega,h.2⟩
   ·rw [zg2];constructor<;>intro h<;>exact ⟨by omega,h.2⟩
def zw8 (a:Act):Nat->PF
 |0=> []
 |n+1=>(n,a.tmps.getD n undef)::zw8 a n
def zm6 {a t v}: ∀ {n},(zw8 a n).get t=some v↔t<n/\a.tmps.getD t undef=v
 |0=>by simp [zw8,PF.get]
 |n+1=>by
  simp only [zw8,PF.get];by_cases b:t=n
  ·subst b;simp [J4]
  ·have c:Nat.beq n t=false:=by cases hb:Nat.beq n t;rfl;exact absurd (X1 hb).symm b
   rw [c];simp only;rw [zm6];constructor<;>intro h<;>exact ⟨by omega,h.2⟩
def ym9 {a n ds} (b:a.tmps.size=n) (c:a.defers=ds):Fr n ds (zw8 a n) a:=⟨b,c,fun i v d=>by
 obtain ⟨e,f⟩:=zm6.1 d;exact ⟨f,e⟩⟩
end
section
variable {T:Tab} {P:Program} {C:Ctx T} {ops:Array Oper} {n B:Nat} {F0:AF T} {H0:List (Ent T.U)} {rs:List (Rec T)}
def TrOk.idx (h:TrOk P C ops n B F0 H0 rs) {j} {r:Rec T} (a:rs[j]?=some r):r.d.j=j:=by
 rw [(h j r a).idx,Y6,J5 (Nat.le_of_lt (X2.1 a).1)]
def zq7 {i j r} (a:i<j) (b:rs[i]?=some r):r∈rs.take j:=X6 (i:=i) (by rw [Z3,if_pos a];exact b)
def TrOk.ord (h:TrOk P C ops n B F0 H0 rs) {i j:Nat} {r q:Rec T} (a:i<j) (b:rs[i]?=some r) (c:rs[j]?=some q):r.d.ne<=q.d.nb:=(h j q c).mono r (zq7 a b)
def zl4 {r:Rec T} {e:Nat} (h:upR r e≠none):(r.skip=false/\r.loc=none)/\((e<r.d.nb/\e∈r.d.tch/\e∈r.d.wr)\/(r.d.nb<=e/\e<r.H1.length)):=by
 unfold upR at h
 grind
def jt3 {d:DR} {e} (h:d.wrE e=false):e∉d.wr/\ ¬(d.nb<=e/\e<d.ne):=by
 unfold DR.wrE at h;simp only [Bool.or_eq_false_iff,Bool.and_eq_false_imp] at h;refine ⟨fun a=>(by rw [zc9.2 a] at h;cases h.1),fun ⟨b,c⟩=>?_⟩;have:=h.2 (W3 b);rw [show Nat.blt e d.ne=true by rw [U7];exact c] at this;cases this
def TrOk.later (h:TrOk P C ops n B F0 H0 rs) {D:Nat->Bool} (hcl: ∀i k,D i=true->Tp ops i k->D k=true) {j:Nat} {r:Rec T} (hr:rs[j]?=some r) (hD:D j=false) {e:Nat} (he:e∈r.d.tch/\e<r.d.nb\/r.d.nb<=e/\e<r.d.ne) {i:Nat} {q:Rec T} (hq:rs[i]?=some q) (hji:j<i) (hu:jc1 q e):D i=false:=by
 cases hDi:D i with
 |false=>rfl
 |true=>
  exfalso;have hqk:=(h i q hq);have hord:=h.ord hji hr hq;have hle:=(h j r hr).le.2;have hnot: ¬Tp ops q.d.j r.d.j:=fun t=>by
   rw [h.idx hq,h.idx hr] at t
   grind
  rcases hu with hu|⟨c,v,hl⟩
  ·obtain ⟨⟨hs,hln⟩,hc⟩:=zl4 hu;rcases (hqk.take hs hln).chk r (zq7 hji hr) with hchk|hchk
   ·exact hnot hchk
   ·rcases hc with ⟨g1,g2,g3⟩|⟨g1,g2⟩
    ·rcases he with ⟨k1,k2⟩|⟨k1,k2⟩
     ·exact hchk.wr e g3 k1
     ·exact (jt3 (hchk.tch e g2)).2 ⟨k1,k2⟩
    ·grind
  ·rcases (hqk.lok _ _ _ hl).chk r (zq7 hji hr) with hchk|hchk
   ·exact hnot hchk
   ·rcases he with ⟨k1,k2⟩|⟨k1,k2⟩
    ·exact hchk.l4 e c v hl k1
    ·rcases hchk.l3 e c _ hl with h3|⟨h3,_⟩
     ·exact (jt3 h3).2 ⟨k1,k2⟩
     ·cases h3
def yn6 {j r} (b:rs[j]?=some r):rs=rs.take j++r::rs.drop (j+1):=by
 obtain ⟨a,c⟩:=X2.1 b;rw [<-c,<-List.drop_eq_getElem_cons a,Q8]
def yf9 {j:Nat} {q:Rec T} (h:q∈rs.drop (j+1)): ∃i,j<i/\rs[i]?=some q:=by
 obtain ⟨k,hk⟩:=Y9.1 h
 grind
def zn0 {j:Nat} {q:Rec T} (h:q∈rs.take j): ∃i,i<j/\rs[i]?=some q:=by
 obtain ⟨k,hk⟩:=Y9.1 h
 grind
def TrOk.touch (h:TrOk P C ops n B F0 H0 rs) {D:Nat->Bool} (u: ∀i k,D i=true->Tp ops i k->D k=true) {j:Nat} {r:Rec T} (b:rs[j]?=some r) (I:r.skip=false) (w:r.loc=none) (E:D j=false) (f: ∀k,Tp ops j k->D k=true) {e:Nat} (s:e∈r.d.tch):
  hF D rs (base H0) e=hF zk3 (rs.take j) (base H0) e:=by
 have x:=h j r b;have g:=x.take I w;have l:=(g.live e s).1
 conv=>lhs;rw [yn6 b]
 rw [yb8];show hF D (rs.drop (j+1)) (match D r.d.j with|true=>_|false=>hF D (rs.take j) (base H0)) e=_;rw [h.idx b,E];simp only;rw [zr0 fun q t m o=>?_]
 ·refine ya3 rfl fun q t o=>?_;obtain ⟨i,F,a⟩:=zn0 t;show D q.d.j=true;rw [h.idx a];rcases g.chk q t with p|p
  ·rw [h.idx b,h.idx a] at p;exact f i p
  ·exfalso;have G:=jt3 (p.tch e s);rcases o with o|⟨c,v,J⟩
   ·obtain ⟨⟨y,z⟩,A⟩:=zl4 o;rcases A with ⟨_,_,K⟩|⟨L,H⟩
    ·exact G.1 K
    ·rw [((h i q a).take y z).ne] at H;exact G.2 ⟨L,H⟩
   ·exact p.l1 e c v J s
 ·obtain ⟨i,F,a⟩:=yf9 t;have:=h.later u b E (.inl ⟨s,l⟩) a F o;rw [h.idx a,this] at m;cases m
def TrOk.laterL (h:TrOk P C ops n B F0 H0 rs) {D:Nat->Bool} (hcl: ∀i k,D i=true->Tp ops i k->D k=true) {j:Nat} {r:Rec T} (hr:rs[j]?=some r) (hD:D j=false) {k c:Nat} {sv:Option (AV T.U)} (hl:r.loc=some (k,c,sv)) {i:Nat} {q:Rec T} (hq:rs[i]?=some q) (hji:j<i) (hDi:D i=true) (hu:jc1 q k): ∃c' v',q.loc=some (k,c',some v')/\c≠c':=by
 have hqk:=h i q hq;have hrl:=(h j r hr).lok _ _ _ hl;have hord:=h.ord hji hr hq;have hnot: ¬Tp ops q.d.j r.d.j:=fun t=>by
  rw [h.idx hq,h.idx hr] at t
  grind
 rcases hu with hu|⟨c',v',hl'⟩
 ·exfalso;obtain ⟨⟨hs,hln⟩,hc⟩:=zl4 hu;rcases (hqk.take hs hln).chk r (zq7 hji hr) with hchk|hchk
  ·exact hnot hchk
  ·rcases hc with ⟨g1,g2,g3⟩|⟨g1,g2⟩
   ·exact hchk.l2 k c sv hl g3
   ·have:=hrl.lt;have:=hrl.ne;omega
 ·rcases (hqk.lok _ _ _ hl').chk r (zq7 hji hr) with hchk|hchk
  ·exact absurd hchk hnot
  ·exact ⟨c',v',hl',hchk.l5 k c' _ c sv hl' hl (.inl rfl)⟩
def TrOk.touchL (h:TrOk P C ops n B F0 H0 rs) {D:Nat->Bool} (hcl: ∀i k,D i=true->Tp ops i k->D k=true) {j:Nat} {r:Rec T} (hr:rs[j]?=some r) {k c:Nat} {sv:Option (AV T.U)} (hl:r.loc=some (k,c,sv)) (hD:D j=false) (hpre: ∀k,Tp ops j k->D k=true):
  simE c (hF D rs (base H0) k) (hF zk3 (rs.take j) (base H0) k):=by
 have hrl:=(h j r hr).lok _ _ _ hl;have e1:hF D rs (base H0) k=hF D (rs.drop (j+1)) (hF D (rs.take j) (base H0)) k:=by
  conv=>lhs;rw [yn6 hr]
  rw [yb8];show hF D (rs.drop (j+1)) (match D r.d.j with|true=>_|false=>_) k=_;rw [h.idx hr,hD]
 have e2:hF zk3 (rs.take j) (base H0) k=hF (fun _=>false) (rs.drop (j+1)) (hF zk3 (rs.take j) (base H0)) k:=(zr0 fun _ _ hq=>by cases hq).symm;rw [e1,e2];refine vn0 (vt1 (.inl rfl) fun i q hqt hu=>?_) fun q hq hu=>?_
 ·have hij:i<j:=by
   have:=(X2.1 hqt).1;rw [Y6] at this;omega
  have hqi:rs[i]?=some q:=by rwa [Z3,if_pos hij] at hqt
  have hq:=zq7 hij hqi;rcases hrl.chk q hq with hc|hc
  ·rw [h.idx hr,h.idx hqi] at hc;left;left;rw [h.idx hqi,hpre i hc];rfl
  ·rcases hu with hu|⟨c',v',hl'⟩
   ·obtain ⟨⟨hqs,hql⟩,hcc⟩:=zl4 hu;rcases hc.l3 k c sv hl with h3|⟨h3,h4⟩
    ·exfalso;have hw:=jt3 h3;rcases hcc with ⟨_,_,g3⟩|⟨g1,g2⟩
     ·exact hw.1 g3
     ·rw [((h i q hqi).take hqs hql).ne] at g2;exact hw.2 ⟨g1,g2⟩
    ·right;obtain ⟨_,_,x,y,m1,m2,m3,m4⟩:=(h i q hqi).kp k c h4;have htq:=(h i q hqi).take hqs hql;have hlt:k<q.d.nb:=by rw [<-htq.hlen];exact (X2.1 m1).1
     have hx:=htq.hm k hlt;rw [m1] at hx;simp only [X0] at hx;have hmem:k∈q.d.tch/\x=hF zk3 (rs.take i) (base H0) k:=by
      split at hx
      ·rename_i hm;exact ⟨hm,hx⟩
      ·subst hx;cases m3
     refine ⟨hql,rfl,y,?_,?_⟩
     ·rcases hcc with ⟨g1,g2,g3⟩|⟨g1,_⟩
      ·unfold upR
       grind
      ·omega
     ·rw [List.take_take,J5 (Nat.le_of_lt hij),<-hmem.2];exact m4
   ·exact .inl (.inr ⟨c',v',hl',hc.l5 k c sv c' _ hl hl' (.inr rfl)⟩)
 ·obtain ⟨i,hi,hqi⟩:=yf9 hq;cases hDi:D q.d.j with
  |false=>exact .inl rfl
  |true=>
   rw [h.idx hqi] at hDi;obtain ⟨c',v',h1,h2⟩:=h.laterL hcl hr hD hl hqi hi hDi hu;exact .inr ⟨c',v',h1,Ne.symm h2⟩
def zk2 (D:Nat->Bool) (j:Nat):Nat->Bool:=fun i=>if i=j then true else D i
def TrOk.put (h:TrOk P C ops n B F0 H0 rs) {D:Nat->Bool} (o: ∀i k,D i=true->Tp ops i k->D k=true) {j:Nat} {r:Rec T} (g:rs[j]?=some r) (u:D j=false) (e:Nat):
  hF (zk2 D j) rs (base H0) e=upG r e (hF D rs (base H0) e):=by
 have p: ∀(i:Nat) (q:Rec T),rs[i]?=some q->i≠j->zk2 D j q.d.j=D q.d.j:=fun i q b l=>by
  unfold zk2;rw [h.idx b,if_neg l]
 have I:zk2 D j r.d.j=true:=by unfold zk2;rw [h.idx g,if_pos rfl]
 have w:hF (zk2 D j) (rs.take j) (base H0) e=hF D (rs.take j) (base H0) e:=ya3 rfl fun q b _=>by
  obtain ⟨i,l,a⟩:=zn0 b;exact p i q a (by omega)
 have lhs:hF (zk2 D j) rs (base H0) e=hF (zk2 D j) (rs.drop (j+1)) (fun e=>upG r e (hF (zk2 D j) (rs.take j) (base H0) e)) e:=by
  conv=>lhs;rw [yn6 g]
  rw [yb8];show hF (zk2 D j) (rs.drop (j+1)) (match zk2 D j r.d.j with|true=>_|false=>_) e=_;rw [I]
 have rhs:hF D rs (base H0) e=hF D (rs.drop (j+1)) (hF D (rs.take j) (base H0)) e:=by
  conv=>lhs;rw [yn6 g]
  rw [yb8];show hF D (rs.drop (j+1)) (match D r.d.j with|true=>_|false=>_) e=_;rw [h.idx g,u]
 have y: ∀q∈rs.drop (j+1),zk2 D j q.d.j=D q.d.j:=fun q b=>by
  obtain ⟨i,l,a⟩:=yf9 b;exact p i q a (by omega)
 have s:hF (zk2 D j) rs (base H0) e=hF D (rs.drop (j+1)) (fun e=>upG r e (hF (zk2 D j) (rs.take j) (base H0) e)) e:=by
  rw [lhs];exact ya3 rfl fun q b _=>y q b
 rw [s,rhs];by_cases t:jc1 r e
 ·rcases t with t|⟨c,v,F⟩
  ·obtain ⟨⟨J,z⟩,K⟩:=zl4 t;have G: ∀q∈rs.drop (j+1),D q.d.j=true-> ¬jc1 q e:=fun q b f m=>by
    obtain ⟨i,l,a⟩:=yf9 b;have L:e∈r.d.tch/\e<r.d.nb\/r.d.nb<=e/\e<r.d.ne:=by
     rcases K with ⟨A,E,_⟩|⟨A,E⟩
     ·exact .inl ⟨E,A⟩
     ·exact .inr ⟨A,by rw [<-((h j r g).take J z).ne];exact E⟩
    have:=h.later o g u L a l m;rw [h.idx a,this] at f;cases f
   rw [zr0 G,zr0 G,w]
  ·have H: ∀x,upG r e x=yd3 c v x:=fun x=>by unfold upG;rw [F];simp only [if_true]
   rw [H];refine vt0 (by rw [H,w]) fun q b f m=>?_;obtain ⟨i,l,a⟩:=yf9 b;rw [h.idx a] at f;exact h.laterL o g u F a l f m
 ·rw [yu2 t];exact ya3 (by rw [yu2 t];exact w) fun q b _=>rfl
def qc6 {U:Nat->Type}:Ent U->Bool| .row _ _ _=>true|_=>false
def vk9 {c:Nat} {v:AV T.U} {x:Ent T.U}:qc6 (yd3 c v x)=qc6 x:=by
 cases x with
 |drow e d fe xs op=>cases op with
  |none=>rfl
  |some p=>obtain ⟨a,cs⟩:=p;rfl
 |_=>rfl
def TrOk.rowFrom (h:TrOk P C ops n B F0 H0 rs) {y:Nat} (hy:y<B): ∀(m:Nat) (D:Nat->Bool),qc6 (hF D (rs.take m) (base H0) y)=true->qc6 (base H0 y)=true
 |0,D,hr=>hr
 |m+1,D,hr=>by
  by_cases hm:m<rs.length
  ·rw [List.take_succ_eq_append_getElem hm,yb8] at hr;have hg:rs[m]?=some rs[m]:=Y0 hm;generalize rs[m]=r at hg hr;have hr:qc6 ((match D r.d.j with|true=>fun e=>upG r e (hF D (rs.take m) (base H0) e)|false=>hF D (rs.take m) (base H0)) y)=true:=hr;cases hD:D r.d.j with
   |false=>rw [hD] at hr;exact h.rowFrom hy m D hr
   |true=>
    rw [hD] at hr;have hr:qc6 (upG r y (hF D (rs.take m) (base H0) y))=true:=hr;unfold upG at hr;split at hr
    ·split at hr
     ·rw [vk9] at hr;exact h.rowFrom hy m D hr
     ·exact h.rowFrom hy m D hr
    ·cases hu:upR r y with
     |none=>rw [hu] at hr;exact h.rowFrom hy m D hr
     |some x=>
      rw [hu] at hr;have hrk:=h m r hg;obtain ⟨⟨hs,hln⟩,hc⟩:=zl4 (by rw [hu];simp:upR r y≠none);have htk:=hrk.take hs hln;have hle:=hrk.le.1;rcases hc with ⟨g1,g2,g3⟩|⟨g1,_⟩
      ·have hx:r.H1[y]?=some x:=by
        unfold upR at hu
        grind
       have hr:qc6 x=true:=hr;cases x with
       |row e t xs=>
        obtain ⟨ys,h1⟩:=htk.keeps.row y e t xs (by rw [htk.hlen];exact g1) hx;rw [htk.hm y g1,if_pos g2] at h1;refine h.rowFrom hy m zk3 ?_;rw [X5 h1];rfl
       |_=>cases hr
      ·omega
  ·rw [Q4 (by omega)] at hr;refine h.rowFrom hy m D ?_;rw [Q4 (by omega)];exact hr
def TrOk.free (h:TrOk P C ops n B F0 H0 rs) (E:H0.length=B) {D:Nat->Bool} (l: ∀i k,D i=true->Tp ops i k->D k=true) {j:Nat} {r:Rec T} (m:rs[j]?=some r) (p:D j=false) {e:Nat} (s:r.d.nb<=e) (t:e<r.d.ne):hF D rs (base H0) e=.gone:=by
 have u:=(h j r m).le;rw [zr0 fun q w b g=>?_]
 ·unfold base;rw [Y5 (by omega)];rfl
 ·obtain ⟨i,a⟩:=Y9.1 w;rw [h.idx a] at b;rcases N2 i j with f|rfl|f
  ·have F:=h.ord f a m;have:=(h i q a).le.2;rcases g with g|⟨c,v,x⟩
   ·obtain ⟨⟨y,o⟩,z⟩:=zl4 g;rcases z with ⟨G,_⟩|⟨_,A⟩
    ·omega
    ·rw [((h i q a).take y o).ne] at A;omega
   ·have:=((h i q a).lok _ _ _ x).lt;omega
  ·rw [p] at b;cases b
  ·have:=h.later l m p (.inr ⟨s,t⟩) a f g;rw [this] at b;cases b
def TrOk.okId (h:TrOk P C ops n B F0 H0 rs) {D:Nat->Bool} (m: ∀i k,D i=true->Tp ops i k->D k=true) {j:Nat} {r:Rec T} (o:rs[j]?=some r) (u:D j=false) {i:Nat} {q:Rec T} (c:rs[i]?=some q) (a:D i=true) {x:Nat} (s:gu5 B (rs.take i) ops q x):x<r.d.nb\/r.d.ne<=x:=by
 have v:=(h j r o).le;have e: ∀(i:Nat) (q:Rec T),rs[i]?=some q->D i=true->q.d.nb<=x->x<q.d.ne->x<r.d.nb\/r.d.ne<=x:=by
  intro i q c a g l;rcases N2 i j with b|rfl|b
  ·have:=h.ord b c o;exact .inl (by omega)
  ·rw [u] at a;cases a
  ·have:=h.ord b o c;exact .inr (by omega)
 rcases s with s|⟨g,l⟩|⟨w,p,g,l,t⟩
 ·exact .inl (by omega)
 ·exact e i q c a g l
 ·obtain ⟨k,y,f⟩:=zn0 p;rw [h.idx c,h.idx f] at t;exact e k w f (m i k a t) g l
def TrOk.fid (E:OkD ops n) (h:TrOk P C ops n B F0 H0 rs) (g: ∀t a,F0.get T t=some a-> ∀i∈a.ids,i<B) {D:Nat->Bool} (l: ∀i k,D i=true->Tp ops i k->D k=true) {j:Nat} {r:Rec T} (s:rs[j]?=some r) (z:D j=false) {t:Nat} {a:AV T.U} (e:fF D rs (F0.get T) t=some a): ∀x∈a.ids,x<r.d.nb\/r.d.ne<=x:=by
 intro x f;by_cases A: ∃q∈rs,q.o.dst=some t
 ·obtain ⟨q,m,u⟩:=A;rw [yl2 m u fun F v w=>h.uniq E v m w u] at e;obtain ⟨i,b⟩:=Y9.1 m;rw [h.idx b] at e;cases hDi:D i with
  |false=>
   rw [hDi] at e;have:=g t a e x f;have y:=(h j r s).le;exact .inl (by omega)
  |true=>
   rw [hDi] at e;simp only [X0] at e;subst e;cases hs:q.skip with
   |true=>rw [((h i q b).skip hs).1] at f;cases f
   |false=>
    cases hl:q.loc with
    |none=>exact h.okId l s z b hDi (((h i q b).take hs hl).ids x f)
    |some p=>obtain ⟨k,c,G⟩:=p;exact h.okId l s z b hDi (((h i q b).lok _ _ _ hl).ids x f)
 ·rw [zl0 fun q m u=>A ⟨q,m,u⟩] at e;have:=g t a e x f;have y:=(h j r s).le;exact .inl (by omega)
def gh8 {D:Nat->Bool} {e x:Nat}: ∀ {rs:List (Rec T)} {f:Nat->Ent T.U},x∈(hF D rs f e).cellIds->x∈(f e).cellIds\/ ∃r∈rs,D r.d.j=true/\((∃y,upR r e=some y/\x∈y.cellIds)\/ ∃c v,r.loc=some (e,c,some v)/\x∈v.ids)
 | [],f,h=>.inl h
 |r::rs,f,h=>by
  rcases gh8 (rs:=rs) (f:=match D r.d.j with|true=>fun e=>upG r e (f e)|false=>f) h with h1|⟨q,h1,h2,h3⟩
  ·cases hD:D r.d.j with
   |false=>rw [hD] at h1;exact .inl h1
   |true=>
    rw [hD] at h1;have h1:x∈(upG r e (f e)).cellIds:=h1;unfold upG at h1;split at h1
    ·rename_i k c v hl;split at h1
     ·rename_i he;subst he;rcases ge9 h1 with h1|h1
      ·exact .inl h1
      ·grind
     ·exact .inl h1
    ·cases hu:upR r e with
     |none=>rw [hu] at h1;exact .inl h1
     |some y=>rw [hu] at h1;exact .inr ⟨r,U6 ..,hD,.inl ⟨y,hu,h1⟩⟩
  ·grind
def wi6 {r:Rec T} {e:Nat} {x:Ent T.U} (h:upR r e=some x):(r.skip=false/\r.loc=none)/\x∈r.H1:=by
 obtain ⟨hs,_⟩:=zl4 (by rw [h];simp:upR r e≠none);refine ⟨hs,?_⟩;unfold upR at h
 grind
def TrOk.hid (h:TrOk P C ops n B F0 H0 rs) (hH0: ∀f∈H0,∀i∈f.cellIds,i<B) {D:Nat->Bool} (hcl: ∀i k,D i=true->Tp ops i k->D k=true) {j:Nat} {r:Rec T} (hr:rs[j]?=some r) (hD:D j=false) {e:Nat}: ∀x∈(hF D rs (base H0) e).cellIds,x<r.d.nb\/r.d.ne<=x:=by
 intro x hx;rcases gh8 hx with hx|⟨q,hq,hDq,h1⟩
 ·unfold base at hx;have hle:=(h j r hr).le;cases hg:H0[e]? with
  |none=>rw [hg] at hx;cases hx
  |some f=>
   grind
 ·obtain ⟨i,hqi⟩:=Y9.1 hq;rw [h.idx hqi] at hDq;rcases h1 with ⟨y,h1,hx⟩|⟨c,v,hl,hx⟩
  ·obtain ⟨hs,hm⟩:=wi6 h1;exact h.okId hcl hr hD hqi hDq (((h i q hqi).take hs.1 hs.2).cids _ hm x hx)
  ·exact h.okId hcl hr hD hqi hDq (((h i q hqi).lok _ _ _ hl).vids v rfl x hx)
end
end Go.X
namespace Go.X
open Go.RowKit Go.V
section
variable {T:Tab} {P:Program} {C:Ctx T} {ops:Array Oper} {n B:Nat} {F0:AF T} {H0:List (Ent T.U)} {rs:List (Rec T)}
variable {w w':World} {S:List Nat} {φ:Nat->RA} {w0:World} {S0:Ow} {Q:Exit->Act->World->Prop} {ds:List Deferred}
def StD (rs:List (Rec T)) (F0:AF T) (H0:List (Ent T.U)) (n N:Nat) (D:Nat->Bool):St T:=⟨mkF (fF D rs (F0.get T)) n,mkH N (hF D rs (base H0))⟩
def TrOk.slotD (u:OkD ops n) (h:TrOk P C ops n B F0 H0 rs) {D j r} (A:rs[j]?=some r) (M:rs.length=ops.size) (v: ∀k,Tp ops j k->D k=true) (E: ∀i k,D i=true->Tp ops i k->D k=true) (O:D j=false) {t} (R:t∈zy4 r.o++yn0 ops r.o):fF D rs (F0.get T) t=fF zk3 (rs.take j) (F0.get T) t:=by
 have m:=(h j r A).op;rw [h.idx A] at m;rcases u.reads m R with ⟨k,x,F⟩|G
 ·have y:=Tp.lt u.back (.one x) (Y3.1 m).1;have H:k<rs.length:=by have:=(X2.1 A).1;omega
  have z:=Y0 H;have g:=(h k _ z).op;rw [h.idx z] at g;have a:rs[k].o.dst=some t:=by rw [<-zl2 g];exact F
  have I:=X6 z;rw [yl2 I a fun q b c=>h.uniq u b I c a,yl2 (zq7 y z) a fun q b c=>h.uniq u (J6 b) I c a,h.idx z,v k (.one x)];rfl
 ·have l: ∀q∈rs,q.o.dst=some t-> ∃i,rs[i]?=some q/\i<ops.size/\Tp ops i j:=fun q b a=>by
   obtain ⟨i,p⟩:=Y9.1 b;have d:=(h i q p).op;rw [h.idx p] at d;have f:=(Y3.1 d).1;exact ⟨i,p,f,G i f (by rw [zl2 d];exact a)⟩
  have s:fF zk3 (rs.take j) (F0.get T) t=F0.get T t:=zl0 fun q b a=>by
   obtain ⟨k,y,J⟩:=zn0 b;obtain ⟨i,p,f,K⟩:=l q (J6 b) a;have e:i=k:=by rw [<-h.idx p,<-h.idx J]
   subst e;have:=Tp.lt u.back K f;omega
  rw [s];by_cases N: ∃q∈rs,q.o.dst=some t
  ·obtain ⟨q,b,a⟩:=N;obtain ⟨i,p,_,K⟩:=l q b a;rw [yl2 b a fun U L c=>h.uniq u L b c a,h.idx p];cases hDi:D i with
   |false=>rfl
   |true=>have:=E i j hDi K;rw [O] at this;cases this
  ·exact zl0 fun q b a=>N ⟨q,b,a⟩
def TrOk.slotPut (l:OkD ops n) (h:TrOk P C ops n B F0 H0 rs) {D j r} (k:rs[j]?=some r) (t):fF (zk2 D j) rs (F0.get T) t=if r.o.dst=some t then some r.a else fF D rs (F0.get T) t:=by
 by_cases m: ∃q∈rs,q.o.dst=some t
 ·obtain ⟨q,d,e⟩:=m;rw [yl2 d e fun p f b=>h.uniq l f d b e,yl2 d e fun p f b=>h.uniq l f d b e];obtain ⟨i,c⟩:=Y9.1 d;by_cases g:i=j
  ·subst g;rw [k] at c;have:=X5 c;subst this;rw [if_pos e];unfold zk2;rw [h.idx k,if_pos rfl]
  ·have:r.o.dst≠some t:=fun b=>g (by
    have:=h.uniq l d (X6 k) e b;subst this;rw [<-h.idx c,<-h.idx k])
   rw [if_neg this];unfold zk2;rw [h.idx c,if_neg g]
 ·have none: ∀q∈rs,q.o.dst≠some t:=fun q d e=>m ⟨q,d,e⟩;rw [zl0 none,zl0 none,if_neg (none r (X6 k))]
def jn2 {a:Act} {dst:Option Tmp} {v:Value} {n:Nat} (hs:a.tmps.size=n) (hd:zk1 n dst=true):(a.put dst v).tmps.size=n/\(a.put dst v).defers=a.defers/\ ∀t,t<n->(a.put dst v).tmps.getD t undef=if dst=some t then v else a.tmps.getD t undef:=by
 cases dst with
 |none=>exact ⟨hs,rfl,fun t _=>by rw [if_neg (by simp)];rfl⟩
 |some d=>
  have hdn:d<n:=by simpa [zk1,U7] using hd
  refine ⟨by simpa [Act.put] using hs,rfl,fun t ht=>?_⟩;simp only [Act.put];rw [Y7,Array.getElem?_setIfInBounds,Y7]
  grind
def vd4 (hk:OkD ops n) (h:TrOk P C ops n B F0 H0 rs) {D:Nat->Bool} {j N:Nat} {r:Rec T} (hr:rs[j]?=some r) {H2:List (Ent T.U)} {a:Act} {v:Value} (hsz:a.tmps.size=n) (hs:Sim T w0 S0 ⟨mkF (fF D rs (F0.get T)) n,H2⟩ (zw8 a n) w S φ)
  (hv:r.o.dst≠none->VR T w S φ r.a v/\okA H2 r.a):Sim T w0 S0 ⟨mkF (fF (zk2 D j) rs (F0.get T)) n,H2⟩ (zw8 (a.put r.o.dst v) n) w S φ:=by
 obtain ⟨_,_,hget⟩:=jn2 (v:=v) hsz (h j r hr).dst;refine ⟨fun t b hb=>?_,fun t b hb=>?_,hs.chg,hs.own,hs.ex,hs.lives,hs.pins,hs.ents,hs.eids,hs.apart⟩
 ·obtain ⟨ht,hb⟩:=zg2.1 hb;rw [h.slotPut hk hr] at hb;split at hb
  ·rename_i hd;simp only [X0] at hb;subst hb;exact ⟨v,zm6.2 ⟨ht,by rw [hget t ht,if_pos hd]⟩,(hv (by rw [hd];simp)).1⟩
  ·rename_i hd;obtain ⟨u,hu,hur⟩:=hs.fr t b (zg2.2 ⟨ht,hb⟩);exact ⟨u,zm6.2 ⟨ht,by rw [hget t ht,if_neg hd];exact (zm6.1 hu).2⟩,hur⟩
 ·obtain ⟨ht,hb⟩:=zg2.1 hb;rw [h.slotPut hk hr] at hb;split at hb
  ·grind
  ·exact hs.ids t b (zg2.2 ⟨ht,hb⟩)
def zbh3 (hk:OkD ops n) (hE:zb1 T P C.E) (h:TrOk P C ops n B F0 H0 rs) (hlen:rs.length=ops.size) (hB:H0.length=B) (hF0: ∀t a,F0.get T t=some a->t<n/\ ∀i∈a.ids,i<B) (hH0: ∀f∈H0,∀i∈f.cellIds,i<B) (hpin:S0.pin.length<=B)
  {N} (hN: ∀q∈rs,q.d.ne<=N) {D} (I: ∀i k,D i=true->Tp ops i k->D k=true) {j r} (W:rs[j]?=some r) (hD:D j=false) (hpre: ∀k,Tp ops j k->D k=true) (s:r.skip=false) (p:r.loc=none)
  {a} (hsz:a.tmps.size=n) (hdf:a.defers=ds) (hs:Sim T w0 S0 (StD rs F0 H0 n N D) (zw8 a n) w S φ):
  r.o.wp P a w (fun a' w'=>a'.tmps.size=n/\a'.defers=ds/\ ∃S1 φ1,Sim T w0 S0 (StD rs F0 H0 n N (zk2 D j)) (zw8 a' n) w' S1 φ1) Q:=by
 have A:=h j r W;have g:=A.take s p;have hnN:=hN r (X6 W);have G: ∀e∈r.d.tch,hF D rs (base H0) e=hF zk3 (rs.take j) (base H0) e:=fun e J=>h.touch I W s p hD hpre J;have K: ∀(e:Nat) (f:Ent T.U),r.Hm[e]?=some f->f=.gone\/(e∈r.d.tch/\(mkH N (hF D rs (base H0)))[e]?=some f):=by
  intro e f m;have l:=(X2.1 m).1;rw [g.hlen] at l;rw [g.hm e l] at m;simp only [X0] at m;split at m
  ·rename_i J;exact .inr ⟨J,zg3.2 ⟨by have:=A.le.2;omega,by rw [G e J];exact m⟩⟩
  ·exact .inl m.symm
 have hsub:Sim T w ⟨r.d.tch.flatMap fun e=>(φ e).all,S,(List.range r.d.nb).map φ⟩ ⟨r.F,r.Hm⟩ (zw8 a n) w S φ:=by
  have hfr: ∀t x,r.F.get T t=some x->(mkF (fF D rs (F0.get T)) n).get T t=some x:=by
   intro t x z;obtain ⟨h1,H⟩:=g.fr t x z;have X:=h.slotD hk W hlen hpre I hD (t:=t) (X4.2 (.inl h1));refine zg2.2 ⟨?_,by rw [X];exact H⟩;by_cases O: ∃q∈rs.take j,q.o.dst=some t
   ·obtain ⟨q,hq,Y⟩:=O;obtain ⟨i,_,hqi⟩:=zn0 hq;have hopi:=(h i q hqi).op;exact hk.dst q.d.j t (Y3.1 hopi).1 (by rw [zl2 hopi];exact Y)
   ·rw [zl0 fun q hq Y=>O ⟨q,hq,Y⟩] at H;exact (hF0 t x H).1
  refine ⟨fun t x z=>hs.fr t x (hfr t x z),fun t x z=>⟨fun i hi=>by simp only [g.hlen];exact g.fid t x z i hi,?_⟩,Chg.refl _ _,fun b hb=>⟨.inl hb,(hs.own b hb).2⟩,fun b hb _ _=>hb,fun e f m hl x z=>?_,fun k q hq=>?_,fun e f m=>?_,fun e f m i hi=>by simp only [g.hlen];exact g.eids f (X6 m) i hi,fun i k f f' m hf' hl hl' hik x y z hy=>?_⟩
  ·obtain ⟨_,H⟩:=hs.ids t x (hfr t x z);cases x with
   |eptr y sz k c=>
    intro e1 t1 xs hxs;rcases K y _ hxs with X|⟨_,X⟩
    ·cases X
    ·exact H e1 t1 xs X
   |_=>trivial
  ·rcases K e f m with rfl|⟨h1,H⟩
   ·cases hl
   ·exact ⟨(hs.lives e f H hl x z).1,.inl (V4.2 ⟨e,h1,zu8.2 ⟨x,z,rfl⟩⟩)⟩
  ·have l:=(X2.1 hq).1;simp at l;simp [l] at hq;exact ⟨.of hq,by simp only [g.hlen];exact l⟩
  ·rcases K e f m with rfl|⟨_,H⟩
   ·trivial
   ·exact hs.ents e f H
  ·rcases K i f m with rfl|⟨_,H⟩
   ·cases hl
   ·rcases K k f' hf' with rfl|⟨_,h2'⟩
    ·cases hl'
    ·exact hs.apart i k f f' H h2' hl hl' hik x y z hy
 obtain ⟨Fz,hstep⟩:=g.step;have hop:=qg6 (Q:=Q) (ds:=ds) hE hstep A.dst g.ns g.pre hsub (ym9 hsz hdf);refine Oper.wp_mono (fun a' w' hX=>?_) hop;obtain ⟨F1,⟨S1,φ1,hst⟩,hfr1,v,rfl⟩:=hX;obtain ⟨hsz',hdf',hget⟩:=jn2 (v:=v) hsz A.dst;refine ⟨hsz',by rw [hdf',hdf],?_⟩;have hup: ∀e,hF (zk2 D j) rs (base H0) e=(upR r e).getD (hF D rs (base H0) e):=fun e=>(h.put I W hD e).trans (jx9 p ..);have hnb:=A.le.2;obtain ⟨φ2,g1,g2⟩:=hs.frame2 (tch:=r.d.tch) (nb:=r.d.nb) hst (by rw [g.ne];exact hnb) (by rw [zp4,g.ne];exact hnN) (by have:=A.le.1;omega)
  (fun e J=>⟨(g.live e J).1,_,zg3.2 ⟨by have:=(g.live e J).1;omega,rfl⟩,by rw [G e J];exact (g.live e J).2⟩)
  (fun e h1 H=>zg3.2 ⟨by rw [g.ne] at H;omega,h.free hB I W hD h1 (by rw [<-g.ne];exact H)⟩) (H2:=mkH N (hF (zk2 D j) rs (base H0))) (by rw [zp4,zp4])
  (fun e f m=>by
   obtain ⟨J,m⟩:=zg3.1 m;rw [hup] at m;by_cases L:e∈r.d.tch
   ·refine .inl ⟨L,?_⟩;have l:=(g.live e L).1;have R:r.H1[e]?=some (r.H1[e]'(by rw [g.ne];omega)):=Y0 _;by_cases O:e∈r.d.wr
    ·have:upR r e=r.H1[e]?:=by unfold upR;rw [s,p];simp only;rw [if_pos l,if_pos ⟨L,O⟩]
     rw [this,R,V0] at m;rw [R,m]
    ·have:upR r e=none:=by unfold upR;rw [s,p];simp only;rw [if_pos l,if_neg (fun q=>O q.2)]
     rw [this,Option.getD_none] at m;rw [g.keeps.same e (by rw [g.hlen];exact l) O,g.hm e l,if_pos L,<-G e L,m]
   ·by_cases hin:r.d.nb<=e/\e<r.d.ne
    ·refine .inr (.inl ⟨hin.1,?_⟩);have R:r.H1[e]?=some (r.H1[e]'(by rw [g.ne];exact hin.2)):=Y0 _;have:upR r e=r.H1[e]?:=by unfold upR;rw [s,p];simp only;rw [if_neg (by omega)]
     rw [this,R,V0] at m;rw [R,m]
    ·have:upR r e=none:=by
      unfold upR;rw [s,p];simp only;by_cases l:e<r.d.nb
      ·rw [if_pos l,if_neg (fun q=>L q.1)]
      ·rw [if_neg l,Y5 (by rw [g.ne];omega)]
     rw [this,Option.getD_none] at m;exact .inr (.inr ⟨L,by rw [g.ne];omega,zg3.2 ⟨J,m⟩⟩))
  (fun e ty t ys J hy=>by
   have l:=(g.live e J).1;obtain ⟨xs,z⟩:=g.keeps.row e ty t ys (by rw [g.hlen];exact l) hy;rcases K e _ z with X|⟨_,X⟩
   ·cases X
   ·exact ⟨xs,X⟩)
  (fun t x z=>by
   rw [g.ne];exact h.fid hk (fun t a ha=>(hF0 t a ha).2) I W hD (zg2.1 z).2)
  (fun e f m _=>by
   rw [g.ne];obtain ⟨_,rfl⟩:=zg3.1 m;exact h.hid hH0 I W hD)
 refine ⟨S1,φ2,vd4 hk h (N:=N) W hsz g1 fun hdn=>?_⟩;obtain ⟨d,Y⟩: ∃d,r.o.dst=some d:=by
  cases Y:r.o.dst with
  |none=>exact absurd Y hdn
  |some d=>exact ⟨d,rfl⟩
 have M:(zc2 T Fz r.o.dst r.a).get T d=some r.a:=by rw [Y];simp only [zc2,AF.get,J4]
 obtain ⟨u,hu1,hu2⟩:=hst.fr d r.a M;obtain ⟨Z,ho2⟩:=hst.ids d r.a M;have hdn':d<n:=by have:=A.dst;rw [Y] at this;simpa [zk1,U7] using this
 have huv:u=v:=by
  have:=(hfr1.val d u hu1).1;rw [hget d hdn',if_pos Y] at this;exact this.symm
 subst huv;refine ⟨g2 r.a u hu2 Z,fun i hi=>?_,?_⟩
 ·have h1:=Z i hi;simp only [g.ne] at h1;rw [zp4];omega
 ·cases hra:r.a with
  |eptr y sz k c=>
   rw [hra] at Z ho2;intro e1 t1 xs hxs;have hy:y<r.H1.length:=Z y (by simp [AV.ids]);obtain ⟨_,m⟩:=zg3.1 hxs;rw [hup] at m;have R:r.H1[y]?=some (r.H1[y]'hy):=Y0 _;by_cases l:y<r.d.nb
   ·by_cases L:y∈r.d.tch
    ·refine ho2 e1 t1 xs ?_;by_cases O:y∈r.d.wr
     ·have:upR r y=r.H1[y]?:=by unfold upR;rw [s,p];simp only;rw [if_pos l,if_pos ⟨L,O⟩]
      rw [this,R,V0] at m;rw [<-m];exact R
     ·have:upR r y=none:=by unfold upR;rw [s,p];simp only;rw [if_pos l,if_neg (fun q=>O q.2)]
      rw [this,Option.getD_none] at m;show r.H1[y]?=_;rw [g.keeps.same y (by rw [g.hlen];exact l) O,g.hm y l,if_pos L,<-G y L,m]
    ·have:=g.ep;rw [hra] at this;simp only [wj7,J2] at this;rcases this with V|V|V
     ·exact absurd (zc9.1 V) L
     ·have:=Y1 V;omega
     ·exfalso;have hyB:y<B:=by
       unfold wk7 at V;split at V
       ·rename_i z;have:=(X2.1 z).1;omega
       ·cases V
      have h6:=h.rowFrom hyB rs.length (zk2 D j) (by rw [N9,hup,m];rfl);unfold wk7 at V;unfold base at h6;split at V
      ·rename_i z;rw [z] at h6;cases h6
      ·cases V
   ·have:upR r y=r.H1[y]?:=by unfold upR;rw [s,p];simp only;rw [if_neg l]
    rw [this,R,V0] at m;refine ho2 e1 t1 xs ?_;rw [<-m];exact R
  |_=>trivial
def vi5 {F b} (hF: ∀t a,F.get T t=some a->b.get T t=some a) {o} (h:zu1 F o=true):zu1 b o=true:=by
 unfold zu1 at h⊢;rw [Y8] at h⊢;intro x c;obtain ⟨a,d⟩:=N3.1 (h x c);rw [ya0 hF d];rfl
def zbh4 (hk:OkD ops n) (hE:zb1 T P C.E) (h:TrOk P C ops n B F0 H0 rs) (J:rs.length=ops.size) {N} (hN: ∀q∈rs,q.d.ne<=N) (hF0: ∀t a,F0.get T t=some a->t<n/\ ∀i∈a.ids,i<B)
  {D} (z: ∀i k,D i=true->Tp ops i k->D k=true) {j r} (H:rs[j]?=some r) {k c Z} (K:r.loc=some (k,c,Z)) (hD:D j=false) (p: ∀k,Tp ops j k->D k=true)
  {a} (L:a.tmps.size=n) (M:a.defers=ds) (hs:Sim T w0 S0 (StD rs F0 H0 n N D) (zw8 a n) w S φ):
  r.o.wp P a w (fun a' w'=>a'.tmps.size=n/\a'.defers=ds/\ ∃S1 A,Sim T w0 S0 (StD rs F0 H0 n N (zk2 D j)) (zw8 a' n) w' S1 A) Q:=by
 have m:=h j r H;have l:=m.lok _ _ _ K;have hkN:k<N:=by have:=hN r (X6 H);have:=l.lt;have:=m.le.2;omega
 have O: ∀t x,r.F.get T t=some x->(mkF (fF D rs (F0.get T)) n).get T t=some x:=by
  intro t x hx;obtain ⟨h1,R⟩:=l.fr t x hx;have h3:=h.slotD hk H J p z hD (t:=t) (X4.2 (.inl h1));refine zg2.2 ⟨?_,by rw [h3];exact R⟩;by_cases hw: ∃q∈rs.take j,q.o.dst=some t
  ·obtain ⟨q,hq,I⟩:=hw;obtain ⟨i,_,hqi⟩:=zn0 hq;have s:=(h i q hqi).op;exact hk.dst q.d.j t (Y3.1 s).1 (by rw [zl2 s];exact I)
  ·rw [zl0 fun q hq I=>hw ⟨q,hq,I⟩] at R;exact (hF0 t x R).1
 have hst:=l.step _ (mkH N (hF D rs (base H0))) _ O (zg3.2 ⟨hkN,rfl⟩) (h.touchL z H K hD p);have hop:=qg6 (Q:=Q) (ds:=ds) hE hst m.dst l.ns (vi5 O l.pre) hs (ym9 L M);refine Oper.wp_mono (fun a' w' hX=>?_) hop;obtain ⟨F1,⟨S1,A,f⟩,V,v,rfl⟩:=hX;obtain ⟨W,X,_⟩:=jn2 (v:=v) L m.dst;refine ⟨W,by rw [X,M],S1,A,?_⟩;have hH:vi6 k c Z (hF D rs (base H0) k) (mkH N (hF D rs (base H0)))=mkH N (hF (zk2 D j) rs (base H0)):=by
  apply M1;intro e;by_cases he:e<N
  ·rw [zg3.2 ⟨he,rfl⟩,h.put z H hD];cases Z with
   |none=>
    show (mkH N (hF D rs (base H0)))[e]?=_;rw [zg3.2 ⟨he,rfl⟩];have hup:upR r e=none:=by unfold upR;rw [l.skip,K]
    unfold upG;rw [K];simp only [hup,Option.getD_none]
   |some u=>
    show ((mkH N (hF D rs (base H0))).set k _)[e]?=_;unfold upG;rw [K];simp only;by_cases G:e=k
    ·subst G;rw [Q0 (by rw [zp4];exact he),if_pos rfl]
    ·rw [Z5 (Ne.symm G),if_neg G,zg3.2 ⟨he,rfl⟩]
  ·rw [Y5 (by cases Z<;>simp [vi6,zp4]<;>omega),Y5 (by rw [zp4];omega)]
 rw [hH] at f;have y: ∀t b,(mkF (fF (zk2 D j) rs (F0.get T)) n).get T t=some b->t<n/\(zc2 T (mkF (fF D rs (F0.get T)) n) r.o.dst r.a).get T t=some b:=by
  intro t b g;obtain ⟨Y,g⟩:=zg2.1 g;refine ⟨Y,?_⟩;rw [h.slotPut hk H] at g;cases I:r.o.dst with
  |none=>rw [I,if_neg (by simp)] at g;exact zg2.2 ⟨Y,g⟩
  |some d=>
   rw [I] at g;simp only [zc2,AF.get];cases hdt:Nat.beq d t with
   |true=>have:=X1 hdt;subst this;rw [if_pos rfl] at g;exact g
   |false=>
    rw [if_neg (fun e=>by cases e;simp at hdt)] at g;exact zg2.2 ⟨Y,g⟩
 refine ⟨fun t b g=>?_,fun t b g=>f.ids t b (y t b g).2,f.chg,f.own,f.ex,f.lives,f.pins,f.ents,f.eids,f.apart⟩;obtain ⟨Y,g⟩:=y t b g;obtain ⟨u,h1,R⟩:=f.fr t b g;exact ⟨u,zm6.2 ⟨Y,(V.val t u h1).1⟩,R⟩
def Sim.sub2 {FF:AF T} {HH:List (Ent T.U)} {F':PF} (hs:Sim T w0 S0 ⟨FF,HH⟩ F' w S φ) {Fr:AF T} {Hm:List (Ent T.U)} {tch:List Nat} {nb:Nat} (hfr: ∀t x,Fr.get T t=some x->FF.get T t=some x) (hHm: ∀(e:Nat) (f:Ent T.U),Hm[e]?=some f->f=.gone\/(e∈tch/\HH[e]?=some f))
  (hlen:Hm.length=nb) (hfid: ∀t x,Fr.get T t=some x-> ∀i∈x.ids,i<nb) (heids: ∀f∈Hm,∀i∈f.cellIds,i<nb):Sim T w ⟨tch.flatMap fun e=>(φ e).all,S,(List.range nb).map φ⟩ ⟨Fr,Hm⟩ F' w S φ:=by
 refine ⟨fun t x hx=>hs.fr t x (hfr t x hx),fun t x hx=>⟨fun i hi=>by simp only [hlen];exact hfid t x hx i hi,?_⟩,Chg.refl _ _,fun b hb=>⟨.inl hb,(hs.own b hb).2⟩,fun b hb _ _=>hb,fun e f hf hl x hx=>?_,fun k q hq=>?_,fun e f hf=>?_,fun e f hf i hi=>by simp only [hlen];exact heids f (X6 hf) i hi,fun i k f f' hf hf' hl hl' hik x y hx hy=>?_⟩
 ·obtain ⟨_,h2⟩:=hs.ids t x (hfr t x hx);cases x with
  |eptr y sz k c=>
   grind
  |_=>trivial
 ·rcases hHm e f hf with rfl|⟨h1,h2⟩
  ·cases hl
  ·exact ⟨(hs.lives e f h2 hl x hx).1,.inl (V4.2 ⟨e,h1,zu8.2 ⟨x,hx,rfl⟩⟩)⟩
 ·have hlt:=(X2.1 hq).1;simp at hlt;simp [hlt] at hq;exact ⟨.of hq,by simp only [hlen];exact hlt⟩
 ·rcases hHm e f hf with rfl|⟨_,h2⟩
  ·trivial
  ·exact hs.ents e f h2
 ·rcases hHm i f hf with rfl|⟨_,h2⟩
  ·cases hl
  ·rcases hHm k f' hf' with rfl|⟨_,h2'⟩
   ·cases hl'
   ·exact hs.apart i k f f' h2 h2' hl hl' hik x y hx hy
def Oper.wp_pan {o:Oper} {a:Act} {w:World} {K K':Act->World->Prop} {Q Q':Exit->Act->World->Prop} (hK: ∀a w,K a w->False) (hQ: ∀ch w',Q (.panic ch) a w'->Q' (.panic ch) a w') (hO: ∀a w,Q .outgrown a w->False)
  (h:o.wp P a w K Q):o.wp P a w K' Q':=by
 unfold Oper.wp at h⊢;generalize (execOp a.eval o).run P w=r at h⊢;unfold Oper.upon at h⊢;split at h
 ·exact (hK _ _ h).elim
 ·exact (hK _ _ h).elim
 ·exact (hK _ _ h).elim
 ·refine h.mono fun e w' hq=>?_;cases e with
  |returned v=>exact (hK _ _ hq).elim
  |panicked ch=>exact hQ _ _ hq
  |outgrown=>obtain ⟨a1,w1,h1⟩:=hq;exact (hO _ _ h1).elim
 ·exact h.mono fun v w' hq=>(hK _ _ hq).elim
 ·exact hQ _ _ h
 ·exact h.elim
def ke2 {o:Oper} {F:AF T} {H:List (Ent T.U)} {F':PF} (hE:zb1 T P C.E) {a0:AV T.U} {Hp:List (Ent T.U)} (hs:zj7 P C o ⟨F,H⟩ (fun _=>none) (fun a st=>some (a,st.H))=some (a0,Hp)) (hdst:zk1 n o.dst=true) (hns:zd3 o=true) (hpre:zu1 F o=true) (h:Sim T w0 S0 ⟨F,H⟩ F' w S φ) {a:Act} (ha:Fr n ds F' a)
  {K:Act->World->Prop} (HP: ∀v w' S1 φ1 F1 Fc,Sim T w0 S0 ⟨Fc,Hp⟩ F1 w' S1 φ1->VR T w' S1 φ1 a0 v->Q (.panic [{v:=v,recovered:=false}]) a w'):o.wp P a w K Q:=by
 let o':Oper:= {o with guard:=none}
 have hd:dec #[o'] 0 n F'=some o':=by
  unfold dec;have hw:zx3 #[o'] F' o'=some true:=rfl;have hp:yd1 F' o'=true:=yq1 (o:=o') h.fr hpre;have h1:zk1 n o'.dst=true:=hdst;have h2:zd3 o'=true:=hns
  grind
 have hs':zj7 P C o' ⟨F,H⟩ (fun _=>none) (fun a st=>some (a,st.H))=some (a0,Hp):=by
  cases o;exact hs
 have hwr:=ji5 (Q:=fun e _ w'=> ∃v S1 φ1 F1 Fc,e=.panic [{v:=v,recovered:=false}]/\Sim T w0 S0 ⟨Fc,Hp⟩ F1 w' S1 φ1/\VR T w' S1 φ1 a0 v) (ds:=ds) hE hd hs' h (fun st hst=>by cases hst) (fun a1 st hst=>by
  simp only [X0,X7] at hst;obtain ⟨rfl,rfl⟩:=hst;intro F1 w1 S1 φ1 v k1 k2 _ act _;exact ⟨v,S1,φ1,F1,st.F,rfl,k1,k2⟩)
 have hw:=hwr a ha;unfold wpList at hw;have hwant:Region.wanted o' (yielded #[o'] a.tmps)=true:=(zl1 hd).2.2.2.2 ha;have hcons:(#[o']:Array Oper).toList.drop 0= [o']:=rfl;rw [hcons] at hw;simp only [hwant,if_true] at hw;have bad: ∀ {a1:Act} {w1:World},wpList P #[o'] (fun e _ w'=> ∃v S1 φ1 F1 Fc,e=.panic [{v:=v,recovered:=false}]/\Sim T w0 S0 ⟨Fc,Hp⟩ F1 w' S1 φ1/\VR T w' S1 φ1 a0 v) [] a1 w1->False:=by
  intro a1 w1 h1;unfold wpList at h1
  grind
 rcases hw with hw|⟨_,a1,w1,h1⟩
 ·refine jy1 (g:=none) ?_;refine Oper.wp_pan (o:=o') (fun _ _ h=>bad h) (fun ch w' hq=>?_) (fun _ _ hq=>?_) hw
  ·grind
  ·grind
 ·obtain ⟨v,_,_,_,_,he,_⟩:=h1;cases he
def jb1 {l t a}: ∀ {F},(qy5 T l F).get T t=some a->F.get T t=some a/\t∉l
 | [],h=>by simp [qy5,AF.get] at h
 |(q,b)::r,h=>by
  unfold qy5 at h;split at h
  ·rename_i c;obtain ⟨f,e⟩:=jb1 h;refine ⟨?_,e⟩;simp only [AF.get];split
   ·rename_i d;have:=X1 d;subst this;exact absurd (zc9.1 c) e
   ·exact f
  ·rename_i c;simp only [AF.get] at h⊢;split at h
   ·rename_i d;have:=X1 d;subst this;refine ⟨h,fun g=>?_⟩;rw [zc9.2 g] at c;cases c
   ·exact jb1 h
def panD (Z:OkD ops n) (hE:zb1 T P C.E) (h:TrOk P C ops n B F0 H0 rs) (hlen:rs.length=ops.size) (hB:H0.length=B) (hF0: ∀t a,F0.get T t=some a->t<n/\ ∀i∈a.ids,i<B) (hH0: ∀f∈H0,∀i∈f.cellIds,i<B) (hpin:S0.pin.length<=B)
  {N} (hN: ∀q∈rs,q.d.ne<=N) {D} (hcl: ∀i k,D i=true->Tp ops i k->D k=true) {j r} (I:rs[j]?=some r) {a0 J} (hp:PanI P C ops B F0 H0 rs j a0 J) (hD:D j=false) (u: ∀k,Tp ops j k->D k=true)
  {a} (hsz:a.tmps.size=n) (hdf:a.defers=ds) (hs:Sim T w0 S0 (StD rs F0 H0 n N D) (zw8 a n) w S φ) (HP:yu3 Q n ds w0 S0 a0 (⟨qy5 T (vf8 ops ops.size) F0,J⟩:St T)) {K}:
  r.o.wp P a w K Q:=by
 obtain ⟨⟨V,tch,F,Hm,Hp,wr,p1,p2,p3,p4,p5,p6,p7,p8,p9,M,m,p12,p13,p14,p15,p16,p17⟩,q1,q2,q3,q4⟩:=hp;have:V=r:=by rw [I] at p1;exact (X5 p1).symm
 subst this;have p:=h j V I;have hnN:=hN V (X6 I);have same: ∀e,(∀q∈rs,jc1 q e->q.d.j<j/\D q.d.j=true)->hF D rs (base H0) e=hF zk3 (rs.take j) (base H0) e:=by
  intro e g
  conv=>lhs;rw [yn6 I]
  rw [yb8];show hF D (rs.drop (j+1)) (match D V.d.j with|true=>_|false=>hF D (rs.take j) (base H0)) e=_;rw [h.idx I,hD];simp only;rw [zr0 fun q z _ hu=>?_]
  ·refine ya3 rfl fun q z hu=>?_;exact (g q (J6 z) hu).2
  ·obtain ⟨i,hi,b⟩:=yf9 z;have:=(g q (X6 b) hu).1;rw [h.idx b] at this;omega
 have htch: ∀e∈tch,hF D rs (base H0) e=hF zk3 (rs.take j) (base H0) e:=by
  intro e g;refine same e fun q z hu=>?_;obtain ⟨i,b⟩:=Y9.1 z;have henb:=(M e g).1;rw [h.idx b];rcases Classical.em (∃c1 v1,q.loc=some (e,c1,some v1)) with ⟨c1,v1,A⟩|hnl
  ·have hlk:=(h i q b).lok _ _ _ A;rcases N2 i j with G|rfl|G
   ·refine ⟨G,?_⟩;rcases p15 q (zq7 G b) with W|⟨_,h1⟩
    ·rw [h.idx b] at W;exact u i W
    ·exact absurd g (h1 e c1 v1 A)
   ·rw [I] at b;have:=X5 b;subst this;rw [(p.skip (p.dskip p2)).2] at A;cases A
   ·exfalso;have:=q2 q z hlk.skip (.inr ⟨_,_,_,A⟩);rw [h.idx b] at this;have:=Tp.lt Z.back this (by have:=(X2.1 I).1;omega);omega
  obtain ⟨⟨O,hql⟩,hc⟩:=zl4 (hu.resolve_right hnl);rcases N2 i j with G|rfl|G
  ·refine ⟨G,?_⟩;rcases p15 q (zq7 G b) with W|⟨h1,_⟩
   ·rw [h.idx b] at W;exact u i W
   ·exfalso;have hw:=h1 e g;unfold DR.wrE at hw;simp only [Bool.or_eq_false_iff,Bool.and_eq_false_imp] at hw;rcases hc with ⟨_,_,g3⟩|⟨R,g2⟩
    ·rw [zc9.2 g3] at hw;cases hw.1
    ·have:=hw.2 (W3 R);rw [((h i q b).take O hql).ne] at g2;rw [show Nat.blt e q.d.ne=true by rw [U7];exact g2] at this;cases this
  ·rw [I] at b;have:=X5 b;subst this;rw [p.dskip p2] at O;cases O
  ·exfalso;have hord:=h.ord G I b;have hle:=p.le.2;rcases hc with ⟨_,_,g3⟩|⟨R,_⟩
   ·have:=q2 q z O (.inl fun e'=>by rw [e'] at g3;cases g3);rw [h.idx b] at this;have:=Tp.lt Z.back this (by have:=(X2.1 I).1;omega);omega
   ·omega
 have hcore: ∀e,e<B->hF D rs (base H0) e=hF zk3 (rs.take j) (base H0) e:=by
  intro e g;refine same e fun q z hu=>?_;obtain ⟨i,b⟩:=Y9.1 z;rcases Classical.em (∃c1 v1,q.loc=some (e,c1,some v1)) with ⟨c1,v1,A⟩|hnl
  ·have X:=q2 q z ((h i q b).lok _ _ _ A).skip (.inr ⟨_,_,_,A⟩);refine ⟨Tp.lt Z.back X (by have:=(X2.1 I).1;omega),u _ X⟩
  obtain ⟨⟨O,hql⟩,hc⟩:=zl4 (hu.resolve_right hnl);have hqb:=(h i q b).le.1;rcases hc with ⟨_,_,g3⟩|⟨R,_⟩
  ·have X:=q2 q z O (.inl fun e'=>by rw [e'] at g3;cases g3);refine ⟨Tp.lt Z.back X (by have:=(X2.1 I).1;omega),u _ X⟩
  ·omega
 have hHm: ∀(e:Nat) (f:Ent T.U),Hm[e]?=some f->f=.gone\/(e∈tch/\(mkH N (hF D rs (base H0)))[e]?=some f):=by
  intro e f l;have s:=(X2.1 l).1;rw [p8] at s;rw [p9 e s] at l;simp only [X0] at l;split at l
  ·rename_i g;exact .inr ⟨g,zg3.2 ⟨by have:=p.le.2;omega,by rw [htch e g];exact l⟩⟩
  ·exact .inl l.symm
 have hsub:=hs.sub2 (Fr:=F) (Hm:=Hm) (tch:=tch) (nb:=V.d.nb) (fun t x L=>by
  obtain ⟨h1,h2⟩:=p12 t x L;have h3:=h.slotD Z I hlen u hcl hD (t:=t) (X4.2 (.inl h1));refine zg2.2 ⟨?_,by rw [h3];exact h2⟩;by_cases hw: ∃q∈rs.take j,q.o.dst=some t
  ·obtain ⟨q,z,hd⟩:=hw;obtain ⟨i,_,b⟩:=zn0 z;have H:=(h i q b).op;exact Z.dst q.d.j t (Y3.1 H).1 (by rw [zl2 H];exact hd)
  ·rw [zl0 fun q z hd=>hw ⟨q,z,hd⟩] at h2;exact (hF0 t x h2).1) hHm p8 p13 p14
 refine ke2 hE p6 p.dst p4 p5 hsub (ym9 hsz hdf) fun v w' S1 φ1 F1 Fc hst hv=>?_;have hnb:=p.le.2;obtain ⟨φ2,R,g2⟩:=hs.frame2 (tch:=tch) (nb:=V.d.nb) hst (by rw [m];exact hnb) (by rw [zp4,m];exact hnN) (by have:=p.le.1;omega)
  (fun e g=>⟨(M e g).1,_,zg3.2 ⟨by have:=(M e g).1;omega,rfl⟩,by rw [htch e g];exact (M e g).2⟩)
  (fun e h1 h2=>zg3.2 ⟨by rw [m] at h2;omega,h.free hB hcl I hD h1 (by rw [<-m];exact h2)⟩)
  (H2:=mkH N fun e=>if e∈tch\/(V.d.nb<=e/\e<V.d.ne) then (Hp[e]?).getD .gone else hF D rs (base H0) e) (by rw [zp4,zp4])
  (fun e f l=>by
   obtain ⟨g,l⟩:=zg3.1 l;by_cases ht:e∈tch
   ·rw [if_pos (.inl ht)] at l;have s:=(M e ht).1;have hg:Hp[e]?=some (Hp[e]'(by rw [m];omega)):=Y0 _;rw [hg,V0] at l;exact .inl ⟨ht,by rw [hg,l]⟩
   ·by_cases hn:V.d.nb<=e/\e<V.d.ne
    ·rw [if_pos (.inr hn)] at l;have hg:Hp[e]?=some (Hp[e]'(by rw [m];exact hn.2)):=Y0 _;rw [hg,V0] at l;exact .inr (.inl ⟨hn.1,by rw [hg,l]⟩)
    ·rw [if_neg (fun hh=>hh.elim ht hn)] at l;exact .inr (.inr ⟨ht,by rw [m];omega,zg3.2 ⟨g,l⟩⟩))
  (fun e ty t ys g hy=>by
   have s:=(M e g).1;obtain ⟨xs,L⟩:=p7.row e ty t ys (by rw [p8];exact s) hy;rcases hHm e _ L with h3|⟨_,h3⟩
   ·cases h3
   ·exact ⟨xs,h3⟩)
  (fun t x L=>by
   rw [m];exact h.fid Z (fun t a ha=>(hF0 t a ha).2) hcl I hD (zg2.1 L).2)
  (fun e f l _=>by
   rw [m];obtain ⟨_,rfl⟩:=zg3.1 l;exact h.hid hH0 hcl I hD)
 have hv2:=g2 a0 v hv (by rw [q4];intro i hi;cases hi);have Y: ∀(e:Nat) (f:Ent T.U),J[e]?=some f->(mkH N fun e=>if e∈tch\/(V.d.nb<=e/\e<V.d.ne) then (Hp[e]?).getD .gone else hF D rs (base H0) e)[e]?=some f:=by
  intro e f l;have s:=(X2.1 l).1;rw [p17] at s;rw [p16 e s] at l;simp only [X0] at l;have:=p.le.1;refine zg3.2 ⟨by omega,?_⟩;by_cases ht:e∈tch
  ·rw [if_pos ht] at l;rw [if_pos (.inl ht)];exact l
  ·rw [if_neg ht] at l;rw [if_neg (fun hh=>hh.elim ht fun h2=>by omega),hcore e s];exact l
 have hfin:Sim T w0 S0 ⟨qy5 T (vf8 ops ops.size) F0,J⟩ (zw8 a n) w' S1 φ2:=by
  have hget: ∀t x,(qy5 T (vf8 ops ops.size) F0).get T t=some x->(mkF (fF D rs (F0.get T)) n).get T t=some x:=by
   intro t x L;obtain ⟨h1,h2⟩:=jb1 L;refine zg2.2 ⟨(hF0 t x h1).1,?_⟩;rw [zl0 fun q z hd=>?_]
   ·exact h1
   ·obtain ⟨i,b⟩:=Y9.1 z;have H:=(h i q b).op;exact h2 (List.mem_filterMap.2 ⟨q.d.j,J3.2 (Y3.1 H).1,by rw [H];exact hd⟩)
  refine ⟨fun t x L=>R.fr t x (hget t x L),fun t x L=>?_,R.chg,R.own,R.ex,fun i e g=>R.lives i e (Y i e g),fun k r Z=>?_,fun i e g=>R.ents i e (Y i e g),fun i e g x L=>?_,fun i k e e' g he'=>R.apart i k e e' (Y i e g) (Y k e' he')⟩
  ·obtain ⟨k1,k2⟩:=R.ids t x (hget t x L);refine ⟨fun i hi=>by simp only [p17];exact (hF0 t x (jb1 L).1).2 i hi,?_⟩;cases x with
   |eptr y sz k c=>intro e1 t1 xs hxs;exact k2 e1 t1 xs (Y y _ hxs)
   |_=>trivial
  ·have:=(X2.1 Z).1;exact ⟨(R.pins k r Z).1,by simp only [p17];omega⟩
  ·have:=q3 e (X6 g) x L;simp only [p17];exact this
 exact HP _ _ _ _ v hfin hv2 (zo1 q4 fun i sz k c e=>by rw [e,AV.ids] at q4;cases q4) a (ym9 hsz hdf)
def Sim.pad {F:AF T} {F':PF} {H H':List (Ent T.U)} (h:Sim T w0 S0 ⟨F,H⟩ F' w S φ) (hl:H.length<=H'.length) (hg: ∀(e:Nat) (f:Ent T.U),H'[e]?=some f->f=.gone\/H[e]?=some f):Sim T w0 S0 ⟨F,H'⟩ F' w S φ:=by
 refine ⟨h.fr,fun t a ha=>?_,h.chg,h.own,h.ex,fun i e he hlv a ha=>?_,fun k r hk=>⟨(h.pins k r hk).1,V3 (h.pins k r hk).2 hl⟩,fun i e he=>?_,fun i e he j hj=>?_,fun i j e e' he he' hlv hlv' hij a b ha hb=>?_⟩
 ·obtain ⟨h1,h2⟩:=h.ids t a ha;refine ⟨fun i hi=>V3 (h1 i hi) hl,?_⟩;cases a with
  |eptr y sz k c=>
   grind
  |_=>trivial
 ·rcases hg i e he with rfl|h3
  ·cases hlv
  ·exact h.lives i e h3 hlv a ha
 ·rcases hg i e he with rfl|h3
  ·trivial
  ·exact h.ents i e h3
 ·rcases hg i e he with rfl|h3
  ·cases hj
  ·exact V3 (h.eids i e h3 j hj) hl
 ·rcases hg i e he with rfl|h3
  ·cases hlv
  ·rcases hg j e' he' with rfl|h3'
   ·cases hlv'
   ·exact h.apart i j e e' h3 h3' hlv hlv' hij a b ha hb
def wj1:Value->Option Bool| .bool c=>some c|_=>none
def ve8 {R:Type} (a:Option (Nat×Option R)) (i:Nat):Prop:=match a with|none=>False|some (b,_)=>i=b
def gd8 {F:AF T} {H:List (Ent T.U)} {F':PF} {R:Type} {r:R} (hE:zb1 T P C.E) {pm:Bool} {Kp:AV T.U->St T->Option R} {K:St T->Option R} (HK: ∀st,K st=some r->kk4 Q n ds w0 S0 st) (HP: ∀a st,Kp a st=some r->yu3 Q n ds w0 S0 a st) (hr:ue2 T P C ops n pm Kp K ⟨F,H⟩=some r) (hs:Sim T w0 S0 ⟨F,H⟩ F' w S φ):
  ∀a,Fr n ds F' a->wpAny P .any ops Q ops.size (Array.replicate ops.size false) a {w with drawn:=w.drawn+1}:=by
 unfold ue2 at hr;split at hr<;>try (cases hr;done)
 rename_i hok;have Y:=kv4 hok;intro a ha;obtain ⟨rs,pz,FF,Hc,recs,M,hpz,hlen,hK⟩:=vx5 (B:=H.length) (F0:=F) (H0:=H) rfl Y hE ops.toList [] none F H [] rfl
  ⟨fun j r hj=>by simp at hj,fun t=>rfl,fun e he=>by simp only [hF,base];rw [Y0 he];rfl,W6 _,fun r hr=>(by cases hr),rfl⟩ (by intro q s;cases s) hr
 have h:=M.tr;have hF0: ∀t x,F.get T t=some x->t<n/\ ∀i∈x.ids,i<H.length:=fun t x J=>by
  obtain ⟨v,hv,_⟩:=hs.fr t x J;exact ⟨(ha.val t v hv).2,(hs.ids t x J).1⟩
 have hH0: ∀f∈H,∀i∈f.cellIds,i<H.length:=fun f hf i Z=>by
  obtain ⟨e,he⟩:=Y9.1 hf;exact hs.eids e f he i Z
 have hpin:S0.pin.length<=H.length:=by
  rcases T5 S0.pin.length with h0|h0
  ·omega
  ·have hlt:S0.pin.length-1<S0.pin.length:=by omega
   have:=(hs.pins _ _ (Y0 hlt)).2;simp only at this;omega
 have readyd: ∀(l:Array Bool) i,i∈Region.ready .any ops l->i<ops.size/\l.getD i true=false/\ ∀j,(zw2 ops i).contains j=true->l.getD j false=true:=by
  intro l i Z;unfold Region.ready at Z;rw [W0] at Z;have hlt:i<ops.size:=by simpa using Z.1
  have h2:=Z.2;rw [X3] at h2;refine ⟨hlt,by simpa using h2.1,fun j hj=>?_⟩;unfold zw2 at hj;rw [Z6 hlt] at hj h2;simp only [List.contains_eq_mem,decide_eq_true_eq,U5,W0] at hj;obtain ⟨e,⟨he,hb⟩,rfl⟩:=hj;have h3:=h2.2;simp only [Z8,V0,Array.all_eq_true'] at h3;have:=h3 e (by simpa using he);rw [hb] at this;simpa using this
 have readyI: ∀(l:Array Bool) i,i<ops.size->l.getD i true=false->(∀j,(zw2 ops i).contains j=true->l.getD j false=true)->i∈Region.ready .any ops l:=by
  intro l i hlt h1 h2;unfold Region.ready;rw [W0];refine ⟨by simpa using hlt,?_⟩;rw [Z6 hlt,h1];simp only [U1,Bool.true_and,Z8,V0,Array.all_eq_true'];intro e he;cases hb:Region.binds .any e with
  |false=>rfl
  |true=>
   have:=h2 e.on (by
    unfold zw2;rw [Z6 hlt];simp only [List.contains_eq_mem,decide_eq_true_eq,U5,W0];exact ⟨e,⟨by simpa using he,hb⟩,rfl⟩)
   rw [this];rfl
 let A:Array Bool->Nat->Bool:=fun l i=>l.getD i false
 let bad:Nat->Prop:=ve8 pz
 have hbad1: ∀(i:Nat) (q:Rec T),rs[i]?=some q->q.dead=true-> ∃k,bad k/\(i=k\/Tp ops i k):=by
  intro i q s hqd;cases hpp:pz with
  |none=>rw [hpp] at hpz;have:=hpz q (X6 s);rw [this] at hqd;cases hqd
  |some x=>
   obtain ⟨j0,kf⟩:=x;rw [hpp] at hpz;obtain ⟨a0,O,g1,_⟩:=hpz;refine ⟨j0,by show ve8 pz j0;rw [hpp];rfl,?_⟩;have:=g1.deads q (X6 s) hqd;rw [h.idx s] at this;exact this
 have hbad2: ∀k,bad k-> ∃(q:Rec T) (a0:AV T.U) (O:List (Ent T.U)) (_:Unit),rs[k]?=some q/\PanI P C ops H.length F H rs k a0 O/\Kp a0 ⟨qy5 T (vf8 ops ops.size) F,O⟩=some r:=by
  intro k hb;cases hpp:pz with
  |none=>have hb:ve8 pz k:=hb;rw [hpp] at hb;exact hb.elim
  |some x=>
   obtain ⟨j0,kf⟩:=x;have hb:k=j0:=by have hb:ve8 pz k:=hb;rw [hpp] at hb;exact hb
   subst hb;rw [hpp] at hpz hK;obtain ⟨a0,O,g1,rfl⟩:=hpz;obtain ⟨q,_,_,_,_,_,g2,_⟩:=g1.out;exact ⟨q,a0,O,(),g2,g1,hK⟩
 have hbad3:(∃k,bad k)\/K ⟨FF,Hc⟩=some r:=by
  cases hpp:pz with
  |none=>rw [hpp] at hK;exact .inr hK
  |some x=>
   obtain ⟨j0,kf⟩:=x;exact .inl ⟨j0,by show ve8 pz j0;rw [hpp];rfl⟩
 let I:Array Bool->Act->World->Prop:=fun l a w=>l.size=ops.size/\(∀i k,A l i=true->(zw2 ops i).contains k=true->A l k=true)/\a.tmps.size=n/\a.defers=ds/\(∀k,bad k->A l k=false)/\
  ∃S φ,Sim T w0 S0 (StD rs F H n Hc.length (A l)) (zw8 a n) w S φ
 refine qj7 I ?_ ?_ ops.size _ a _ ⟨by simp,by simp⟩ ⟨by simp,fun i k Z _=>?_,ha.size,ha.defers,fun k _=>?_,S,φ,?_⟩
 ·
  intro l a w i hI Z;obtain ⟨hls,hcl1,V,hdf,hnb,S,φ,L⟩:=hI;obtain ⟨hilt,hil,hip⟩:=readyd l i Z;have hDi:A l i=false:=by
   show l.getD i false=false;rw [Y7] at hil⊢;rw [Z6 (by omega)] at hil⊢;simpa using hil
  have hcl: ∀i k,A l i=true->Tp ops i k->A l k=true:=fun i k Z t=>by
   induction t with
   |one h=>exact hcl1 _ _ Z h
   |step h _ ih=>exact ih (hcl1 _ _ Z h)
  have hpre: ∀k,Tp ops i k->A l k=true:=fun k t=>by
   cases t with
   |one h=>exact hip _ h
   |step h t=>exact hcl _ _ (hip _ h) t
  have hset:A (l.setIfInBounds i true)=zk2 (A l) i:=by
   funext j;show (l.setIfInBounds i true).getD j false=if j=i then true else l.getD j false
   rw [Y7,Array.getElem?_setIfInBounds];by_cases hji:j=i
   ·subst hji;simp [hls,hilt]
   ·rw [if_neg (fun e=>hji e.symm),if_neg hji,<-Array.getD_eq_getD_getElem?]
  have D:rs[i]?=some rs[i]:=Y0 (by omega);generalize hrr:rs[i]=r at D;have hrk:=h i r D;have hop:=hrk.op;rw [h.idx D] at hop;have keepI: ¬bad i-> ∀a' w',a'.tmps.size=n->a'.defers=ds->(∃S1 φ1,Sim T w0 S0 (StD rs F H n Hc.length (zk2 (A l) i)) (zw8 a' n) w' S1 φ1)->I (l.setIfInBounds i true) a' w':=by
   intro hnbi a' w' h1 h2 h3;refine ⟨by simpa using hls,fun x k J Y=>?_,h1,h2,fun k Y=>by
    have hne:k≠i:=fun e=>hnbi (e▸Y);rw [hset];unfold zk2;rw [if_neg hne];exact hnb k Y,by rw [hset];exact h3⟩
   rw [hset] at J⊢;unfold zk2 at J⊢;by_cases hki:k=i
   ·rw [if_pos hki]
   ·rw [if_neg hki];by_cases hxi:x=i
    ·subst hxi;exact hip k Y
    ·rw [if_neg hxi] at J;exact hcl1 x k J Y
  have z: ∀b,(match r.o.guard with|none=>(some true:Option Bool)|some (g,b)=>(yielded ops a.tmps g).map fun c=>c==b)=b->(Region.wanted r.o (yielded ops a.tmps)=true↔b=some true):=by
   intro b hb;unfold Region.wanted;cases hg:r.o.guard with
   |none=>rw [hg] at hb;subst hb;simp
   |some gb=>
    obtain ⟨g,b'⟩:=gb;rw [hg] at hb;simp only at hb⊢;subst hb;cases yielded ops a.tmps g with
    |none=>simp
    |some c=>cases c<;>cases b'<;>simp
  have hwant:r.dead=false->Region.wanted r.o (yielded ops a.tmps)= !r.skip:=by
   intro hnd;have hg:=hrk.guard hnd;cases hgd:r.o.guard with
   |none=>
    rw [hgd] at hg;simp only at hg;rw [hg];exact (z (some true) (by rw [hgd])).2 rfl
   |some gb=>
    obtain ⟨g,b⟩:=gb;rw [hgd] at hg;simp only at hg;obtain ⟨rg,hm1,hm2,⟨d,G⟩,hm3,hm4⟩:=hg;obtain ⟨k,hki,W⟩:=zn0 hm1;have hkg:k=g:=by rw [<-h.idx W,hm2]
    subst hkg;have y:=(h k rg W).op;rw [h.idx W] at y;have hdn:=Y.dst k d (Y3.1 y).1 (by rw [zl2 y];exact G);have hsl:=h.slotD Y D hlen hpre hcl hDi (t:=d) (X4.2 (.inr (by unfold yn0;rw [hgd];simp [zl2 y,G])));rw [yl2 hm1 G fun q s hd'=>h.uniq Y (J6 s) (J6 hm1) hd' G] at hsl;have hsl:fF (A l) rs (F.get T) d=some rg.a:=hsl;obtain ⟨v,hv,X⟩:=L.fr d rg.a (zg2.2 ⟨hdn,hsl⟩);have hv:=(zm6.1 hv).2;have hyv:yielded ops a.tmps k=wj1 v:=by
     unfold yielded;rw [y];simp only [Option.bind_some,G];rw [Y7,Z6 (by rw [V];exact hdn)] at hv;rw [Z6 (by rw [V];exact hdn)];simp only [V0] at hv;rw [hv];cases v<;>rfl
    cases hs:r.skip with
    |false=>
     have:=hm3 hs;rw [this] at X;have:=zh2 X;subst this;exact (z (some true) (by rw [hgd];simp only [hyv];cases b<;>rfl)).2 rfl
    |true=>
     rcases hm4 hs with h5|⟨u,h5⟩
     ·rw [h5] at X;have:=zh2 X;subst this;have:=z (some false) (by rw [hgd];simp only [hyv];cases b<;>rfl);cases hwd:Region.wanted r.o (yielded ops a.tmps) with
      |false=>rfl
      |true=>exact absurd (this.1 hwd) (by simp)
     ·rw [h5,VR] at X;subst X;have:=z none (by rw [hgd];simp only [hyv];rfl);cases hwd:Region.wanted r.o (yielded ops a.tmps) with
      |false=>rfl
      |true=>exact absurd (this.1 hwd) (by simp)
  have hlets:(match r.o.guard with|none=>True|some (g,b)=> ∃rg∈rs.take i,rg.d.j=g/\(∃d,rg.o.dst=some d)/\rg.a=cB T b)->Region.wanted r.o (yielded ops a.tmps)=true:=by
   intro hg;cases hgd:r.o.guard with
   |none=>exact (z (some true) (by rw [hgd])).2 rfl
   |some gb=>
    obtain ⟨g,b⟩:=gb;rw [hgd] at hg;simp only at hg;obtain ⟨rg,hm1,hm2,⟨d,G⟩,hm3⟩:=hg;obtain ⟨k,hki,W⟩:=zn0 hm1;have hkg:k=g:=by rw [<-h.idx W,hm2]
    subst hkg;have y:=(h k rg W).op;rw [h.idx W] at y;have hdn:=Y.dst k d (Y3.1 y).1 (by rw [zl2 y];exact G);have hsl:=h.slotD Y D hlen hpre hcl hDi (t:=d) (X4.2 (.inr (by unfold yn0;rw [hgd];simp [zl2 y,G])));rw [yl2 hm1 G fun q s hd'=>h.uniq Y (J6 s) (J6 hm1) hd' G] at hsl;have hsl:fF (A l) rs (F.get T) d=some rg.a:=hsl;obtain ⟨v,hv,X⟩:=L.fr d rg.a (zg2.2 ⟨hdn,hsl⟩);have hv:=(zm6.1 hv).2;have hyv:yielded ops a.tmps k=wj1 v:=by
     unfold yielded;rw [y];simp only [Option.bind_some,G];rw [Y7,Z6 (by rw [V];exact hdn)] at hv;rw [Z6 (by rw [V];exact hdn)];simp only [V0] at hv;rw [hv];cases v<;>rfl
    rw [hm3] at X;have:=zh2 X;subst this;exact (z (some true) (by rw [hgd];simp only [hyv];cases b<;>rfl)).2 rfl
  unfold wpOp;rw [hop];cases hdd:r.dead with
  |true=>
   obtain ⟨k,hbk,hik⟩:=hbad1 i r D hdd;rcases hik with rfl|hik
   ·obtain ⟨q,a0,O,_,g1,g2,g3⟩:=hbad2 i hbk;have:q=r:=by rw [D] at g1;exact (X5 g1).symm
    subst this;obtain ⟨r0,tch,_,_,_,_,p1,_,p3,_⟩:=g2.out;have:r0=q:=by rw [D] at p1;exact (X5 p1).symm
    subst this;simp only [hlets p3,if_true];left;exact panD Y hE h hlen rfl hF0 hH0 hpin M.mono hcl D g2 hDi hpre V hdf L (HP a0 _ g3)
   ·have:=hnb k hbk;rw [hpre k hik] at this;cases this
  |false=>
  have hnbi: ¬bad i:=fun hb=>by
   obtain ⟨q,a0,O,_,g1,g2,g3⟩:=hbad2 i hb;obtain ⟨r0,tch,_,_,_,_,p1,p2,_⟩:=g2.out;have:r0=r:=by rw [D] at p1;exact (X5 p1).symm
   subst this;rw [hdd] at p2;cases p2
  simp only [hwant hdd];cases hs:r.skip with
  |true=>
   simp only [W7];rw [if_neg (by simp)];obtain ⟨h1,h2,_⟩:=jn2 (v:=undef) V hrk.dst;refine keepI hnbi _ _ h1 (by rw [h2,hdf]) ⟨S,φ,vd4 Y h (N:=Hc.length) D V ?_ fun _=>?_⟩
   ·have e1: ∀e,hF (zk2 (A l) i) rs (base H) e=hF (A l) rs (base H) e:=fun e=>by
     rw [h.put hcl D hDi];have:upR r e=none:=by unfold upR;rw [hs]
     rw [jx9 (hrk.skip hs).2,this];rfl
    have e2:hF (zk2 (A l) i) rs (base H)=hF (A l) rs (base H):=funext e1;rw [e2];exact L
   ·rw [(hrk.skip hs).1];exact ⟨rfl,fun i Z=>(by cases Z),trivial⟩
  |false=>
   simp only [U1,if_true];left;cases hl:r.loc with
   |none=>exact Oper.wp_mono (fun a' w' hX=>keepI hnbi a' w' hX.1 hX.2.1 hX.2.2) (zbh3 (Q:=Q) Y hE h hlen rfl hF0 hH0 hpin M.mono hcl D hDi hpre hs hl V hdf L)
   |some p=>obtain ⟨k,c,sv⟩:=p;exact Oper.wp_mono (fun a' w' hX=>keepI hnbi a' w' hX.1 hX.2.1 hX.2.2) (zbh4 (Q:=Q) Y hE h hlen M.mono hF0 hcl D hl hDi hpre V hdf L)
 ·
  intro l a w hI hready;obtain ⟨hls,hcl1,V,hdf,hnb,S,φ,L⟩:=hI;have hall: ∀i,i<ops.size->A l i=true:=by
   intro i;induction i using Nat.strongRecOn with
   |_ i ih=>
    intro Z;cases hD:A l i with
    |true=>rfl
    |false=>
     have:i∈Region.ready .any ops l:=readyI l i Z (by
      have hD:l.getD i false=false:=hD;rw [Y7] at hD⊢;rw [Z6 (by omega)] at hD⊢;simpa using hD) fun j hj=>by
       have:=Tp.lt Y.back (.one hj) Z;exact ih j this (by omega)
     rw [hready] at this;cases this
  have hmem: ∀q∈rs,A l q.d.j=true:=fun q s=>by
   obtain ⟨k,hk'⟩:=Y9.1 s;rw [h.idx hk'];exact hall k (by have:=(X2.1 hk').1;omega)
  have e1:hF (A l) rs (base H)=hF zk3 rs (base H):=funext fun e=>ya3 rfl fun q s _=>hmem q s;have hHc:mkH Hc.length (hF (A l) rs (base H))=Hc:=by
   apply M1;intro e;by_cases he:e<Hc.length
   ·rw [zg3.2 ⟨he,rfl⟩,e1,M.hc e he]
   ·rw [Y5 (by rw [zp4];omega),Y5 (by omega)]
  have m:Sim T w0 S0 ⟨mkF (fF (A l) rs (F.get T)) n,Hc⟩ (zw8 a n) w S φ:=by
   have:=L;unfold StD at this;rw [hHc] at this;exact this
  have hfin:Sim T w0 S0 ⟨FF,Hc⟩ (zw8 a n) w S φ:=by
   have hget: ∀t x,FF.get T t=some x->(mkF (fF (A l) rs (F.get T)) n).get T t=some x:=by
    intro t x J;rw [M.ff] at J;have e2:fF (A l) rs (F.get T) t=fF zk3 rs (F.get T) t:=by
     by_cases hw: ∃q∈rs,q.o.dst=some t
     ·obtain ⟨q,s,G⟩:=hw;rw [yl2 s G fun q' hq' hd'=>h.uniq Y hq' s hd' G,yl2 s G fun q' hq' hd'=>h.uniq Y hq' s hd' G,hmem q s];rfl
     ·rw [zl0 fun q s G=>hw ⟨q,s,G⟩,zl0 fun q s G=>hw ⟨q,s,G⟩]
    refine zg2.2 ⟨?_,by rw [e2];exact J⟩;by_cases hw: ∃q∈rs,q.o.dst=some t
    ·obtain ⟨q,s,G⟩:=hw;obtain ⟨i,hqi⟩:=Y9.1 s;have hopi:=(h i q hqi).op;exact Y.dst q.d.j t (Y3.1 hopi).1 (by rw [zl2 hopi];exact G)
    ·rw [zl0 fun q s G=>hw ⟨q,s,G⟩] at J;exact (hF0 t x J).1
   exact ⟨fun t x J=>m.fr t x (hget t x J),fun t x J=>m.ids t x (hget t x J),m.chg,m.own,m.ex,m.lives,m.pins,m.ents,m.eids,m.apart⟩
  rcases hbad3 with ⟨k,hk3⟩|hK
  ·exfalso;obtain ⟨q,_,_,_,g1,_⟩:=hbad2 k hk3;have h1:=hall k (by have:=(X2.1 g1).1;omega);rw [hnb k hk3] at h1;cases h1
  ·exact HK _ hK _ _ ⟨S,φ,hfin⟩ a (ym9 V hdf)
 ·
  exfalso;have Z:(Array.replicate ops.size false).getD i false=true:=Z;rw [Y7,Array.getElem?_replicate] at Z;split at Z<;>cases Z
 ·show (Array.replicate ops.size false).getD k false=false;rw [Y7,Array.getElem?_replicate];split<;>rfl
 ·have hdr:Chg [] w {w with drawn:=w.drawn+1}:=⟨rfl,rfl,rfl,W6 _,fun k _ _=>rfl⟩;have h1:=hs.pure hdr;have hnoD: ∀k,A (Array.replicate ops.size false) k=false:=fun k=>by
   show (Array.replicate ops.size false).getD k false=false;rw [Y7,Array.getElem?_replicate];split<;>rfl
  have e1: ∀e,hF (A (Array.replicate ops.size false)) rs (base H) e=base H e:=fun e=>zr0 fun q _ s=>by rw [hnoD] at s;cases s
  have h2:=h1.pad (H':=mkH Hc.length (hF (A (Array.replicate ops.size false)) rs (base H))) (by rw [zp4];exact M.le) fun e f hf=>by
   obtain ⟨_,rfl⟩:=zg3.1 hf;rw [e1];unfold base;cases hg:H[e]? with
   |none=>exact .inl rfl
   |some x=>exact .inr rfl
  have hget: ∀t x,(mkF (fF (A (Array.replicate ops.size false)) rs (F.get T)) n).get T t=some x->F.get T t=some x:=by
   intro t x J;obtain ⟨_,J⟩:=zg2.1 J;by_cases hw: ∃q∈rs,q.o.dst=some t
   ·obtain ⟨q,s,G⟩:=hw;rw [yl2 s G fun q' hq' hd'=>h.uniq Y hq' s hd' G,hnoD] at J;exact J
   ·rw [zl0 fun q s G=>hw ⟨q,s,G⟩] at J;exact J
  refine ⟨fun t x J=>?_,fun t x J=>h2.ids t x (hget t x J),h2.chg,h2.own,h2.ex,h2.lives,h2.pins,h2.ents,h2.eids,h2.apart⟩;obtain ⟨v,hv,X⟩:=h2.fr t x (hget t x J);have:=ha.val t v hv;exact ⟨v,zm6.2 ⟨this.2,this.1⟩,X⟩
def vk1 {F:AF T} {H:List (Ent T.U)} {c:PF} {R:Type} {r:R} {b:Nat} (e:zb1 T P C.E) (f:P.follows .mixedOrders=true) {pm:Bool} {d:AV T.U->St T->Option R} {K:St T->Option R} (g: ∀st,K st=some r->kk4 Q n ds w0 S0 st) (h: ∀a st,d a st=some r->yu3 Q n ds w0 S0 a st) (i:ue2 T P C ops n pm d K ⟨F,H⟩=some r) (j:Sim T w0 S0 ⟨F,H⟩ c w S φ):
  CW P (.region b ops true) Q n ds c w:=
 fun a k=>wp_region_any f (gd8 e g h i j a k)
end
end Go.X
