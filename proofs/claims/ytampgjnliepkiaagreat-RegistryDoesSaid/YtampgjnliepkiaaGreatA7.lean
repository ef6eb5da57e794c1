import Derived.Test.YtampgjnliepkiaaGreatA6
set_option linter.defProp false
namespace Go.X
open Go.RowKit Go.V
structure DR where
 j:Nat
 nb:Nat
 ne:Nat
 tch:List Nat
 wr:List Nat
 loc:Option (Nat×Nat×Bool)
 kp:Nat->Nat->Bool
def nk:Nat->Nat->Bool:=fun _ _=>false
def DR.isSt (r:DR):Bool:=match r.loc with|some (_,_,true)=>true|_=>false
def DR.wrE (r:DR) (e:Nat):Bool:=zu2 e r.wr||(Nat.ble r.nb e&&Nat.blt e r.ne)
section
variable (T:Tab) (P:Program) (C:Ctx T) {R:Type}
def qk9 (F:AF T) (x:Operand):List Nat:=match aev T F x with|some a=>a.ids|none=> []
def gm6 (F:AF T) (l:List Operand):List Nat:=match zv9 T F l with|some aS=>u0 aS|none=> []
def gm8 (H:List (Ent T.U)) (i:Nat):Bool:=match H[i]? with|some (.drow _ _ _ _ _)=>true|_=>false
def epX (F:AF T) (H:List (Ent T.U)) (x:Operand):List Nat:=match aev T F x with|some (.eptr i _ _ _)=>(match gm8 T H i with|true=> []|false=> [i])|_=> []
def gm1 (l:List Nat) (nb:Nat) (a:List (Ent T.U)):AV T.U->Bool| .eptr i _ _ _=>zu2 i l||(Nat.ble nb i||gm8 T a i)|_=>true
def kw1 (o:Oper) (F:AF T) (H:List (Ent T.U)):List Nat:=
 match o.op with
 | .move x=>epX T F H x
 | .assign x=>epX T F H x
 | .fieldAddr _ x _=>epX T F H x
 | .load _ x=>qk9 T F x
 | .store _ x _=>qk9 T F x
 | .indexAddr _ x _=>qk9 T F x
 | .slice _ x _ _ _=>qk9 T F x
 | .sliceToArrayPointer _ x=>qk9 T F x
 | .nilCheck x=>epX T F H x
 | .lookup _ m _ _=>qk9 T F m
 | .insert _ m _ v=>ve7 [] (qk9 T F m)
 | .mapUpdate _ m _ v=>ve7 [] (qk9 T F m)
 | .convert _ _ x=>qk9 T F x
 | .call c=>match c.callee with
  | .value f=>vb0 T H (H.length+1) (ve7 [] (qk9 T F f++gm6 T F c.args.toList))
  |_=>ve7 [] (gm6 T F c.args.toList)
 |_=> []
def ql2 (H:List (Ent T.U)) (l:List Nat):List Nat:=l.filter fun i=>match H[i]? with|some e=>e.live|none=>false
def zl0 (l:List Nat):List (Ent T.U)->Nat->List (Ent T.U)
 | [],_=> []
 |e::r,i=>(match zu2 i l with|true=>e|false=>.gone)::zl0 l r (i+1)
def ye0 (l:List Nat):List (Ent T.U)->List (Ent T.U)->Nat->List (Ent T.U)
 | [],s,_=>s
 |_::_,[],_=> []
 |e::r,f::s,i=>(match zu2 i l with|true=>f|false=>e)::ye0 l r s (i+1)
def qk8 (B nb c:Nat) (b:List Nat) (a:List DR) (i:Nat):Bool:=Nat.blt i B||((Nat.ble nb i&&Nat.blt i c)||a.any fun r=>Nat.ble r.nb i&&(Nat.blt i r.ne&&zu2 r.j b))
def ys2 (F:AF T) (dst:Option Tmp):AV T.U:=match dst with|some d=>(match F.get T d with|some a=>a|none=>.raw undef)|none=>.raw undef
def gm7 (x y:Int):Bool:=decide (x=y)
def gy8:AV T.U->AV T.U->Bool
 | .cell ⟨.int k,x⟩,.cell ⟨.int k',y⟩=>zf0 k k'&&gm7 x y
 |_,_=>false
def gd9 (H H1:List (Ent T.U)) (k c:Nat):Bool:=match H[k]?,H1[k]? with
 |some (.blk t cs),some (.blk t' cs')=>Nat.beq t' t&&(Nat.beq cs'.length cs.length&&(cs.all (za6 T)&&(cs'.all (za6 T)&&(match cs[c]?,cs'[c]? with|some a,some b=>gy8 T a b|_,_=>false))))
 |_,_=>false
def wp5 (r:DR) (tch wr:List Nat) (lc:Option (Nat×Nat×Bool)):Bool:=
 (match r.loc with|none=>true|some (k,_,st)=>(!st|| !zu2 k tch)&& !zu2 k wr)&&
 (match lc with|none=>true|some (k,c,st)=>(!r.wrE k||(!st&&r.kp k c))&&((!st|| !zu2 k r.tch)&&(match r.loc with|none=>true|some (k',c',st')=> !(Nat.beq k' k)||(!(st||st')|| !(Nat.beq c' c)))))
def vf1 (b:List Nat) (a:List DR) (tch c:List Nat) (d:Option (Nat×Nat×Bool)):Bool:=a.all fun r=>zu2 r.j b||((tch.all (fun e=> !r.wrE e)&&c.all fun e=> !zu2 e r.tch)&&wp5 r tch c d)
def gn3 (r:DR) (tch wr:List Nat) (lc:Option (Nat×Nat×Bool)):Bool:=
 (match r.loc with|none=>true|some (k,_,st)=>(!st|| !zu2 k tch)&& !zu2 k wr)&&
 (match lc with|none=>true|some (k,c,st)=>(!r.wrE k|| !st)&&((!st|| !zu2 k r.tch)&&(match r.loc with|none=>true|some (k',c',st')=> !(Nat.beq k' k)||(!(st||st')|| !(Nat.beq c' c)))))
def wp1 (clo:List Nat) (recs:List DR) (tch wr:List Nat) (lc:Option (Nat×Nat×Bool)):Bool:=recs.all fun r=>zu2 r.j clo||((tch.all (fun e=> !r.wrE e)&&wr.all fun e=> !zu2 e r.tch)&&gn3 r tch wr lc)
def kpD (clo:List Nat) (recs:List DR) (lc:Option (Nat×Nat×Bool)):Bool:=recs.all fun r=>zu2 r.j clo||(match lc with|some (k,c,false)=> !r.wrE k||r.kp k c|_=>true)
def jr0 (n:Nat) (l:List Nat):Bool:=l.all fun i=>Nat.blt i n
def qm3 (l:List Nat):AF T->AF T
 | []=> []
 |(t,a)::r=>match zu2 t l with|true=>qm3 l r|false=>(t,a)::qm3 l r
def wr5 {R:Type} (b:Option (Nat×Option R)) (a:List Nat):Bool:=match b with|some (j,_)=>zu2 j a|none=>false
def qd7 {R:Type} (a:Option (Nat×Option R)) (b:List Nat):Bool:=match a with|some _=>b.isEmpty|none=>true
def wb7 {R:Type} (pm:Bool) (a:Option (Nat×Option R)):Bool:=match a with|some _=>false|none=>pm
def yn8 (B:Nat) (tch:List Nat) (a b:List (Ent T.U)):List (Ent T.U):=(ye0 T tch a b 0).take B
def go2 (B:Nat) (c:List Nat) (b:List DR) (tch f:List Nat) (a:AV T.U) (d:List (Ent T.U)):Bool:=
 vf1 c b tch f none&&(a.ids.isEmpty&&((b.all fun r=>zu2 r.j c||(r.wr.isEmpty&& !r.isSt))&&d.all fun e=>jr0 B e.cellIds))
def va2 (ops:Array Oper) (n B:Nat) (HB:List (Ent T.U)) (Fp:AF T) (pm:Bool) (Kp:AV T.U->St T->Option R) (o:Oper) (j:Nat) (pz:Option (Nat×Option R)) (FF:AF T) (Hc:List (Ent T.U)) (recs:List DR) (G:Option (Nat×Option R)->AF T->List (Ent T.U)->List DR->Option R):Option R:=
 let F:=yb6 T FF (zo7 o)
 let tch:=ql2 T Hc (kw1 T o F Hc++zr8 C o F Hc)
 let Hm:=zl0 T tch Hc 0
 let clo:=(yq0 ops ops.size).getD j []
 match zi0 n o.dst&&(zb3 o&&(zt6 F o&&(jr0 Hc.length (qv8 T F)&&Hm.all fun e=>jr0 Hc.length e.cellIds))) with
 |true=>match gn4 P o F Hm with
  |some (k,c,sv)=>zg7 P C o ⟨F,Hm⟩ (fun st'=>
   match qd7 pz (match sv with|some _=> [k]|none=> [])&&(wp1 clo recs [] [] (some (k,c,sv.isSome))&&((ys2 T st'.F o.dst).ids.all (qk8 B Hc.length Hc.length clo recs)&&(match sv with|some v=>v.ids|none=> []).all (qk8 B Hc.length Hc.length clo recs))) with
   |true=>j9 (kpD clo recs (some (k,c,sv.isSome))) (G pz (za9 T FF o.dst (ys2 T st'.F o.dst)) (qm7 k c sv (Hc.getD k .gone) Hc) (recs++ [⟨j,Hc.length,Hc.length,[],[],some (k,c,sv.isSome),nk⟩])) none
   |false=>none) (fun _ _=>none)
  |none=>zg7 P C o ⟨F,Hm⟩ (fun st'=>
   match qd7 pz (wrF C o ⟨F,Hm⟩)&&(vf1 clo recs tch (wrF C o ⟨F,Hm⟩) none&&(((ys2 T st'.F o.dst).ids.all (qk8 B Hc.length st'.H.length clo recs)&&gm1 T tch Hc.length HB (ys2 T st'.F o.dst))&&st'.H.all fun e=>e.cellIds.all (qk8 B Hc.length st'.H.length clo recs))) with
   |true=>G pz (za9 T FF o.dst (ys2 T st'.F o.dst)) (ye0 T tch Hc st'.H 0) (recs++ [⟨j,Hc.length,st'.H.length,tch,wrF C o ⟨F,Hm⟩,none,gd9 T Hm st'.H⟩])
   |false=>none) (fun a st'=>match wb7 pm pz&&go2 T B clo recs tch (wrF C o ⟨F,Hm⟩) a (yn8 T B tch Hc st'.H) with
   |true=>G (some (j,Kp a ⟨Fp,yn8 T B tch Hc st'.H⟩)) (za9 T FF o.dst (.raw undef)) (Hc++List.replicate (st'.H.length-Hc.length) .gone) (recs++ [⟨j,Hc.length,st'.H.length,[],[],none,nk⟩])
   |false=>none)
 |false=>none
def jh1 (n:Nat) (o:Oper) (j:Nat) (pz:Option (Nat×Option R)) (FF:AF T) (Hc:List (Ent T.U)) (recs:List DR) (G:Option (Nat×Option R)->AF T->List (Ent T.U)->List DR->Option R):Option R:=
 match zi0 n o.dst with
 |true=>G pz (za9 T FF o.dst (.raw undef)) Hc (recs++ [⟨j,Hc.length,Hc.length,[],[],none,nk⟩])
 |false=>none
def kv6 (ops:Array Oper) (n B:Nat) (i:List (Ent T.U)) (k:AF T) (pm:Bool) (l:AV T.U->St T->Option R) (K:St T->Option R):List Oper->Nat->Option (Nat×Option R)->AF T->List (Ent T.U)->List DR->Option R
 | [],_,e,f,h,_=>match e with|none=>K ⟨f,h⟩|some (_,m)=>m
 |o::r,j,e,f,h,a=>
  let G:=fun e f h a=>kv6 ops n B i k pm l K r (j+1) e f h a
  match wr5 e ((yq0 ops ops.size).getD j []) with
  |true=>jh1 T n o j e f h a G
  |false=>match o.guard with
   |none=>va2 T P C ops n B i k pm l o j e f h a G
   |some (g,b)=>match vw8 ops g with
    |none=>none
    |some d=>match f.get T d with
     |some (.cell ⟨.bool,c⟩)=>j9 c (match b with|true=>va2 T P C ops n B i k pm l o j e ((d,cB T true)::f) h a G|false=>jh1 T n o j e ((d,cB T true)::f) h a G) (match b with|true=>jh1 T n o j e ((d,cB T false)::f) h a G|false=>va2 T P C ops n B i k pm l o j e ((d,cB T false)::f) h a G)
     |some (.raw (.tuple _))=>jh1 T n o j e f h a G
     |_=>none
def vb2 (ops:Array Oper) (m:Nat):Bool:=(List.range m).all fun i=>match ops[i]? with
 |some o=>zb3 o&&((zo7 o++zq8 ops o).all fun t=>(zg1 ops i).any (fun j=>Nat.blt j m&&zf3 ops j==some t)||(List.range m).all fun j=>zf3 ops j != some t||((yq0 ops ops.size).getD j []).contains i)
 |none=>true
def okD (ops:Array Oper) (n:Nat):Bool:=vb2 ops ops.size&&(Go.V.zf9 (yo0 ops ops.size)&&(zl4 ops&&(zh7 ops ops.size&&(yo0 ops ops.size).all fun d=>Nat.blt d n)))
def gy6 (ops:Array Oper) (n:Nat) (pm:Bool) (a:AV T.U->St T->Option R) (K:St T->Option R) (st:St T):Option R:=
 match okD ops n with
 |true=>kv6 T P C ops n st.H.length st.H (qm3 T (yo0 ops ops.size) st.F) pm a K ops.toList 0 none st.F st.H []
 |false=>none
end
end Go.X
namespace Go.X
open Go.RowKit Go.V
structure Rec (T:Tab) where
 o:Oper
 d:DR
 skip:Bool
 F:AF T
 Hm:List (Ent T.U)
 a:AV T.U
 H1:List (Ent T.U)
 dead:Bool
 loc:Option (Nat×Nat×Option (AV T.U))
section
variable {T:Tab}
def upR (r:Rec T) (e:Nat):Option (Ent T.U):=
 match r.skip with
 |true=>none
 |false=>match r.loc with
  |some _=>none
  |none=>if e<r.d.nb then (if e∈r.d.tch/\e∈r.d.wr then r.H1[e]? else none) else r.H1[e]?
def upG (r:Rec T) (e:Nat) (x:Ent T.U):Ent T.U:=match r.loc with|some (k,c,some v)=>(if e=k then yp1 c v x else x)|_=>(upR r e).getD x
def yx0 (r:Rec T) (e:Nat):Prop:=upR r e≠none\/ ∃c v,r.loc=some (e,c,some v)
def jm9 {r} (h:r.loc=none) (e:Nat) (x:Ent T.U):upG r e x=(upR r e).getD x:=by unfold upG;rw [h]
def yp5 {r e} (h: ¬yx0 r e) (x:Ent T.U):upG r e x=x:=by
 have a:upR r e=none:=Classical.byContradiction fun b=>h (.inl b);unfold upG;split
 ·rename_i k c v d;split
  ·rename_i f;subst f;exact absurd (.inr ⟨c,v,d⟩) h
  ·rfl
 ·rw [a];rfl
def hF (D:Nat->Bool):List (Rec T)->(Nat->Ent T.U)->Nat->Ent T.U
 | [],f=>f
 |r::rs,f=>hF D rs (match D r.d.j with|true=>fun e=>upG r e (f e)|false=>f)
def fF (D:Nat->Bool):List (Rec T)->(Nat->Option (AV T.U))->Nat->Option (AV T.U)
 | [],f=>f
 |r::rs,f=>fF D rs (match r.o.dst with|some d=>(fun t=>if t=d then (match D r.d.j with|true=>some r.a|false=>f t) else f t)|none=>f)
def base (H0:List (Ent T.U)) (e:Nat):Ent T.U:=(H0[e]?).getD .gone
def zi5:Nat->Bool:=fun _=>true
def ya4 (D:Nat->Bool): ∀(ps a:List (Rec T)) (f:Nat->Ent T.U),hF D (ps++a) f=hF D a (hF D ps f)
 | [],_,_=>rfl
 |r::ps,a,f=>ya4 D ps a _
def jn7 (D:Nat->Bool): ∀(ps a:List (Rec T)) (f:Nat->Option (AV T.U)),fF D (ps++a) f=fF D a (fF D ps f)
 | [],_,_=>rfl
 |r::ps,a,f=>jn7 D ps a _
def zr3 {D:Nat->Bool} {e:Nat}: ∀ {rs:List (Rec T)} {f:Nat->Ent T.U},(∀r∈rs,D r.d.j=true-> ¬yx0 r e)->hF D rs f e=f e
 | [],f,_=>rfl
 |r::rs,f,h=>by
  unfold hF;rw [zr3 (rs:=rs) fun b a=>h b (Z4 _ a)];cases hD:D r.d.j with
  |false=>rfl
  |true=>exact yp5 (h r (U1 ..) hD) _
def zy9 {D b:Nat->Bool} {e:Nat}: ∀ {rs:List (Rec T)} {f g:Nat->Ent T.U},f e=g e->(∀r∈rs,yx0 r e->D r.d.j=b r.d.j)->hF D rs f e=hF b rs g e
 | [],f,g,a,_=>a
 |r::rs,f,g,a,h=>by
  unfold hF;refine zy9 (rs:=rs) ?_ fun k c=>h k (Z4 _ c);by_cases i:yx0 r e
  ·rw [h r (U1 ..) i];cases b r.d.j
   ·exact a
   ·show upG r e (f e)=upG r e (g e);rw [a]
  ·cases D r.d.j<;>cases b r.d.j<;>simp only [yp5 i]<;>exact a
def vb7 {D b:Nat->Bool} {e c:Nat}: ∀ {rs:List (Rec T)} {f g:Nat->Ent T.U},simE c (f e) (g e)->(∀r∈rs,yx0 r e->D r.d.j=b r.d.j\/ ∃c' v,r.loc=some (e,c',some v)/\c'≠c)->simE c (hF D rs f e) (hF b rs g e)
 | [],f,g,a,_=>a
 |r::rs,f,g,a,h=>by
  unfold hF;refine vb7 (rs:=rs) ?_ fun o i=>h o (Z4 _ i);by_cases k:yx0 r e
  ·have same:simE c (upG r e (f e)) (upG r e (g e)):=by
    unfold upG;split
    ·split
     ·exact a.both _ _
     ·exact a
    ·cases hx:upR r e with
     |some x=>exact .inl rfl
     |none=>exact a
   rcases h r (U1 ..) k with p|⟨c',v,q,l⟩
   ·rw [p];cases b r.d.j with
    |false=>exact a
    |true=>exact same
   ·have m: ∀x,upG r e x=yp1 c' v x:=fun x=>by unfold upG;rw [q];simp only [if_true]
    cases D r.d.j<;>cases b r.d.j
    ·exact a
    ·show simE c (f e) (upG r e (g e));rw [m];exact (a.symm.left l v).symm
    ·show simE c (upG r e (f e)) (g e);rw [m];exact a.left l v
    ·exact same
  ·cases D r.d.j<;>cases b r.d.j<;>simp only [yp5 k]<;>exact a
def vf9 {D D':Nat->Bool} {e c:Nat}: ∀ {rs:List (Rec T)} {f g:Nat->Ent T.U},simE c (f e) (g e)->(∀i r,rs[i]?=some r->yx0 r e->(D r.d.j=D' r.d.j\/ ∃c' v,r.loc=some (e,c',some v)/\c'≠c)\/(r.loc=none/\D' r.d.j=true/\ ∃y,upR r e=some y/\simE c y (hF D' (rs.take i) g e)))->simE c (hF D rs f e) (hF D' rs g e)
 | [],f,g,hf,_=>hf
 |r::rs,f,g,hf,h=>by
  unfold hF;refine vf9 (rs:=rs) ?_ fun i r' hr' hu=>(h (i+1) r' (by simpa using hr') hu).imp id fun ⟨h1,h2,y,h3,h4⟩=>⟨h1,h2,y,h3,h4⟩;by_cases hu:yx0 r e
  ·rcases h 0 r rfl hu with h0|⟨h1,h2,y,h3,h4⟩
   ·have:= @vb7 _ D D' e c [r] _ _ hf fun r' hr' hu'=>by simp at hr';subst hr';exact h0
    exact this
   ·have h4:simE c y (g e):=h4;have up: ∀x,upG r e x=y:=fun x=>by rw [jm9 h1,h3];rfl
    rw [h2];cases D r.d.j
    ·show simE c (f e) (upG r e (g e));rw [up];exact hf.trans h4.symm
    ·show simE c (upG r e (f e)) (upG r e (g e));rw [up,up];exact .inl rfl
  ·cases D r.d.j<;>cases D' r.d.j<;>simp only [yp5 hu]<;>exact hf
def vf8 {D:Nat->Bool} {e c:Nat} {v:AV T.U}: ∀ {rs:List (Rec T)} {f g:Nat->Ent T.U},f e=yp1 c v (g e)->(∀r∈rs,D r.d.j=true->yx0 r e-> ∃c' k,r.loc=some (e,c',some k)/\c≠c')->hF D rs f e=yp1 c v (hF D rs g e)
 | [],f,g,a,_=>a
 |r::rs,f,g,a,h=>by
  unfold hF;refine vf8 (rs:=rs) ?_ fun l b=>h l (Z4 _ b);cases hD:D r.d.j with
  |false=>exact a
  |true=>
   show upG r e (f e)=yp1 c v (upG r e (g e));by_cases i:yx0 r e
   ·obtain ⟨c',k,m,o⟩:=h r (U1 ..) hD i;unfold upG;rw [m];simp only [if_true];rw [a,vu5 o]
   ·rw [yp5 i,yp5 i];exact a
def zk3 {D:Nat->Bool} {t:Nat}: ∀ {rs:List (Rec T)} {f:Nat->Option (AV T.U)},(∀r∈rs,r.o.dst≠some t)->fF D rs f t=f t
 | [],f,_=>rfl
 |r::rs,f,h=>by
  unfold fF;rw [zk3 (rs:=rs) fun b a=>h b (Z4 _ a)];have:=h r (U1 ..);cases hd:r.o.dst with
  |none=>rfl
  |some d=>exact if_neg (fun e=>this (by rw [hd,e]))
def yi2 {D t}: ∀ {rs f} {r:Rec T},r∈rs->r.o.dst=some t->(∀i∈rs,i.o.dst=some t->i=r)->fF D rs f t=(match D r.d.j with|true=>some r.a|false=>f t)
 | [],f,r,h,_,_=>by cases h
 |q::rs,f,r,h,p,k=>by
  unfold fF;by_cases c:r∈rs
  ·rw [yi2 c p fun i b=>k i (Z4 _ b)];cases hD:D r.d.j with
   |true=>rfl
   |false=>
    by_cases g:q.o.dst=some t
    ·have e:=k q (U1 ..) g;subst e;simp only [g,if_true,hD]
    ·cases l:q.o.dst with
     |none=>rfl
     |some d=>exact if_neg (fun e=>g (by rw [l,e]))
  ·have l:q=r:=by
    rcases Z0.1 h with h|h
    ·exact h.symm
    ·exact absurd h c
   subst l;rw [zk3 fun i b m=>c (k i (Z4 _ b) m▸b)];simp only [p,if_true]
def ym5 {l}: ∀ {H i e},(zl0 T l H i)[e]?=(H[e]?).map fun x=>if (i+e)∈l then x else .gone
 | [],i,e=>by simp [zl0]
 |x::r,i,0=>by
  simp only [zl0,Y4,Z8,M3];cases hm:zu2 i l with
  |true=>rw [if_pos (zb7.1 hm)]
  |false=>rw [if_neg (fun h=>by rw [zb7.2 h] at hm;cases hm)]
 |x::r,i,e+1=>by
  simp only [zl0,List.getElem?_cons_succ];rw [ym5 (H:=r),show i+1+e=i+(e+1) by omega]
def zs6 {l}: ∀ {H i},(zl0 T l H i).length=H.length
 | [],i=>rfl
 |x::r,i=>by simp [zl0,zs6 (H:=r)]
def yr1 {l}: ∀ {H H1 i e},H.length<=H1.length->(ye0 T l H H1 i)[e]?=if e<H.length then (if (i+e)∈l then H1[e]? else H[e]?) else H1[e]?
 | [],H1,i,e,_=>by simp [ye0]
 |x::r,[],i,e,h=>by simp at h
 |x::r,y::s,i,0,h=>by
  simp only [ye0,Y4,M3,U5,Nat.zero_lt_succ,if_true];cases hm:zu2 i l with
  |true=>rw [if_pos (zb7.1 hm)]
  |false=>rw [if_neg (fun h=>by rw [zb7.2 h] at hm;cases hm)]
 |x::r,y::s,i,e+1,h=>by
  simp only [ye0,List.getElem?_cons_succ,U5];rw [yr1 (H:=r) (H1:=s) (by simpa using h),show i+1+e=i+(e+1) by omega];simp only [Nat.add_lt_add_iff_right]
def zy1 {l}: ∀ {H H1 i},H.length<=H1.length->(ye0 T l H H1 i).length=H1.length
 | [],H1,i,_=>rfl
 |x::r,[],i,h=>by simp at h
 |x::r,y::s,i,h=>by simp [ye0,zy1 (H:=r) (H1:=s) (by simpa using h)]
def zx9 {F i a}: ∀ {l},(yb6 T F l).get T i=some a->i∈l/\F.get T i=some a
 | [],h=>by simp [yb6,AF.get] at h
 |j::r,h=>by
  unfold yb6 at h;split at h
  ·rename_i u d;simp only [AF.get] at h;split at h
   ·rename_i e;have:=X1 e;subst this;rw [d];exact ⟨U1 ..,h⟩
   ·obtain ⟨b,c⟩:=zx9 h;exact ⟨Z4 _ b,c⟩
  ·obtain ⟨b,c⟩:=zx9 h;exact ⟨Z4 _ b,c⟩
end
section
variable {T:Tab} (P:Program) (C:Ctx T) (ops:Array Oper) (n B:Nat) (F0:AF T) (H0:List (Ent T.U))
def kz5 (B:Nat) (ps:List (Rec T)) (ops:Array Oper) (r:Rec T) (i:Nat):Prop:=i<B\/(r.d.nb<=i/\i<r.d.ne)\/ ∃a∈ps,a.d.nb<=i/\i<a.d.ne/\Tp ops r.d.j a.d.j
structure ChkR (r r':Rec T):Prop where
 tch: ∀e∈r.d.tch,r'.d.wrE e=false
 wr: ∀e∈r.d.wr,e∉r'.d.tch
 l1: ∀k c v,r'.loc=some (k,c,some v)->k∉r.d.tch
 l2: ∀k c s,r'.loc=some (k,c,s)->k∉r.d.wr
 l3: ∀k c s,r.loc=some (k,c,s)->r'.d.wrE k=false\/s=none/\r'.d.kp k c=true
 l4: ∀k c v,r.loc=some (k,c,some v)->k∉r'.d.tch
 l5: ∀k c s c' s',r.loc=some (k,c,s)->r'.loc=some (k,c',s')->s.isSome=true\/s'.isSome=true->c'≠c
structure LocOk (ps:List (Rec T)) (r:Rec T) (k c:Nat) (sv:Option (AV T.U)):Prop where
 skip:r.skip=false
 ns:zb3 r.o=true
 pre:zt6 r.F r.o=true
 lt:k<r.d.nb
 ne:r.d.ne=r.d.nb
 tch:r.d.tch= []
 wr:r.d.wr= []
 fr: ∀t a,r.F.get T t=some a->t∈zo7 r.o/\fF zi5 ps (F0.get T) t=some a
 step: ∀(F':AF T) (H':List (Ent T.U)) (f:Ent T.U),(∀t a,r.F.get T t=some a->F'.get T t=some a)->H'[k]?=some f->simE c f (hF zi5 ps (base H0) k)->zg7 P C r.o ⟨F',H'⟩ some (fun _ _=>none)=some ⟨za9 T F' r.o.dst r.a,qm7 k c sv f H'⟩
 chk: ∀r'∈ps,Tp ops r.d.j r'.d.j\/ChkR r r'
 ids: ∀i∈r.a.ids,kz5 B ps ops r i
 vids: ∀v,sv=some v-> ∀i∈v.ids,kz5 B ps ops r i
structure TakeOk (ps:List (Rec T)) (r:Rec T):Prop where
 ns:zb3 r.o=true
 pre:zt6 r.F r.o=true
 step: ∃Fz,zg7 P C r.o ⟨r.F,r.Hm⟩ some (fun _ _=>none)=some ⟨za9 T Fz r.o.dst r.a,r.H1⟩
 keeps:Keeps T r.d.wr r.Hm r.H1
 hlen:r.Hm.length=r.d.nb
 hm: ∀e,e<r.d.nb->r.Hm[e]?=some (if e∈r.d.tch then hF zi5 ps (base H0) e else .gone)
 live: ∀e∈r.d.tch,e<r.d.nb/\(hF zi5 ps (base H0) e).live=true
 ne:r.H1.length=r.d.ne
 fr: ∀t a,r.F.get T t=some a->t∈zo7 r.o/\fF zi5 ps (F0.get T) t=some a
 fid: ∀t a,r.F.get T t=some a-> ∀i∈a.ids,i<r.d.nb
 eids: ∀f∈r.Hm,∀i∈f.cellIds,i<r.d.nb
 chk: ∀r'∈ps,Tp ops r.d.j r'.d.j\/ChkR r r'
 ids: ∀i∈r.a.ids,kz5 B ps ops r i
 ep:gm1 T r.d.tch r.d.nb H0 r.a=true
 cids: ∀f∈r.H1,∀i∈f.cellIds,kz5 B ps ops r i
structure RecOk (ps:List (Rec T)) (r:Rec T):Prop where
 idx:r.d.j=ps.length
 op:ops[r.d.j]?=some r.o
 dst:zi0 n r.o.dst=true
 le:B<=r.d.nb/\r.d.nb<=r.d.ne
 mono: ∀r'∈ps,r'.d.ne<=r.d.nb
 skip:r.skip=true->r.a=.raw undef/\r.loc=none
 dskip:r.dead=true->r.skip=true
 take:r.skip=false->r.loc=none->TakeOk P C ops B F0 H0 ps r
 lok: ∀k c sv,r.loc=some (k,c,sv)->LocOk P C ops B F0 H0 ps r k c sv
 dloc:r.d.loc=r.loc.map fun p=>(p.1,p.2.1,p.2.2.isSome)
 kp: ∀k c,r.d.kp k c=true->r.skip=false/\r.loc=none/\ ∃x y,r.Hm[k]?=some x/\r.H1[k]?=some y/\x.live=true/\simE c y x
 guard:r.dead=false->match r.o.guard with
  |none=>r.skip=false
  |some (g,b)=> ∃rg∈ps,rg.d.j=g/\(∃d,rg.o.dst=some d)/\(r.skip=false->rg.a=cB T b)/\(r.skip=true->rg.a=cB T (!b)\/ ∃u,rg.a=.raw (.tuple u))
structure PanI (ps:List (Rec T)) (j0:Nat) (a:AV T.U) (core:List (Ent T.U)):Prop where
 out: ∃(r0:Rec T) (tch:List Nat) (F:AF T) (Hm Hp:List (Ent T.U)) (wr:List Nat),ps[j0]?=some r0/\r0.dead=true/\
  (match r0.o.guard with|none=>True|some (g,b)=> ∃rg∈ps.take j0,rg.d.j=g/\(∃d,rg.o.dst=some d)/\rg.a=cB T b)/\
  zb3 r0.o=true/\zt6 F r0.o=true/\zg7 P C r0.o ⟨F,Hm⟩ (fun _=>none) (fun a st=>some (a,st.H))=some (a,Hp)/\Keeps T wr Hm Hp/\
  Hm.length=r0.d.nb/\(∀e,e<r0.d.nb->Hm[e]?=some (if e∈tch then hF zi5 (ps.take j0) (base H0) e else .gone))/\
  (∀e∈tch,e<r0.d.nb/\(hF zi5 (ps.take j0) (base H0) e).live=true)/\Hp.length=r0.d.ne/\
  (∀t a,F.get T t=some a->t∈zo7 r0.o/\fF zi5 (ps.take j0) (F0.get T) t=some a)/\(∀t a,F.get T t=some a-> ∀i∈a.ids,i<r0.d.nb)/\(∀f∈Hm,∀i∈f.cellIds,i<r0.d.nb)/\
  (∀r'∈ps.take j0,Tp ops j0 r'.d.j\/((∀e∈tch,r'.d.wrE e=false)/\ ∀k c v,r'.loc=some (k,c,some v)->k∉tch))/\
  (∀e,e<B->core[e]?=some (if e∈tch then (Hp[e]?).getD .gone else hF zi5 (ps.take j0) (base H0) e))/\core.length=B
 deads: ∀q∈ps,q.dead=true->q.d.j=j0\/Tp ops q.d.j j0
 wrs: ∀q∈ps,q.skip=false->(q.d.wr≠ []\/ ∃k c v,q.loc=some (k,c,some v))->Tp ops j0 q.d.j
 coreIds: ∀f∈core,∀i∈f.cellIds,i<B
 aids:a.ids= []
def PzOk {R:Type} (c:AF T) (d:AV T.U->St T->Option R) (ps:List (Rec T)):Option (Nat×Option R)->Prop
 |none=> ∀q∈ps,q.dead=false
 |some (e,f)=> ∃a b,PanI P C ops B F0 H0 ps e a b/\f=d a ⟨c,b⟩
def TrOk (rs:List (Rec T)):Prop:= ∀j r,rs[j]?=some r->RecOk P C ops n B F0 H0 (rs.take j) r
structure AccD (ps:List (Rec T)) (FF:AF T) (Hc:List (Ent T.U)) (recs:List DR):Prop where
 tr:TrOk P C ops n B F0 H0 ps
 ff: ∀t,FF.get T t=fF zi5 ps (F0.get T) t
 hc: ∀e,e<Hc.length->Hc[e]?=some (hF zi5 ps (base H0) e)
 le:B<=Hc.length
 mono: ∀r∈ps,r.d.ne<=Hc.length
 recs:recs=ps.map (·.d)
end
section
variable {T:Tab} {P:Program} {C:Ctx T} {ops:Array Oper} {n B:Nat} {F0:AF T} {H0:List (Ent T.U)}
structure OkD (ops:Array Oper) (n:Nat):Prop where
 dep:vb2 ops ops.size=true
 uniq: ∀i j d,i<ops.size->j<ops.size->zf3 ops i=some d->zf3 ops j=some d->i=j
 back:zl4 ops=true
 guards:zh7 ops ops.size=true
 dst: ∀i d,i<ops.size->zf3 ops i=some d->d<n
def kh0 (h:okD ops n=true):OkD ops n:=by
 unfold okD at h;simp only [X3] at h;obtain ⟨b,c,e,f,a⟩:=h;refine ⟨b,yn9 c,e,f,fun i d g j=>?_⟩;rw [Y8] at a;simpa [U4] using a d (by unfold yo0;rw [T3];exact ⟨i,V0.2 g,j⟩)
def OkD.reads (h:OkD ops n) {i o} (e:ops[i]?=some o) {t} (f:t∈zo7 o++zq8 ops o):(∃j,(zg1 ops i).contains j=true/\zf3 ops j=some t)\/ ∀j,j<ops.size->zf3 ops j=some t->Tp ops j i:=by
 have g:=(Y3.1 e).1;have b:=h.dep;unfold vb2 at b;rw [Y8] at b;have:=b i (V0.2 g);rw [e] at this;simp only [X3,Y8] at this;have:=this.2 t f;simp only [M2] at this;rcases this with c|c
 ·rw [List.any_eq_true] at c;obtain ⟨j,d,a⟩:=c;simp only [X3,beq_iff_eq] at a;exact .inl ⟨j,by simpa using d,a.2⟩
 ·rw [Y8] at c;refine .inr fun j d b=>?_;have a:=c j (V0.2 d);rw [M2] at a;rcases a with a|a
  ·rw [b] at a;simp at a
  ·exact zp4 _ _ _ (T7.1 a)
def OkD.guard (h:OkD ops n) {i} {o:Oper} (c:ops[i]?=some o) {g b} (d:o.guard=some (g,b)):g<i:=by
 have e:=(Y3.1 c).1;have a:=h.guards;unfold zh7 at a;rw [Y8] at a;have:=a i (V0.2 e);rw [c] at this;simp only [d] at this;simpa [U4] using this
def zk4 {i o} (a:ops[i]?=some o):zf3 ops i=o.dst:=by simp [zf3,a]
def TrOk.uniq (l:OkD ops n) {rs} (h:TrOk P C ops n B F0 H0 rs) {r c} (m:r∈rs) (f:c∈rs) {t} (p:r.o.dst=some t) (g:c.o.dst=some t):r=c:=by
 obtain ⟨i,k⟩:=Y9.1 m;obtain ⟨j,e⟩:=Y9.1 f;have a:=h i r k;have b:=h j c e;have q:r.d.j=i:=by rw [a.idx,Y6,V9 (Nat.le_of_lt (X2.1 k).1)]
 have s:c.d.j=j:=by rw [b.idx,Y6,V9 (Nat.le_of_lt (X2.1 e).1)]
 have:=l.uniq r.d.j c.d.j t (Y3.1 a.op).1 (Y3.1 b.op).1 (by rw [zk4 a.op];exact p) (by rw [zk4 b.op];exact g);rw [q,s] at this;subst this;rw [k] at e;exact X5 e
def TrOk.snoc {ps r} (h:TrOk P C ops n B F0 H0 ps) (c:RecOk P C ops n B F0 H0 ps r):TrOk P C ops n B F0 H0 (ps++ [r]):=by
 intro j q a;rcases M1 j ps.length with b|b|b
 ·rw [X8 b] at a;rw [Z7 (by omega)];exact h j q a
 ·subst b;rw [Z2 (W6 _),Nat.sub_self] at a;simp at a;subst a;rw [R2];exact c
 ·rw [Y5 (by simp;omega)] at a;cases a
def TrOk.dlocs {ps} (h:TrOk P C ops n B F0 H0 ps): ∀r∈ps,r.d.loc=r.loc.map fun p=>(p.1,p.2.1,p.2.2.isSome):=fun r a=>by
 obtain ⟨j,b⟩:=Y9.1 a;exact (h j r b).dloc
def AccD.skip {ps:List (Rec T)} {FF:AF T} {Hc:List (Ent T.U)} {recs:List DR} (h:AccD P C ops n B F0 H0 ps FF Hc recs) {o:Oper} (ho:ops[ps.length]?=some o) (hd:zi0 n o.dst=true) (hg:match o.guard with
  |none=>False
  |some (g,b)=> ∃rg∈ps,rg.d.j=g/\(∃d,rg.o.dst=some d)/\(rg.a=cB T (!b)\/ ∃u,rg.a=.raw (.tuple u))):
  ∃r,AccD P C ops n B F0 H0 (ps++ [r]) (za9 T FF o.dst (.raw undef)) Hc (recs++ [⟨ps.length,Hc.length,Hc.length,[],[],none,nk⟩])/\r.dead=false/\r.skip=true:=by
 let r:Rec T:=⟨o,⟨ps.length,Hc.length,Hc.length,[],[],none,nk⟩,true,[],[],.raw undef,[],false,none⟩
 have hup: ∀e,¬yx0 r e:=fun e h=>h.elim (fun h=>h rfl) fun ⟨_,_,h⟩=>by cases h
 refine ⟨r,?_,rfl,rfl⟩;refine ⟨h.tr.snoc ⟨rfl,ho,hd,⟨h.le,W6 _⟩,h.mono,fun _=>⟨rfl,rfl⟩,fun h=>(by cases h),fun h=>(by cases h),fun _ _ _ h=>(by cases h),rfl,fun _ _ h=>(by cases h),fun _=>?_⟩,?_,fun e he=>?_,h.le,fun q hq=>?_,by rw [h.recs];simp [r]⟩
 ·show match o.guard with|none=>_|some (g,b)=>_
  split at hg
  ·exact hg.elim
  ·rename_i g b hgg;obtain ⟨rg,a1,a2,a3,a4⟩:=hg;exact ⟨rg,a1,a2,a3,fun h=>(by cases h),fun _=>a4⟩
 ·intro t;rw [jn7];show (za9 T FF o.dst (.raw undef)).get T t=(match o.dst with|some d=>(fun t=>if t=d then (match zi5 r.d.j with|true=>some r.a|false=>fF zi5 ps (F0.get T) t) else fF zi5 ps (F0.get T) t)|none=>fF zi5 ps (F0.get T)) t;cases hdst:o.dst with
  |none=>exact h.ff t
  |some d=>
   simp only [za9,AF.get,zi5];cases hb:Nat.beq d t with
   |true=>have:=X1 hb;subst this;simp [r]
   |false=>rw [if_neg (fun e=>by subst e;simp at hb)];exact h.ff t
 ·rw [h.hc e he,ya4,zr3 (rs:= [r]) fun r' hr' _=>by simp at hr';subst hr';exact hup e]
 ·rcases X4.1 hq with hq|hq
  ·exact h.mono q hq
  ·simp at hq;subst hq;exact W6 _
def zy0 {m l} (h:jr0 m l=true): ∀i∈l,i<m:=by
 intro i a;unfold jr0 at h;rw [Y8] at h;simpa [U4] using h i a
def jt2 {F t a} (h:F.get T t=some a): ∀i∈a.ids,i∈qv8 T F:=yv7 h
def ym1 {nb e j a} {ps:List (Rec T)} (g:a=ps.map (·.d)) {i} (h:qk8 B nb e ((yq0 ops ops.size).getD j []) a i=true):
  i<B\/(nb<=i/\i<e)\/ ∃b∈ps,b.d.nb<=i/\i<b.d.ne/\Tp ops j b.d.j:=by
 unfold qk8 at h;simp only [M2,X3,U4] at h;rcases h with h|⟨k,l⟩|h
 ·exact .inl h
 ·exact .inr (.inl ⟨Y1 k,l⟩)
 ·rw [List.any_eq_true] at h;obtain ⟨d,f,h⟩:=h;simp only [X3,U4] at h;rw [g] at f;obtain ⟨b,c,rfl⟩:=U0.1 f;exact .inr (.inr ⟨b,c,Y1 h.1,h.2.1,zp4 ops.size _ _ (zb7.1 h.2.2)⟩)
def kf5 {x y:Int} (h:gm7 x y=true):x=y:=of_decide_eq_true h
def ga9 {clo:List Nat} {recs:List DR} {tch wr:List Nat} {lc:Option (Nat×Nat×Bool)} (h:wp1 clo recs tch wr lc=true) (hk:kpD clo recs lc=true):vf1 clo recs tch wr lc=true:=by
 unfold wp1 at h;unfold kpD at hk;unfold vf1;rw [Y8] at h hk⊢;intro r hr;have h1:=h r hr;have h2:=hk r hr;cases hm:zu2 r.j clo with
 |true=>rfl
 |false=>
  rw [hm] at h1 h2;rw [Bool.false_or] at h1 h2⊢;rw [X3] at h1⊢;refine ⟨h1.1,?_⟩;have h3:=h1.2;unfold gn3 at h3;unfold wp5;cases lc with
  |none=>exact h3
  |some p=>
   obtain ⟨k,c,st⟩:=p;rw [X3] at h3⊢;refine ⟨h3.1,?_⟩;have h4:=h3.2;simp only [X3] at h4⊢;refine ⟨?_,h4.2⟩;cases st with
   |true=>simpa using h4.1
   |false=>simpa using h2
def vp3 {H H1:List (Ent T.U)} {k c:Nat} (h:gd9 T H H1 k c=true): ∃x y,H[k]?=some x/\H1[k]?=some y/\x.live=true/\simE c y x:=by
 unfold gd9 at h;split at h<;>try (cases h;done)
 rename_i t cs t' cs' e1 e2;simp only [X3] at h;obtain ⟨h1,h2,h3,h4,h5⟩:=h;split at h5<;>try (cases h5;done)
 rename_i a b e3 e4;have hab:b=a:=by
  unfold gy8 at h5;split at h5<;>try (cases h5;done)
  rw [X3] at h5;have:=za8 h5.1;subst this;rename_i _ x y;rw [show y=x from (kf5 h5.2).symm]
 exact ⟨_,_,e1,e2,rfl,.inr ⟨X1 h1,X1 h2,by rw [e3,e4,hab],h4,h3⟩⟩
def yy9 {j:Nat} {recs:List DR} {ps:List (Rec T)} (hr:recs=ps.map (·.d)) (hdl: ∀r'∈ps,r'.d.loc=r'.loc.map fun p=>(p.1,p.2.1,p.2.2.isSome)) {tch wr:List Nat} {lc:Option (Nat×Nat×Bool)} (h:vf1 ((yq0 ops ops.size).getD j []) recs tch wr lc=true):
  ∀r'∈ps,Tp ops j r'.d.j\/((∀e∈tch,r'.d.wrE e=false)/\(∀e∈wr,e∉r'.d.tch)/\(∀k c v,r'.loc=some (k,c,some v)->k∉tch)/\(∀k c s,r'.loc=some (k,c,s)->k∉wr)/\(∀k c st,lc=some (k,c,st)->(r'.d.wrE k=false\/st=false/\r'.d.kp k c=true)/\(st=true->k∉r'.d.tch)/\ ∀c' s',r'.loc=some (k,c',s')->st=true\/s'.isSome=true->c'≠c)):=by
 intro r' hr';unfold vf1 at h;rw [Y8] at h;have:=h r'.d (by rw [hr];exact List.mem_map_of_mem hr');have hdl:=hdl r' hr';generalize r'.d=d at this hdl⊢;generalize r'.loc=ll at hdl⊢;rw [M2] at this;rcases this with h|h
 ·exact .inl (zp4 ops.size _ _ (zb7.1 h))
 ·rw [X3,X3,Y8,Y8] at h;obtain ⟨⟨h1,h2⟩,h3⟩:=h;have nm: ∀ {e:Nat} {l:List Nat},(!zu2 e l)=true->e∉l:=fun {e l} h hm=>by rw [zb7.2 hm] at h;cases h
  unfold wp5 at h3;rw [X3] at h3;obtain ⟨h3,h4⟩:=h3;refine .inr ⟨fun e he=>by have:=h1 e he;simpa using this,fun e he=>nm (h2 e he),fun k c v hl=>?_,fun k c sv hl=>?_,fun k c st hl=>?_⟩
  ·subst hl;rw [hdl] at h3;simp only [Z8,Option.isSome_some,M8,Bool.false_or,X3] at h3;exact nm h3.1
  ·subst hl;rw [hdl] at h3;simp only [Z8,X3] at h3;exact nm h3.2
  ·subst hl;simp only [X3] at h4;obtain ⟨g1,g2,g3⟩:=h4;refine ⟨by simpa using g1,fun hst=>?_,fun c' s' hl hor=>?_⟩
   ·subst hst;simp only [M8,Bool.false_or] at g2;exact nm g2
   ·subst hl;rw [hdl] at g3;simp only [Z8,V7,M8,Bool.false_or] at g3;intro e;subst e;rw [V7] at g3;rcases hor with h|h<;>rw [h] at g3<;>simp at g3
def AccD.take {ps:List (Rec T)} {FF:AF T} {Hc:List (Ent T.U)} {recs:List DR} (h:AccD P C ops n B F0 H0 ps FF Hc recs) {o:Oper} (ho:ops[ps.length]?=some o) (hg:match o.guard with
  |none=>True
  |some (g,b)=> ∃rg∈ps,rg.d.j=g/\(∃d,rg.o.dst=some d)/\rg.a=cB T b) {tch:List Nat} (htch: ∀e∈tch,∃f,Hc[e]?=some f/\f.live=true) {F:AF T} (hFk:F=yb6 T FF (zo7 o))
  (hdst:zi0 n o.dst=true) (hns:zb3 o=true) (hpre:zt6 F o=true) (hlt:jr0 Hc.length (qv8 T F)=true) (hlc:((zl0 T tch Hc 0).all fun e=>jr0 Hc.length e.cellIds)=true)
  {a:AV T.U} {H1:List (Ent T.U)} {Fz:AF T} (hstep:zg7 P C o ⟨F,zl0 T tch Hc 0⟩ some (fun _ _=>none)=some ⟨za9 T Fz o.dst a,H1⟩) (hk:Keeps T (wrF C o ⟨F,zl0 T tch Hc 0⟩) (zl0 T tch Hc 0) H1)
  (hchk:vf1 ((yq0 ops ops.size).getD ps.length []) recs tch (wrF C o ⟨F,zl0 T tch Hc 0⟩) none=true) (hid:((ys2 T (za9 T Fz o.dst a) o.dst).ids.all (qk8 B Hc.length H1.length ((yq0 ops ops.size).getD ps.length []) recs))=true)
  (hep:gm1 T tch Hc.length H0 (ys2 T (za9 T Fz o.dst a) o.dst)=true) (hcid:(H1.all fun e=>e.cellIds.all (qk8 B Hc.length H1.length ((yq0 ops ops.size).getD ps.length []) recs))=true):
  ∃r,AccD P C ops n B F0 H0 (ps++ [r]) (za9 T FF o.dst (ys2 T (za9 T Fz o.dst a) o.dst)) (ye0 T tch Hc H1 0) (recs++ [⟨ps.length,Hc.length,H1.length,tch,wrF C o ⟨F,zl0 T tch Hc 0⟩,none,gd9 T (zl0 T tch Hc 0) H1⟩])/\r.dead=false/\r.d.j=ps.length/\r.d.wr=wrF C o ⟨F,zl0 T tch Hc 0⟩/\r.loc=none:=by
 let r:Rec T:=⟨o,⟨ps.length,Hc.length,H1.length,tch,wrF C o ⟨F,zl0 T tch Hc 0⟩,none,gd9 T (zl0 T tch Hc 0) H1⟩,false,F,zl0 T tch Hc 0,ys2 T (za9 T Fz o.dst a) o.dst,H1,false,none⟩
 have hnb:Hc.length<=H1.length:=by have:=hk.len;rwa [zs6] at this
 have hda:za9 T Fz o.dst (ys2 T (za9 T Fz o.dst a) o.dst)=za9 T Fz o.dst a:=by
  cases hd:o.dst with
  |none=>rfl
  |some d=>simp only [za9,ys2,AF.get,V7]
 have hmask: ∀e,e<Hc.length->(zl0 T tch Hc 0)[e]?=some (if e∈tch then hF zi5 ps (base H0) e else .gone):=by
  intro e he;rw [ym5,h.hc e he,W8];rfl
 have htk:TakeOk P C ops B F0 H0 ps r:=by
  refine ⟨hns,hpre,?_,hk,zs6,hmask,fun e he=>?_,rfl,fun t a ha=>?_,fun t a ha i hi=>zy0 hlt i (jt2 ha i hi),fun f hf i hi=>?_,fun r' hr'=>(yy9 h.recs h.tr.dlocs hchk r' hr').imp id fun ⟨q1,q2,q3,q4,_⟩=>⟨q1,q2,q3,q4,fun _ _ _ hl=>(by cases hl),fun _ _ _ hl=>(by cases hl),fun _ _ _ _ _ hl=>(by cases hl)⟩,fun i hi=>?_,hep,fun f hf i hi=>?_⟩
  ·refine ⟨Fz,?_⟩;show zg7 P C o ⟨F,zl0 T tch Hc 0⟩ some (fun _ _=>none)=some ⟨za9 T Fz o.dst (ys2 T (za9 T Fz o.dst a) o.dst),H1⟩;rw [hda];exact hstep
  ·obtain ⟨f,h1,h2⟩:=htch e he;have hlt:=(X2.1 h1).1;rw [h.hc e hlt] at h1;simp only [X0] at h1;exact ⟨hlt,by rw [h1];exact h2⟩
  ·have ha:(yb6 T FF (zo7 o)).get T t=some a:=by rw [<-hFk];exact ha
   obtain ⟨h1,h2⟩:=zx9 ha;exact ⟨h1,by rw [<-h.ff];exact h2⟩
  ·rw [Y8] at hlc;exact zy0 (hlc f hf) i hi
  ·rw [Y8] at hid;exact ym1 h.recs (hid i hi)
  ·rw [Y8] at hcid;have:=hcid f hf;rw [Y8] at this;exact ym1 h.recs (this i hi)
 refine ⟨r,?_,rfl,rfl,rfl,rfl⟩;refine ⟨h.tr.snoc ⟨rfl,ho,hdst,⟨h.le,hnb⟩,h.mono,fun h=>(by cases h),fun h=>(by cases h),fun _ _=>htk,fun _ _ _ h=>(by cases h),rfl,fun k c h=>⟨rfl,rfl,vp3 h⟩,fun _=>?_⟩,?_,fun e he=>?_,by rw [zy1 hnb];exact W7 h.le hnb,fun q hq=>?_,by rw [h.recs];simp [r]⟩
 ·show match o.guard with|none=>_|some (g,b)=>_
  split at hg
  ·rfl
  ·obtain ⟨rg,a1,a2,a3,a4⟩:=hg;exact ⟨rg,a1,a2,a3,fun _=>a4,fun h=>(by cases h)⟩
 ·intro t;rw [jn7];show (za9 T FF o.dst r.a).get T t=(match o.dst with|some d=>(fun t=>if t=d then (match zi5 r.d.j with|true=>some r.a|false=>fF zi5 ps (F0.get T) t) else fF zi5 ps (F0.get T) t)|none=>fF zi5 ps (F0.get T)) t;cases hdst:o.dst with
  |none=>exact h.ff t
  |some d=>
   simp only [za9,AF.get,zi5];cases hb:Nat.beq d t with
   |true=>have:=X1 hb;subst this;simp
   |false=>rw [if_neg (fun e=>by subst e;simp at hb)];exact h.ff t
 ·rw [zy1 hnb] at he;rw [yr1 hnb,W8,ya4];show _=some ((upR r e).getD (hF zi5 ps (base H0) e));have hr:upR r e=if e<Hc.length then (if e∈tch/\e∈wrF C o ⟨F,zl0 T tch Hc 0⟩ then H1[e]? else none) else H1[e]?:=rfl
  rw [hr];have hH1:H1[e]?=some H1[e]:=Y0 he;by_cases hel:e<Hc.length
  ·rw [if_pos hel,if_pos hel];by_cases ht:e∈tch
   ·rw [if_pos ht];by_cases hw:e∈wrF C o ⟨F,zl0 T tch Hc 0⟩
    ·rw [if_pos ⟨ht,hw⟩,hH1];rfl
    ·rw [if_neg (fun q=>hw q.2),hk.same e (by rw [zs6];exact hel) hw,hmask e hel,if_pos ht];rfl
   ·rw [if_neg ht,if_neg (fun q=>ht q.1),h.hc e hel];rfl
  ·rw [if_neg hel,if_neg hel,hH1];rfl
 ·rw [zy1 hnb];rcases X4.1 hq with hq|hq
  ·exact W7 (h.mono q hq) hnb
  ·simp at hq;subst hq;exact W6 _
def AccD.takeL {ps:List (Rec T)} {FF:AF T} {Hc:List (Ent T.U)} {recs:List DR} (h:AccD P C ops n B F0 H0 ps FF Hc recs) {o:Oper} (ho:ops[ps.length]?=some o) (hg:match o.guard with
  |none=>True
  |some (g,b)=> ∃rg∈ps,rg.d.j=g/\(∃d,rg.o.dst=some d)/\rg.a=cB T b) {tch:List Nat} {F:AF T} (hFk:F=yb6 T FF (zo7 o))
  (hdst:zi0 n o.dst=true) (hns:zb3 o=true) (hpre:zt6 F o=true) {k c:Nat} {sv:Option (AV T.U)} (hl:gn4 P o F (zl0 T tch Hc 0)=some (k,c,sv))
  {a:AV T.U} {H1:List (Ent T.U)} {Fz:AF T} (hstep:zg7 P C o ⟨F,zl0 T tch Hc 0⟩ some (fun _ _=>none)=some ⟨za9 T Fz o.dst a,H1⟩)
  (hchk:vf1 ((yq0 ops ops.size).getD ps.length []) recs [] [] (some (k,c,sv.isSome))=true) (hid:((ys2 T (za9 T Fz o.dst a) o.dst).ids.all (qk8 B Hc.length Hc.length ((yq0 ops ops.size).getD ps.length []) recs))=true)
  (hvid:((match sv with|some v=>v.ids|none=> []).all (qk8 B Hc.length Hc.length ((yq0 ops ops.size).getD ps.length []) recs))=true):
  ∃r,AccD P C ops n B F0 H0 (ps++ [r]) (za9 T FF o.dst (ys2 T (za9 T Fz o.dst a) o.dst)) (qm7 k c sv (Hc.getD k .gone) Hc) (recs++ [⟨ps.length,Hc.length,Hc.length,[],[],some (k,c,sv.isSome),nk⟩])/\r.dead=false/\r.d.wr= []/\r.loc=some (k,c,sv):=by
 let r:Rec T:=⟨o,⟨ps.length,Hc.length,Hc.length,[],[],some (k,c,sv.isSome),nk⟩,false,F,[],ys2 T (za9 T Fz o.dst a) o.dst,[],false,some (k,c,sv)⟩
 obtain ⟨x,hx,hxl,_,hst⟩:=kf8 hl hstep;have hda: ∀G:AF T,za9 T G o.dst (ys2 T (za9 T Fz o.dst a) o.dst)=za9 T G o.dst a:=fun G=>by
  cases hd:o.dst with
  |none=>rfl
  |some d=>simp only [za9,ys2,AF.get,V7]
 have hk:k<Hc.length:=by have:=(X2.1 hx).1;rwa [zs6] at this
 have hxe:x=hF zi5 ps (base H0) k:=by
  rw [ym5,h.hc k hk,W8] at hx;simp only [Z8,X0] at hx;split at hx
  ·exact hx.symm
  ·subst hx;cases hxl
 have hlok:LocOk P C ops B F0 H0 ps r k c sv:=by
  refine ⟨rfl,hns,hpre,hk,rfl,rfl,rfl,fun t a ha=>?_,fun F' H' f hF hf hsim=>?_,fun r' hr'=>?_,fun i hi=>?_,fun v hv i hi=>?_⟩
  ·have ha:(yb6 T FF (zo7 o)).get T t=some a:=by rw [<-hFk];exact ha
   obtain ⟨h1,h2⟩:=zx9 ha;exact ⟨h1,by rw [<-h.ff];exact h2⟩
  ·rw [<-hxe] at hsim;have:=hst F' H' f hF hf hsim;show zg7 P C o ⟨F',H'⟩ some (fun _ _=>none)=some ⟨za9 T F' o.dst (ys2 T (za9 T Fz o.dst a) o.dst),qm7 k c sv f H'⟩;rw [hda];exact this
  ·rcases yy9 h.recs h.tr.dlocs hchk r' hr' with q|⟨q1,q2,q3,q4,q5⟩
   ·exact .inl q
   obtain ⟨u1,u2,u3⟩:=q5 k c sv.isSome rfl;refine .inr ⟨fun _ hm=>(by cases hm),fun _ hm=>(by cases hm),fun _ _ _ _ hm=>(by cases hm),fun _ _ _ _ hm=>(by cases hm),fun k0 c0 s0 hl=>?_,fun k0 c0 v0 hl=>?_,fun k0 c0 s0 c' s' hl hl' hor=>?_⟩
   ·have hl:some (k,c,sv)=some (k0,c0,s0):=hl;simp only [X0,X7] at hl;obtain ⟨rfl,rfl,rfl⟩:=hl;exact u1.imp id fun ⟨e1,e2⟩=>⟨(by cases sv<;>first|rfl|cases e1),e2⟩
   ·have hl:some (k,c,sv)=some (k0,c0,some v0):=hl;simp only [X0,X7] at hl;obtain ⟨rfl,rfl,rfl⟩:=hl;exact u2 rfl
   ·have hl:some (k,c,sv)=some (k0,c0,s0):=hl;simp only [X0,X7] at hl;obtain ⟨rfl,rfl,rfl⟩:=hl;exact u3 c' s' hl' hor
  ·rw [Y8] at hid;exact ym1 h.recs (hid i hi)
  ·subst hv;rw [Y8] at hvid;exact ym1 h.recs (hvid i hi)
 have hlen:(qm7 k c sv (Hc.getD k .gone) Hc).length=Hc.length:=by cases sv<;>simp [qm7]
 refine ⟨r,?_,rfl,rfl,rfl⟩;refine ⟨h.tr.snoc ⟨rfl,ho,hdst,⟨h.le,W6 _⟩,h.mono,fun h=>(by cases h),fun h=>(by cases h),fun _ h=>(by cases h),fun k0 c0 s0 hl=>?_,rfl,fun _ _ h=>(by cases h),fun _=>?_⟩,?_,fun e he=>?_,by rw [hlen];exact h.le,fun q hq=>?_,by rw [h.recs];simp [r]⟩
 ·have hl:some (k,c,sv)=some (k0,c0,s0):=hl;simp only [X0,X7] at hl;obtain ⟨rfl,rfl,rfl⟩:=hl;exact hlok
 ·show match o.guard with|none=>_|some (g,b)=>_
  split at hg
  ·rfl
  ·obtain ⟨rg,a1,a2,a3,a4⟩:=hg;exact ⟨rg,a1,a2,a3,fun _=>a4,fun h=>(by cases h)⟩
 ·intro t;rw [jn7];show (za9 T FF o.dst r.a).get T t=(match o.dst with|some d=>(fun t=>if t=d then (match zi5 r.d.j with|true=>some r.a|false=>fF zi5 ps (F0.get T) t) else fF zi5 ps (F0.get T) t)|none=>fF zi5 ps (F0.get T)) t;cases hdst:o.dst with
  |none=>exact h.ff t
  |some d=>
   simp only [za9,AF.get,zi5];cases hb:Nat.beq d t with
   |true=>have:=X1 hb;subst this;simp
   |false=>rw [if_neg (fun e=>by subst e;simp at hb)];exact h.ff t
 ·rw [hlen] at he;rw [ya4];show _=some (upG r e (hF zi5 ps (base H0) e));have hge:=h.hc e he;cases sv with
  |none=>exact hge
  |some v=>
   show (Hc.set k (yp1 c v (Hc.getD k .gone)))[e]?=some (if e=k then yp1 c v (hF zi5 ps (base H0) e) else hF zi5 ps (base H0) e);by_cases hek:e=k
   ·subst hek;rw [Q0 hk,if_pos rfl,Y2,hge];rfl
   ·rw [Z5 (Ne.symm hek),if_neg hek];exact hge
 ·rw [hlen];rcases X4.1 hq with hq|hq
  ·exact h.mono q hq
  ·simp at hq;subst hq;exact W6 _
def AccD.dies {ps:List (Rec T)} {FF:AF T} {Hc:List (Ent T.U)} {recs:List DR} (hB:H0.length=B) (h:AccD P C ops n B F0 H0 ps FF Hc recs) {o:Oper} (ho:ops[ps.length]?=some o) (hd:zi0 n o.dst=true) (m:Nat) (hm:Hc.length<=m):
  AccD P C ops n B F0 H0 (ps++ [⟨o,⟨ps.length,Hc.length,m,[],[],none,nk⟩,true,[],[],.raw undef,[],true,none⟩]) (za9 T FF o.dst (.raw undef)) (Hc++List.replicate (m-Hc.length) .gone) (recs++ [⟨ps.length,Hc.length,m,[],[],none,nk⟩]):=by
 let r:Rec T:=⟨o,⟨ps.length,Hc.length,m,[],[],none,nk⟩,true,[],[],.raw undef,[],true,none⟩
 have hup: ∀e,¬yx0 r e:=fun e h=>h.elim (fun h=>h rfl) fun ⟨_,_,h⟩=>by cases h
 have hlen:(Hc++List.replicate (m-Hc.length) Ent.gone).length=m:=by simp;omega
 refine ⟨h.tr.snoc ⟨rfl,ho,hd,⟨h.le,hm⟩,h.mono,fun _=>⟨rfl,rfl⟩,fun _=>rfl,fun h=>(by cases h),fun _ _ _ h=>(by cases h),rfl,fun _ _ h=>(by cases h),fun h=>(by cases h)⟩,?_,fun e he=>?_,by rw [hlen];exact W7 h.le hm,fun q hq=>?_,by rw [h.recs];simp⟩
 ·intro t;rw [jn7];show (za9 T FF o.dst (.raw undef)).get T t=(match o.dst with|some d=>(fun t=>if t=d then (match zi5 r.d.j with|true=>some r.a|false=>fF zi5 ps (F0.get T) t) else fF zi5 ps (F0.get T) t)|none=>fF zi5 ps (F0.get T)) t;cases hdst:o.dst with
  |none=>exact h.ff t
  |some d=>
   simp only [za9,AF.get,zi5];cases hb:Nat.beq d t with
   |true=>have:=X1 hb;subst this;simp [r]
   |false=>rw [if_neg (fun e=>by subst e;simp at hb)];exact h.ff t
 ·rw [ya4,zr3 (rs:= [_]) fun r' hr' _=>by simp only [Q5] at hr';subst hr';exact hup e];by_cases hel:e<Hc.length
  ·rw [X8 hel];exact h.hc e hel
  ·rw [Z2 (by omega)];rw [hlen] at he;rw [List.getElem?_replicate,if_pos (by omega),zr3 fun q hq _=>?_]
   ·have:=h.le;unfold base;rw [Y5 (by omega)];rfl
   ·intro hu;obtain ⟨k,hk⟩:=Y9.1 hq;have hqk:=h.tr k q hk;have hmo:=h.mono q hq;have hle:=hqk.le;rcases hu with hu|⟨c,v,hl⟩
    ·unfold upR at hu;split at hu
     ·exact hu rfl
     ·rename_i hs;split at hu
      ·exact hu rfl
      ·rename_i hl;have hne:=(hqk.take hs hl).ne;split at hu
       ·omega
       ·exact hu (Y5 (by omega))
    ·have:=(hqk.lok _ _ _ hl).lt;omega
 ·rw [hlen];rcases X4.1 hq with hq|hq
  ·exact W7 (h.mono q hq) hm
  ·simp at hq;subst hq;exact W6 _
def PanI.snoc {ps f a e} (h:PanI P C ops B F0 H0 ps f a e) {q} (r:q.dead=true->q.d.j=f\/Tp ops q.d.j f) (s:q.skip=false->(q.d.wr≠ []\/ ∃k c v,q.loc=some (k,c,some v))->Tp ops f q.d.j):PanI P C ops B F0 H0 (ps++ [q]) f a e:=by
 obtain ⟨⟨t,tch,F,Hm,u,w,m,x,y⟩,z,A,D,E⟩:=h;have l:=(X2.1 m).1;have G:(ps++ [q]).take f=ps.take f:=Z7 (by omega);refine ⟨⟨t,tch,F,Hm,u,w,by rw [X8 l];exact m,x,by rw [G];exact y⟩,fun p b g=>?_,fun p b o i=>?_,D,E⟩
 ·rcases X4.1 b with b|b
  ·exact z p b g
  ·simp at b;subst b;exact r g
 ·rcases X4.1 b with b|b
  ·exact A p b o i
  ·simp at b;subst b;exact s o i
def PzOk.snoc {R:Type} {i:AF T} {j:AV T.U->St T->Option R} {ps:List (Rec T)} {f:Option (Nat×Option R)} (h:PzOk P C ops B F0 H0 i j ps f) {q:Rec T} (l:q.dead=false) (m:f≠none->q.skip=false->q.d.wr= []/\ ∀k c v,q.loc≠some (k,c,some v)):PzOk P C ops B F0 H0 i j (ps++ [q]) f:=by
 cases f with
 |none=>
  intro p b;rcases X4.1 b with b|b
  ·exact h p b
  ·simp at b;subst b;exact l
 |some x=>
  obtain ⟨w,y⟩:=x;obtain ⟨a,e,s,t⟩:=h;exact ⟨a,e,s.snoc (fun o=>by rw [l] at o;cases o) fun r g=>(g.elim (fun g=>absurd (m (by simp) r).1 g) fun ⟨k,c,v,u⟩=>absurd u ((m (by simp) r).2 k c v)),t⟩
def AccD.again {ps c e b} (h:AccD P C ops n B F0 H0 ps c e b) {d a} (f:c.get T d=some a):AccD P C ops n B F0 H0 ps ((d,a)::c) e b:=
 ⟨h.tr,fun t=>by
  simp only [AF.get];cases hb:Nat.beq d t with
  |true=>have:=X1 hb;subst this;rw [<-h.ff,f]
  |false=>exact h.ff t,h.hc,h.le,h.mono,h.recs⟩
def vk6 (hB:H0.length=B) (hk:OkD ops n) (hE:zb2 T P C.E) {R:Type} {r:R} {Fp:AF T} {pm:Bool} {Kp:AV T.U->St T->Option R} {K:St T->Option R}: ∀(rest:List Oper) (ps:List (Rec T)) (pz:Option (Nat×Option R)) (FF:AF T) (Hc:List (Ent T.U)) (recs:List DR),ops.toList.drop ps.length=rest->AccD P C ops n B F0 H0 ps FF Hc recs->PzOk P C ops B F0 H0 Fp Kp ps pz->kv6 T P C ops n B H0 Fp pm Kp K rest ps.length pz FF Hc recs=some r->
  ∃rs pz' FF' Hc' recs',AccD P C ops n B F0 H0 rs FF' Hc' recs'/\PzOk P C ops B F0 H0 Fp Kp rs pz'/\rs.length=ops.size/\(match pz' with|none=>K ⟨FF',Hc'⟩|some (_,kf)=>kf)=some r
 | [],ps,pz,FF,Hc,recs,hr,h,hz,hp=>by
  have:ops.size<=ps.length:=by simpa using List.drop_eq_nil_iff.1 hr
  have hle:ps.length<=ops.size:=by
   rcases N0 ps.length with h0|h0
   ·omega
   ·have hlt:ps.length-1<ps.length:=by omega
    have hg:=Y0 hlt;have hrk:=h.tr _ _ hg;have h1:=(Y3.1 hrk.op).1;rw [hrk.idx,Y6] at h1;omega
  exact ⟨ps,pz,FF,Hc,recs,h,hz,by omega,hp⟩
 |o::rest,ps,pz,FF,Hc,recs,hr,h,hz,hp=>by
  have hlt:ps.length<ops.size:=by
   apply Classical.byContradiction;intro hn;rw [M6 (by simpa using hn)] at hr;cases hr
  have ho:ops[ps.length]?=some o:=by
   have:=V8 (l:=ops.toList) (i:=ps.length) (by simpa using hlt);rw [hr] at this;rw [Z6 hlt];have h1:=(List.cons.inj this).1;simpa using h1.symm
  have hr':ops.toList.drop (ps.length+1)=rest:=by
   have:=V8 (l:=ops.toList) (i:=ps.length) (by simpa using hlt);rw [hr] at this;exact (List.cons.inj this).2.symm
  have go: ∀(q:Rec T) (pz:Option (Nat×Option R)) (FF':AF T) (Hc':List (Ent T.U)) (recs':List DR),AccD P C ops n B F0 H0 (ps++ [q]) FF' Hc' recs'->PzOk P C ops B F0 H0 Fp Kp (ps++ [q]) pz->kv6 T P C ops n B H0 Fp pm Kp K rest (ps.length+1) pz FF' Hc' recs'=some r->
    ∃rs pz' FF' Hc' recs',AccD P C ops n B F0 H0 rs FF' Hc' recs'/\PzOk P C ops B F0 H0 Fp Kp rs pz'/\rs.length=ops.size/\(match pz' with|none=>K ⟨FF',Hc'⟩|some (_,kf)=>kf)=some r:=by
   intro q pz FF' Hc' recs' ha hz hq;have hl:(ps++ [q]).length=ps.length+1:=by simp
   rw [<-hl] at hq;exact vk6 hB hk hE rest (ps++ [q]) pz FF' Hc' recs' (by rw [hl];exact hr') ha hz hq
  let Gr:Option (Nat×Option R)->AF T->List (Ent T.U)->List DR->Option R:=fun pz FF Hc recs=>kv6 T P C ops n B H0 Fp pm Kp K rest (ps.length+1) pz FF Hc recs
  have htake: ∀FF,AccD P C ops n B F0 H0 ps FF Hc recs->(match o.guard with
    |none=>True
    |some (g,b)=> ∃rg∈ps,rg.d.j=g/\(∃d,rg.o.dst=some d)/\rg.a=cB T b)->
    va2 T P C ops n B H0 Fp pm Kp o ps.length pz FF Hc recs Gr=some r-> ∃rs pz' FF' Hc' recs',AccD P C ops n B F0 H0 rs FF' Hc' recs'/\PzOk P C ops B F0 H0 Fp Kp rs pz'/\rs.length=ops.size/\(match pz' with|none=>K ⟨FF',Hc'⟩|some (_,kf)=>kf)=some r:=by
   intro FF h hg hp;unfold va2 at hp;simp only at hp;generalize hF:yb6 T FF (zo7 o)=F at hp;generalize htch:ql2 T Hc (kw1 T o F Hc++zr8 C o F Hc)=tch at hp;have htl: ∀e∈tch,∃f,Hc[e]?=some f/\f.live=true:=fun e he=>by
    rw [<-htch] at he;have:=(W0.1 he).2;split at this
    ·rename_i f hf;exact ⟨f,hf,this⟩
    ·cases this
   split at hp<;>try (cases hp;done)
   rename_i hb;simp only [X3] at hb;split at hp
   ·rename_i k c sv hl;rcases jw9 hE hp with ⟨Fz,a,H1,h1,h2,h3⟩|⟨a,st',h1,h2,h3⟩
    ·dsimp only at h1;split at h1<;>try (cases h1;done)
     rename_i hc;simp only [X3] at hc;obtain ⟨hlater,hc1,hc2,hc3⟩:=hc;unfold j9 at h1;split at h1<;>try (cases h1;done)
     rename_i hkp;have hc1:=ga9 hc1 hkp;obtain ⟨q,hq,hqd,hqw,hql⟩:=h.takeL ho hg (tch:=tch) hF.symm hb.1 hb.2.1 hb.2.2.1 hl (h3 _ _) hc1 hc2 hc3;refine go q _ _ _ _ hq (hz.snoc hqd fun hne _=>⟨hqw,fun k' c' v' hl'=>?_⟩) h1;rw [hql] at hl';simp only [X0,X7] at hl';obtain ⟨_,_,rfl⟩:=hl';cases pz with
     |none=>exact absurd rfl hne
     |some x=>simp [qd7] at hlater
    ·cases h1
   rcases jw9 hE hp with ⟨Fz,a,H1,h1,h2,h3⟩|⟨a,st',h1,h2,h3⟩
   ·dsimp only at h1;split at h1<;>try (cases h1;done)
    rename_i hc;rw [X3] at hc;obtain ⟨hlater,hc⟩:=hc;simp only [X3] at hc;obtain ⟨q,hq,hqd,hqj,hqw,hql⟩:=h.take ho hg (tch:=tch) htl hF.symm hb.1 hb.2.1 hb.2.2.1 hb.2.2.2.1 hb.2.2.2.2 (h3 _ _) h2 hc.1 hc.2.1.1 hc.2.1.2 hc.2.2;refine go q _ _ _ _ hq (hz.snoc hqd fun hne _=>⟨?_,fun k c v hl=>by rw [hql] at hl;cases hl⟩) h1;rw [hqw];cases pz with
    |none=>exact absurd rfl hne
    |some x=>simpa [qd7] using hlater
   ·split at h1<;>try (cases h1;done)
    rename_i hc;rw [X3] at hc;obtain ⟨hfst,hok⟩:=hc;have hpz:pz=none:=by cases pz with|none=>rfl|some x=>cases hfst
    subst hpz;unfold go2 at hok;simp only [X3] at hok;obtain ⟨k1,k2,k3,k4⟩:=hok;have hnb:Hc.length<=st'.H.length:=by have:=h2.len;rwa [zs6] at this
    have hd:=h.dies hB ho hb.1 st'.H.length hnb;refine go _ (some (ps.length,Kp a ⟨Fp,yn8 T B tch Hc st'.H⟩)) _ _ _ hd ⟨a,yn8 T B tch Hc st'.H,⟨⟨⟨o,⟨ps.length,Hc.length,st'.H.length,[],[],none,nk⟩,true,[],[],.raw undef,[],true,none⟩,tch,F,zl0 T tch Hc 0,st'.H,_,?_,rfl,?_,hb.2.1,hb.2.2.1,h3 _ _,h2,zs6,fun e he=>?_,fun e he=>?_,rfl,fun t x hx=>?_,fun t x hx i hi=>zy0 hb.2.2.2.1 i (jt2 hx i hi),fun f hf i hi=>?_,?_,fun e he=>?_,?_⟩,fun q hq hqd=>?_,fun q hq hs hw=>?_,fun f hf i hi=>?_,by simpa using k2⟩,rfl⟩ h1
    ·rw [Z2 (W6 _)];simp
    ·show match o.guard with|none=>True|some (g,b)=>_
     split
     ·trivial
     ·rename_i g b hgd;rw [hgd] at hg;simp only at hg;rw [Z7 (W6 _),N8];exact hg
    ·rw [Z7 (W6 _),N8,ym5,h.hc e he,W8];rfl
    ·obtain ⟨f,g1,g2⟩:=htl e he;have hlt:=(X2.1 g1).1;rw [h.hc e hlt] at g1;simp only [X0] at g1;rw [Z7 (W6 _),N8];exact ⟨hlt,by rw [g1];exact g2⟩
    ·rw [<-hF] at hx;obtain ⟨g1,g2⟩:=zx9 hx;rw [Z7 (W6 _),N8];exact ⟨g1,by rw [<-h.ff];exact g2⟩
    ·have:=Y8.1 hb.2.2.2.2 f hf;exact zy0 this i hi
    ·rw [Z7 (W6 _),N8];intro r' hr';rcases yy9 h.recs h.tr.dlocs k1 r' hr' with g1|⟨g1,_,g3,_⟩
     ·exact .inl g1
     ·exact .inr ⟨g1,g3⟩
    ·rw [Z7 (W6 _),N8];have hle:=h.le;unfold yn8;rw [Z3,if_pos he,yr1 hnb,if_pos (by omega),W8];split
     ·have hlt:e<st'.H.length:=by omega
      rw [Y0 hlt];rfl
     ·rw [h.hc e (by omega)]
    ·have hle:=h.le;unfold yn8;rw [Y6,zy1 hnb];omega
    ·rcases X4.1 hq with hq|hq
     ·rw [hz q hq] at hqd;cases hqd
     ·simp at hq;subst hq;exact .inl rfl
    ·rcases X4.1 hq with hq|hq
     ·have hm:=Y8.1 k3 q.d (by rw [h.recs];exact U0.2 ⟨q,hq,rfl⟩);rw [M2] at hm;rcases hm with hm|hm
      ·exact zp4 ops.size _ _ (zb7.1 hm)
      ·rw [X3] at hm;rcases hw with hw|⟨k0,c0,v0,hl0⟩
       ·exact absurd (by simpa using hm.1) hw
       ·have h1:=h.tr.dlocs q hq;rw [hl0] at h1;have h2:q.d.isSt=true:=by unfold DR.isSt;rw [h1];rfl
        rw [h2] at hm;simp at hm
     ·simp at hq;subst hq;cases hs
    ·have:=Y8.1 k4 f hf;exact zy0 this i hi
  have hpass: ∀FF,AccD P C ops n B F0 H0 ps FF Hc recs->(match o.guard with
    |none=>False
    |some (g,b)=> ∃rg∈ps,rg.d.j=g/\(∃d,rg.o.dst=some d)/\(rg.a=cB T (!b)\/ ∃u,rg.a=.raw (.tuple u)))->
    jh1 T n o ps.length pz FF Hc recs Gr=some r-> ∃rs pz' FF' Hc' recs',AccD P C ops n B F0 H0 rs FF' Hc' recs'/\PzOk P C ops B F0 H0 Fp Kp rs pz'/\rs.length=ops.size/\(match pz' with|none=>K ⟨FF',Hc'⟩|some (_,kf)=>kf)=some r:=by
   intro FF h hg hp;unfold jh1 at hp;split at hp<;>try (cases hp;done)
   rename_i hd;obtain ⟨q,hq,hqd,hqs⟩:=h.skip ho hd hg;exact go q _ _ _ _ hq (hz.snoc hqd fun _ hs=>(by rw [hqs] at hs;cases hs)) hp
  unfold kv6 at hp;simp only at hp;split at hp
  ·rename_i hdead;have hp:jh1 T n o ps.length pz FF Hc recs Gr=some r:=hp;unfold jh1 at hp;split at hp<;>try (cases hp;done)
   rename_i hd;have hq:=h.dies hB ho hd Hc.length (W6 _);rw [Nat.sub_self,List.replicate_zero,J7] at hq;cases pz with
   |none=>cases hdead
   |some x=>
    obtain ⟨j0,kf⟩:=x;obtain ⟨a,core,g1,g2⟩:=hz;exact go _ (some (j0,kf)) _ _ _ hq ⟨a,core,g1.snoc (fun _=>.inr (zp4 ops.size _ _ (zb7.1 hdead))) fun hs=>(by cases hs),g2⟩ hp
  split at hp
  ·rename_i hg;exact htake FF h (by rw [hg];trivial) hp
  ·rename_i g b hg;split at hp
   ·cases hp
   ·rename_i d hdg;have hgl:=hk.guard ho hg;have hgg:ps[g]?=some ps[g]:=Y0 hgl;have hrk:=h.tr g _ hgg;have hidx:ps[g].d.j=g:=by rw [hrk.idx,Y6];omega
    have hop:=hrk.op;rw [hidx] at hop;have hdst:ps[g].o.dst=some d:=by
     unfold vw8 at hdg;rw [hop] at hdg;exact hdg
    have hff:FF.get T d=some ps[g].a:=by
     rw [h.ff,yi2 (X6 hgg) hdst fun r' hr' hd'=>h.tr.uniq hk hr' (X6 hgg) hd' hdst];rfl
    have hmem:=X6 hgg;split at hp
    ·rename_i c hc;have ha:ps[g].a=cB T c:=by rw [hff] at hc;exact X5 hc
     rcases zo6 hp with ⟨hct,hp⟩|⟨hct,hp⟩
     ·have hct:c=true:=hct;subst hct;have h':=h.again (d:=d) (a:=cB T true) (by rw [hff,ha]);cases b with
      |true=>exact htake _ h' (by rw [hg];exact ⟨_,hmem,hidx,⟨d,hdst⟩,ha⟩) hp
      |false=>exact hpass _ h' (by rw [hg];exact ⟨_,hmem,hidx,⟨d,hdst⟩,.inl ha⟩) hp
     ·have hct:c=false:=hct;subst hct;have h':=h.again (d:=d) (a:=cB T false) (by rw [hff,ha]);cases b with
      |true=>exact hpass _ h' (by rw [hg];exact ⟨_,hmem,hidx,⟨d,hdst⟩,.inl ha⟩) hp
      |false=>exact htake _ h' (by rw [hg];exact ⟨_,hmem,hidx,⟨d,hdst⟩,ha⟩) hp
    ·rename_i u hc;have ha:ps[g].a=.raw (.tuple u):=by rw [hff] at hc;exact X5 hc
     exact hpass FF h (by rw [hg];exact ⟨_,hmem,hidx,⟨d,hdst⟩,.inr ⟨u,ha⟩⟩) hp
    ·cases hp
end
end Go.X
namespace Go.X
open Go.RowKit Go.V
section
variable {T:Tab}
def mkH (N:Nat) (f:Nat->Ent T.U):List (Ent T.U):=(List.range N).map f
def zp2 {N:Nat} {f:Nat->Ent T.U}:(mkH N f).length=N:=by simp [mkH]
def zf7 {N:Nat} {f:Nat->Ent T.U} {e:Nat} {x:Ent T.U}:(mkH N f)[e]?=some x↔e<N/\f e=x:=by
 unfold mkH;rw [W2];by_cases h:e<N
 ·rw [List.getElem?_range h];simp [h]
 ·rw [Y5 (by simpa using h)];simp [h]
def mkF (f:Nat->Option (AV T.U)):Nat->AF T
 |0=> []
 |n+1=>match f n with|some a=>(n,a)::mkF f n|none=>mkF f n
def zf6 {f t a}: ∀ {n},(mkF f n).get T t=some a↔t<n/\f t=some a
 |0=>by simp [mkF,AF.get]
 |n+1=>by
  unfold mkF;by_cases d:t=n
  ·subst d;split
   ·rename_i b c;simp only [AF.get,V7];constructor
    ·intro h;exact ⟨by omega,by rw [c];exact h⟩
    ·intro h;rw [c] at h;exact h.2
   ·rename_i c;rw [zf6];constructor
    ·intro h;omega
    ·intro h;rw [c] at h;cases h.2
  ·have e:Nat.beq n t=false:=by cases c:Nat.beq n t;rfl;exact absurd (X1 c).symm d
   split
   ·simp only [AF.get,e];rw [zf6];constructor<;>intro h<;>exact ⟨by omega,h.2⟩
   ·rw [zf6];constructor<;>intro h<;>exact ⟨by omega,h.2⟩
def zv2 (a:Act):Nat->PF
 |0=> []
 |n+1=>(n,a.tmps.getD n undef)::zv2 a n
def zl5 {a t v}: ∀ {n},(zv2 a n).get t=some v↔t<n/\a.tmps.getD t undef=v
 |0=>by simp [zv2,PF.get]
 |n+1=>by
  simp only [zv2,PF.get];by_cases b:t=n
  ·subst b;simp [V7]
  ·have c:Nat.beq n t=false:=by cases hb:Nat.beq n t;rfl;exact absurd (X1 hb).symm b
   rw [c];simp only;rw [zl5];constructor<;>intro h<;>exact ⟨by omega,h.2⟩
def yj9 {a n ds} (b:a.tmps.size=n) (c:a.defers=ds):Fr n ds (zv2 a n) a:=⟨b,c,fun i v d=>by
 obtain ⟨e,f⟩:=zl5.1 d;exact ⟨f,e⟩⟩
end
section
variable {T:Tab} {P:Program} {C:Ctx T} {ops:Array Oper} {n B:Nat} {F0:AF T} {H0:List (Ent T.U)} {rs:List (Rec T)}
def TrOk.idx (h:TrOk P C ops n B F0 H0 rs) {j} {r:Rec T} (a:rs[j]?=some r):r.d.j=j:=by
 rw [(h j r a).idx,Y6,V9 (Nat.le_of_lt (X2.1 a).1)]
def zr1 {i j r} (a:i<j) (b:rs[i]?=some r):r∈rs.take j:=X6 (i:=i) (by rw [Z3,if_pos a];exact b)
def TrOk.ord (h:TrOk P C ops n B F0 H0 rs) {i j:Nat} {r q:Rec T} (a:i<j) (b:rs[i]?=some r) (c:rs[j]?=some q):r.d.ne<=q.d.nb:=(h j q c).mono r (zr1 a b)
def zk5 {r:Rec T} {e} (h:upR r e≠none):(r.skip=false/\r.loc=none)/\((e<r.d.nb/\e∈r.d.tch/\e∈r.d.wr)\/(r.d.nb<=e/\e<r.H1.length)):=by
 unfold upR at h;split at h
 ·exact absurd rfl h
 ·rename_i c;split at h
  ·exact absurd rfl h
  ·rename_i f;refine ⟨⟨c,f⟩,?_⟩;split at h
   ·rename_i a;split at h
    ·rename_i b;exact .inl ⟨a,b.1,b.2⟩
    ·exact absurd rfl h
   ·rename_i a;refine .inr ⟨by omega,?_⟩;apply Classical.byContradiction;intro g;exact h (Y5 (by omega))
def jj4 {d:DR} {e} (h:d.wrE e=false):e∉d.wr/\ ¬(d.nb<=e/\e<d.ne):=by
 unfold DR.wrE at h;simp only [Bool.or_eq_false_iff,Bool.and_eq_false_imp] at h;refine ⟨fun a=>(by rw [zb7.2 a] at h;cases h.1),fun ⟨b,c⟩=>?_⟩;have:=h.2 (W3 b);rw [show Nat.blt e d.ne=true by rw [U4];exact c] at this;cases this
def TrOk.later (h:TrOk P C ops n B F0 H0 rs) {D:Nat->Bool} (hcl: ∀i k,D i=true->Tp ops i k->D k=true) {j:Nat} {r:Rec T} (hr:rs[j]?=some r) (hD:D j=false) {e:Nat} (he:e∈r.d.tch/\e<r.d.nb\/r.d.nb<=e/\e<r.d.ne) {i:Nat} {q:Rec T} (hq:rs[i]?=some q) (hji:j<i) (hu:yx0 q e):D i=false:=by
 cases hDi:D i with
 |false=>rfl
 |true=>
  exfalso;have hqk:=(h i q hq);have hord:=h.ord hji hr hq;have hle:=(h j r hr).le.2;have hnot: ¬Tp ops q.d.j r.d.j:=fun t=>by
   rw [h.idx hq,h.idx hr] at t;have:=hcl i j hDi t;rw [hD] at this;cases this
  rcases hu with hu|⟨c,v,hl⟩
  ·obtain ⟨⟨hs,hln⟩,hc⟩:=zk5 hu;rcases (hqk.take hs hln).chk r (zr1 hji hr) with hchk|hchk
   ·exact hnot hchk
   ·rcases hc with ⟨g1,g2,g3⟩|⟨g1,g2⟩
    ·rcases he with ⟨k1,k2⟩|⟨k1,k2⟩
     ·exact hchk.wr e g3 k1
     ·exact (jj4 (hchk.tch e g2)).2 ⟨k1,k2⟩
    ·rcases he with ⟨k1,k2⟩|⟨k1,k2⟩<;>omega
  ·rcases (hqk.lok _ _ _ hl).chk r (zr1 hji hr) with hchk|hchk
   ·exact hnot hchk
   ·rcases he with ⟨k1,k2⟩|⟨k1,k2⟩
    ·exact hchk.l4 e c v hl k1
    ·rcases hchk.l3 e c _ hl with h3|⟨h3,_⟩
     ·exact (jj4 h3).2 ⟨k1,k2⟩
     ·cases h3
def yk6 {j r} (b:rs[j]?=some r):rs=rs.take j++r::rs.drop (j+1):=by
 obtain ⟨a,c⟩:=X2.1 b;rw [<-c,<-List.drop_eq_getElem_cons a,Q8]
def yd1 {j q} (h:q∈rs.drop (j+1)): ∃i,j<i/\rs[i]?=some q:=by
 obtain ⟨k,a⟩:=Y9.1 h;rw [Q6] at a;exact ⟨j+1+k,by omega,a⟩
def zl9 {j q} (h:q∈rs.take j): ∃i,i<j/\rs[i]?=some q:=by
 obtain ⟨k,a⟩:=Y9.1 h;rw [Z3] at a;split at a
 ·rename_i b;exact ⟨k,b,a⟩
 ·cases a
def TrOk.touch (h:TrOk P C ops n B F0 H0 rs) {D:Nat->Bool} (u: ∀i k,D i=true->Tp ops i k->D k=true) {j:Nat} {r:Rec T} (b:rs[j]?=some r) (I:r.skip=false) (w:r.loc=none) (E:D j=false) (f: ∀k,Tp ops j k->D k=true) {e:Nat} (s:e∈r.d.tch):
  hF D rs (base H0) e=hF zi5 (rs.take j) (base H0) e:=by
 have x:=h j r b;have g:=x.take I w;have l:=(g.live e s).1
 conv=>lhs;rw [yk6 b]
 rw [ya4];show hF D (rs.drop (j+1)) (match D r.d.j with|true=>_|false=>hF D (rs.take j) (base H0)) e=_;rw [h.idx b,E];simp only;rw [zr3 fun q t m o=>?_]
 ·refine zy9 rfl fun q t o=>?_;obtain ⟨i,F,a⟩:=zl9 t;show D q.d.j=true;rw [h.idx a];rcases g.chk q t with p|p
  ·rw [h.idx b,h.idx a] at p;exact f i p
  ·exfalso;have G:=jj4 (p.tch e s);rcases o with o|⟨c,v,J⟩
   ·obtain ⟨⟨y,z⟩,A⟩:=zk5 o;rcases A with ⟨_,_,K⟩|⟨L,H⟩
    ·exact G.1 K
    ·rw [((h i q a).take y z).ne] at H;exact G.2 ⟨L,H⟩
   ·exact p.l1 e c v J s
 ·obtain ⟨i,F,a⟩:=yd1 t;have:=h.later u b E (.inl ⟨s,l⟩) a F o;rw [h.idx a,this] at m;cases m
def TrOk.laterL (h:TrOk P C ops n B F0 H0 rs) {D:Nat->Bool} (o: ∀i k,D i=true->Tp ops i k->D k=true) {j:Nat} {r:Rec T} (g:rs[j]?=some r) (A:D j=false) {k c:Nat} {p:Option (AV T.U)} (s:r.loc=some (k,c,p)) {i:Nat} {q:Rec T} (u:rs[i]?=some q) (e:j<i) (v:D i=true) (w:yx0 q k): ∃c' x,q.loc=some (k,c',some x)/\c≠c':=by
 have l:=h i q u;have m:=(h j r g).lok _ _ _ s;have z:=h.ord e g u;have b: ¬Tp ops q.d.j r.d.j:=fun t=>by
  rw [h.idx u,h.idx g] at t;have:=o i j v t;rw [A] at this;cases this
 rcases w with w|⟨c',x,f⟩
 ·exfalso;obtain ⟨⟨E,y⟩,F⟩:=zk5 w;rcases (l.take E y).chk r (zr1 e g) with a|a
  ·exact b a
  ·rcases F with ⟨G,H,I⟩|⟨G,H⟩
   ·exact a.l2 k c p s I
   ·have:=m.lt;have:=m.ne;omega
 ·rcases (l.lok _ _ _ f).chk r (zr1 e g) with a|a
  ·exact absurd a b
  ·exact ⟨c',x,f,a.l5 k c' _ c p f s (.inl rfl)⟩
def TrOk.touchL (h:TrOk P C ops n B F0 H0 rs) {D:Nat->Bool} (hcl: ∀i k,D i=true->Tp ops i k->D k=true) {j:Nat} {r:Rec T} (hr:rs[j]?=some r) {k c:Nat} {sv:Option (AV T.U)} (hl:r.loc=some (k,c,sv)) (hD:D j=false) (hpre: ∀k,Tp ops j k->D k=true):
  simE c (hF D rs (base H0) k) (hF zi5 (rs.take j) (base H0) k):=by
 have hrl:=(h j r hr).lok _ _ _ hl;have e1:hF D rs (base H0) k=hF D (rs.drop (j+1)) (hF D (rs.take j) (base H0)) k:=by
  conv=>lhs;rw [yk6 hr]
  rw [ya4];show hF D (rs.drop (j+1)) (match D r.d.j with|true=>_|false=>_) k=_;rw [h.idx hr,hD]
 have e2:hF zi5 (rs.take j) (base H0) k=hF (fun _=>false) (rs.drop (j+1)) (hF zi5 (rs.take j) (base H0)) k:=(zr3 fun _ _ hq=>by cases hq).symm;rw [e1,e2];refine vb7 (vf9 (.inl rfl) fun i q hqt hu=>?_) fun q hq hu=>?_
 ·have hij:i<j:=by
   have:=(X2.1 hqt).1;rw [Y6] at this;omega
  have hqi:rs[i]?=some q:=by rwa [Z3,if_pos hij] at hqt
  have hq:=zr1 hij hqi;rcases hrl.chk q hq with hc|hc
  ·rw [h.idx hr,h.idx hqi] at hc;left;left;rw [h.idx hqi,hpre i hc];rfl
  ·rcases hu with hu|⟨c',v',hl'⟩
   ·obtain ⟨⟨hqs,hql⟩,hcc⟩:=zk5 hu;rcases hc.l3 k c sv hl with h3|⟨h3,h4⟩
    ·exfalso;have hw:=jj4 h3;rcases hcc with ⟨_,_,g3⟩|⟨g1,g2⟩
     ·exact hw.1 g3
     ·rw [((h i q hqi).take hqs hql).ne] at g2;exact hw.2 ⟨g1,g2⟩
    ·right;obtain ⟨_,_,x,y,m1,m2,m3,m4⟩:=(h i q hqi).kp k c h4;have htq:=(h i q hqi).take hqs hql;have hlt:k<q.d.nb:=by rw [<-htq.hlen];exact (X2.1 m1).1
     have hx:=htq.hm k hlt;rw [m1] at hx;simp only [X0] at hx;have hmem:k∈q.d.tch/\x=hF zi5 (rs.take i) (base H0) k:=by
      split at hx
      ·rename_i hm;exact ⟨hm,hx⟩
      ·subst hx;cases m3
     refine ⟨hql,rfl,y,?_,?_⟩
     ·rcases hcc with ⟨g1,g2,g3⟩|⟨g1,_⟩
      ·unfold upR;simp only [hqs,hql,if_pos hlt,if_pos (⟨g2,g3⟩:k∈q.d.tch/\k∈q.d.wr)];exact m2
      ·omega
     ·rw [T8,V9 (Nat.le_of_lt hij),<-hmem.2];exact m4
   ·exact .inl (.inr ⟨c',v',hl',hc.l5 k c sv c' _ hl hl' (.inr rfl)⟩)
 ·obtain ⟨i,hi,hqi⟩:=yd1 hq;cases hDi:D q.d.j with
  |false=>exact .inl rfl
  |true=>
   rw [h.idx hqi] at hDi;obtain ⟨c',v',h1,h2⟩:=h.laterL hcl hr hD hl hqi hi hDi hu;exact .inr ⟨c',v',h1,Ne.symm h2⟩
def zi4 (D:Nat->Bool) (j:Nat):Nat->Bool:=fun i=>if i=j then true else D i
def TrOk.put (h:TrOk P C ops n B F0 H0 rs) {D:Nat->Bool} (o: ∀i k,D i=true->Tp ops i k->D k=true) {j:Nat} {r:Rec T} (g:rs[j]?=some r) (u:D j=false) (e:Nat):
  hF (zi4 D j) rs (base H0) e=upG r e (hF D rs (base H0) e):=by
 have p: ∀(i:Nat) (q:Rec T),rs[i]?=some q->i≠j->zi4 D j q.d.j=D q.d.j:=fun i q b l=>by
  unfold zi4;rw [h.idx b,if_neg l]
 have I:zi4 D j r.d.j=true:=by unfold zi4;rw [h.idx g,if_pos rfl]
 have w:hF (zi4 D j) (rs.take j) (base H0) e=hF D (rs.take j) (base H0) e:=zy9 rfl fun q b _=>by
  obtain ⟨i,l,a⟩:=zl9 b;exact p i q a (by omega)
 have lhs:hF (zi4 D j) rs (base H0) e=hF (zi4 D j) (rs.drop (j+1)) (fun e=>upG r e (hF (zi4 D j) (rs.take j) (base H0) e)) e:=by
  conv=>lhs;rw [yk6 g]
  rw [ya4];show hF (zi4 D j) (rs.drop (j+1)) (match zi4 D j r.d.j with|true=>_|false=>_) e=_;rw [I]
 have rhs:hF D rs (base H0) e=hF D (rs.drop (j+1)) (hF D (rs.take j) (base H0)) e:=by
  conv=>lhs;rw [yk6 g]
  rw [ya4];show hF D (rs.drop (j+1)) (match D r.d.j with|true=>_|false=>_) e=_;rw [h.idx g,u]
 have y: ∀q∈rs.drop (j+1),zi4 D j q.d.j=D q.d.j:=fun q b=>by
  obtain ⟨i,l,a⟩:=yd1 b;exact p i q a (by omega)
 have s:hF (zi4 D j) rs (base H0) e=hF D (rs.drop (j+1)) (fun e=>upG r e (hF (zi4 D j) (rs.take j) (base H0) e)) e:=by
  rw [lhs];exact zy9 rfl fun q b _=>y q b
 rw [s,rhs];by_cases t:yx0 r e
 ·rcases t with t|⟨c,v,F⟩
  ·obtain ⟨⟨J,z⟩,K⟩:=zk5 t;have G: ∀q∈rs.drop (j+1),D q.d.j=true-> ¬yx0 q e:=fun q b f m=>by
    obtain ⟨i,l,a⟩:=yd1 b;have L:e∈r.d.tch/\e<r.d.nb\/r.d.nb<=e/\e<r.d.ne:=by
     rcases K with ⟨A,E,_⟩|⟨A,E⟩
     ·exact .inl ⟨E,A⟩
     ·exact .inr ⟨A,by rw [<-((h j r g).take J z).ne];exact E⟩
    have:=h.later o g u L a l m;rw [h.idx a,this] at f;cases f
   rw [zr3 G,zr3 G,w]
  ·have H: ∀x,upG r e x=yp1 c v x:=fun x=>by unfold upG;rw [F];simp only [if_true]
   rw [H];refine vf8 (by rw [H,w]) fun q b f m=>?_;obtain ⟨i,l,a⟩:=yd1 b;rw [h.idx a] at f;exact h.laterL o g u F a l f m
 ·rw [yp5 t];exact zy9 (by rw [yp5 t];exact w) fun q b _=>rfl
def jq7 {U:Nat->Type}:Ent U->Bool| .row _ _ _=>true|_=>false
def qz1 {c:Nat} {v:AV T.U} {x:Ent T.U}:jq7 (yp1 c v x)=jq7 x:=by
 cases x with
 |drow e d fe xs op=>cases op with
  |none=>rfl
  |some p=>obtain ⟨a,cs⟩:=p;rfl
 |_=>rfl
def TrOk.rowFrom (h:TrOk P C ops n B F0 H0 rs) {y} (c:y<B): ∀(m D),jq7 (hF D (rs.take m) (base H0) y)=true->jq7 (base H0 y)=true
 |0,D,a=>a
 |m+1,D,a=>by
  by_cases k:m<rs.length
  ·rw [S9 k,ya4] at a;have l:rs[m]?=some rs[m]:=Y0 k;generalize rs[m]=r at l a;have a:jq7 ((match D r.d.j with|true=>fun e=>upG r e (hF D (rs.take m) (base H0) e)|false=>hF D (rs.take m) (base H0)) y)=true:=a;cases hD:D r.d.j with
   |false=>rw [hD] at a;exact h.rowFrom c m D a
   |true=>
    rw [hD] at a;have a:jq7 (upG r y (hF D (rs.take m) (base H0) y))=true:=a;unfold upG at a;split at a
    ·split at a
     ·rw [qz1] at a;exact h.rowFrom c m D a
     ·exact h.rowFrom c m D a
    ·cases hu:upR r y with
     |none=>rw [hu] at a;exact h.rowFrom c m D a
     |some x=>
      rw [hu] at a;have f:=h m r l;obtain ⟨⟨o,g⟩,s⟩:=zk5 (by rw [hu];simp:upR r y≠none);have b:=f.take o g;have u:=f.le.1;rcases s with ⟨i,p,v⟩|⟨i,_⟩
      ·have w:r.H1[y]?=some x:=by
        unfold upR at hu;rw [o,g] at hu;simp only at hu;rwa [if_pos i,if_pos ⟨p,v⟩] at hu
       have a:jq7 x=true:=a;cases x with
       |row e t xs=>
        obtain ⟨ys,q⟩:=b.keeps.row y e t xs (by rw [b.hlen];exact i) w;rw [b.hm y i,if_pos p] at q;refine h.rowFrom c m zi5 ?_;rw [X5 q];rfl
       |_=>cases a
      ·omega
  ·rw [Q4 (by omega)] at a;refine h.rowFrom c m D ?_;rw [Q4 (by omega)];exact a
def TrOk.free (h:TrOk P C ops n B F0 H0 rs) (E:H0.length=B) {D:Nat->Bool} (l: ∀i k,D i=true->Tp ops i k->D k=true) {j:Nat} {r:Rec T} (m:rs[j]?=some r) (p:D j=false) {e:Nat} (s:r.d.nb<=e) (t:e<r.d.ne):hF D rs (base H0) e=.gone:=by
 have u:=(h j r m).le;rw [zr3 fun q w b g=>?_]
 ·unfold base;rw [Y5 (by omega)];rfl
 ·obtain ⟨i,a⟩:=Y9.1 w;rw [h.idx a] at b;rcases M1 i j with f|rfl|f
  ·have F:=h.ord f a m;have:=(h i q a).le.2;rcases g with g|⟨c,v,x⟩
   ·obtain ⟨⟨y,o⟩,z⟩:=zk5 g;rcases z with ⟨G,_⟩|⟨_,A⟩
    ·omega
    ·rw [((h i q a).take y o).ne] at A;omega
   ·have:=((h i q a).lok _ _ _ x).lt;omega
  ·rw [p] at b;cases b
  ·have:=h.later l m p (.inr ⟨s,t⟩) a f g;rw [this] at b;cases b
def TrOk.okId (h:TrOk P C ops n B F0 H0 rs) {D:Nat->Bool} (m: ∀i k,D i=true->Tp ops i k->D k=true) {j:Nat} {r:Rec T} (o:rs[j]?=some r) (u:D j=false) {i:Nat} {q:Rec T} (c:rs[i]?=some q) (a:D i=true) {x:Nat} (s:kz5 B (rs.take i) ops q x):x<r.d.nb\/r.d.ne<=x:=by
 have v:=(h j r o).le;have e: ∀(i:Nat) (q:Rec T),rs[i]?=some q->D i=true->q.d.nb<=x->x<q.d.ne->x<r.d.nb\/r.d.ne<=x:=by
  intro i q c a g l;rcases M1 i j with b|rfl|b
  ·have:=h.ord b c o;exact .inl (by omega)
  ·rw [u] at a;cases a
  ·have:=h.ord b o c;exact .inr (by omega)
 rcases s with s|⟨g,l⟩|⟨w,p,g,l,t⟩
 ·exact .inl (by omega)
 ·exact e i q c a g l
 ·obtain ⟨k,y,f⟩:=zl9 p;rw [h.idx c,h.idx f] at t;exact e k w f (m i k a t) g l
def TrOk.fid (E:OkD ops n) (h:TrOk P C ops n B F0 H0 rs) (g: ∀t a,F0.get T t=some a-> ∀i∈a.ids,i<B) {D:Nat->Bool} (l: ∀i k,D i=true->Tp ops i k->D k=true) {j:Nat} {r:Rec T} (s:rs[j]?=some r) (z:D j=false) {t:Nat} {a:AV T.U} (e:fF D rs (F0.get T) t=some a): ∀x∈a.ids,x<r.d.nb\/r.d.ne<=x:=by
 intro x f;by_cases A: ∃q∈rs,q.o.dst=some t
 ·obtain ⟨q,m,u⟩:=A;rw [yi2 m u fun F v w=>h.uniq E v m w u] at e;obtain ⟨i,b⟩:=Y9.1 m;rw [h.idx b] at e;cases hDi:D i with
  |false=>
   rw [hDi] at e;have:=g t a e x f;have y:=(h j r s).le;exact .inl (by omega)
  |true=>
   rw [hDi] at e;simp only [X0] at e;subst e;cases hs:q.skip with
   |true=>rw [((h i q b).skip hs).1] at f;cases f
   |false=>
    cases hl:q.loc with
    |none=>exact h.okId l s z b hDi (((h i q b).take hs hl).ids x f)
    |some p=>obtain ⟨k,c,G⟩:=p;exact h.okId l s z b hDi (((h i q b).lok _ _ _ hl).ids x f)
 ·rw [zk3 fun q m u=>A ⟨q,m,u⟩] at e;have:=g t a e x f;have y:=(h j r s).le;exact .inl (by omega)
def kp4 {D:Nat->Bool} {e x:Nat}: ∀ {rs:List (Rec T)} {f:Nat->Ent T.U},x∈(hF D rs f e).cellIds->x∈(f e).cellIds\/ ∃r∈rs,D r.d.j=true/\((∃y,upR r e=some y/\x∈y.cellIds)\/ ∃c v,r.loc=some (e,c,some v)/\x∈v.ids)
 | [],f,h=>.inl h
 |r::rs,f,h=>by
  rcases kp4 (rs:=rs) (f:=match D r.d.j with|true=>fun e=>upG r e (f e)|false=>f) h with a|⟨q,a,b,g⟩
  ·cases hD:D r.d.j with
   |false=>rw [hD] at a;exact .inl a
   |true=>
    rw [hD] at a;have a:x∈(upG r e (f e)).cellIds:=a;unfold upG at a;split at a
    ·rename_i k c v i;split at a
     ·rename_i l;subst l;rcases km7 a with a|a
      ·exact .inl a
      ·exact .inr ⟨r,U1 ..,hD,.inr ⟨c,v,i,a⟩⟩
     ·exact .inl a
    ·cases hu:upR r e with
     |none=>rw [hu] at a;exact .inl a
     |some y=>rw [hu] at a;exact .inr ⟨r,U1 ..,hD,.inl ⟨y,hu,a⟩⟩
  ·exact .inr ⟨q,Z4 _ a,b,g⟩
def gk8 {r:Rec T} {e x} (h:upR r e=some x):(r.skip=false/\r.loc=none)/\x∈r.H1:=by
 obtain ⟨a,_⟩:=zk5 (by rw [h];simp:upR r e≠none);refine ⟨a,?_⟩;unfold upR at h;rw [a.1,a.2] at h;simp only at h;split at h
 ·split at h
  ·exact X6 h
  ·cases h
 ·exact X6 h
def TrOk.hid (h:TrOk P C ops n B F0 H0 rs) (m: ∀f∈H0,∀i∈f.cellIds,i<B) {D} (l: ∀i k,D i=true->Tp ops i k->D k=true) {j r} (o:rs[j]?=some r) (s:D j=false) {e}: ∀x∈(hF D rs (base H0) e).cellIds,x<r.d.nb\/r.d.ne<=x:=by
 intro x a;rcases kp4 a with a|⟨q,u,g,p⟩
 ·unfold base at a;have w:=(h j r o).le;cases hg:H0[e]? with
  |none=>rw [hg] at a;cases a
  |some f=>
   rw [hg] at a;have:=m f (X6 hg) x a;exact .inl (by omega)
 ·obtain ⟨i,b⟩:=Y9.1 u;rw [h.idx b] at g;rcases p with ⟨y,p,a⟩|⟨c,v,z,a⟩
  ·obtain ⟨t,A⟩:=gk8 p;exact h.okId l o s b g (((h i q b).take t.1 t.2).cids _ A x a)
  ·exact h.okId l o s b g (((h i q b).lok _ _ _ z).vids v rfl x a)
end
end Go.X
namespace Go.X
open Go.RowKit Go.V
section
variable {T:Tab} {P:Program} {C:Ctx T} {ops:Array Oper} {n B:Nat} {F0:AF T} {H0:List (Ent T.U)} {rs:List (Rec T)}
variable {w w':World} {S:List Nat} {φ:Nat->RA} {w0:World} {S0:Ow} {Q:Exit->Act->World->Prop} {ds:List Deferred}
def StD (rs:List (Rec T)) (F0:AF T) (H0:List (Ent T.U)) (n N:Nat) (D:Nat->Bool):St T:=⟨mkF (fF D rs (F0.get T)) n,mkH N (hF D rs (base H0))⟩
def TrOk.slotD (u:OkD ops n) (h:TrOk P C ops n B F0 H0 rs) {D j r} (A:rs[j]?=some r) (M:rs.length=ops.size) (v: ∀k,Tp ops j k->D k=true) (E: ∀i k,D i=true->Tp ops i k->D k=true) (O:D j=false) {t} (R:t∈zo7 r.o++zq8 ops r.o):fF D rs (F0.get T) t=fF zi5 (rs.take j) (F0.get T) t:=by
 have m:=(h j r A).op;rw [h.idx A] at m;rcases u.reads m R with ⟨k,x,F⟩|G
 ·have y:=Tp.lt u.back (.one x) (Y3.1 m).1;have H:k<rs.length:=by have:=(X2.1 A).1;omega
  have z:=Y0 H;have g:=(h k _ z).op;rw [h.idx z] at g;have a:rs[k].o.dst=some t:=by rw [<-zk4 g];exact F
  have I:=X6 z;rw [yi2 I a fun q b c=>h.uniq u b I c a,yi2 (zr1 y z) a fun q b c=>h.uniq u (J8 b) I c a,h.idx z,v k (.one x)];rfl
 ·have l: ∀q∈rs,q.o.dst=some t-> ∃i,rs[i]?=some q/\i<ops.size/\Tp ops i j:=fun q b a=>by
   obtain ⟨i,p⟩:=Y9.1 b;have d:=(h i q p).op;rw [h.idx p] at d;have f:=(Y3.1 d).1;exact ⟨i,p,f,G i f (by rw [zk4 d];exact a)⟩
  have s:fF zi5 (rs.take j) (F0.get T) t=F0.get T t:=zk3 fun q b a=>by
   obtain ⟨k,y,J⟩:=zl9 b;obtain ⟨i,p,f,K⟩:=l q (J8 b) a;have e:i=k:=by rw [<-h.idx p,<-h.idx J]
   subst e;have:=Tp.lt u.back K f;omega
  rw [s];by_cases N: ∃q∈rs,q.o.dst=some t
  ·obtain ⟨q,b,a⟩:=N;obtain ⟨i,p,_,K⟩:=l q b a;rw [yi2 b a fun U L c=>h.uniq u L b c a,h.idx p];cases hDi:D i with
   |false=>rfl
   |true=>have:=E i j hDi K;rw [O] at this;cases this
  ·exact zk3 fun q b a=>N ⟨q,b,a⟩
def TrOk.slotPut (l:OkD ops n) (h:TrOk P C ops n B F0 H0 rs) {D j r} (k:rs[j]?=some r) (t):fF (zi4 D j) rs (F0.get T) t=if r.o.dst=some t then some r.a else fF D rs (F0.get T) t:=by
 by_cases m: ∃q∈rs,q.o.dst=some t
 ·obtain ⟨q,d,e⟩:=m;rw [yi2 d e fun p f b=>h.uniq l f d b e,yi2 d e fun p f b=>h.uniq l f d b e];obtain ⟨i,c⟩:=Y9.1 d;by_cases g:i=j
  ·subst g;rw [k] at c;have:=X5 c;subst this;rw [if_pos e];unfold zi4;rw [h.idx k,if_pos rfl]
  ·have:r.o.dst≠some t:=fun b=>g (by
    have:=h.uniq l d (X6 k) e b;subst this;rw [<-h.idx c,<-h.idx k])
   rw [if_neg this];unfold zi4;rw [h.idx c,if_neg g]
 ·have none: ∀q∈rs,q.o.dst≠some t:=fun q d e=>m ⟨q,d,e⟩;rw [zk3 none,zk3 none,if_neg (none r (X6 k))]
def je8 {a:Act} {dst v n} (c:a.tmps.size=n) (e:zi0 n dst=true):(a.put dst v).tmps.size=n/\(a.put dst v).defers=a.defers/\ ∀t,t<n->(a.put dst v).tmps.getD t undef=if dst=some t then v else a.tmps.getD t undef:=by
 cases dst with
 |none=>exact ⟨c,rfl,fun t _=>by rw [if_neg (by simp)];rfl⟩
 |some d=>
  have f:d<n:=by simpa [zi0,U4] using e
  refine ⟨by simpa [Act.put] using c,rfl,fun t g=>?_⟩;simp only [Act.put];rw [Y7,Array.getElem?_setIfInBounds,Y7];by_cases b:d=t
  ·subst b;rw [if_pos rfl,if_pos (by omega),if_pos rfl];rfl
  ·rw [if_neg b,if_neg (by simpa using b)]
def qs9 (m:OkD ops n) (h:TrOk P C ops n B F0 H0 rs) {D:Nat->Bool} {j N:Nat} {r:Rec T} (i:rs[j]?=some r) {H2:List (Ent T.U)} {a:Act} {v:Value} (k:a.tmps.size=n) (d:Sim T w0 S0 ⟨mkF (fF D rs (F0.get T)) n,H2⟩ (zv2 a n) w S φ)
  (p:r.o.dst≠none->VR T w S φ r.a v/\okA H2 r.a):Sim T w0 S0 ⟨mkF (fF (zi4 D j) rs (F0.get T)) n,H2⟩ (zv2 (a.put r.o.dst v) n) w S φ:=by
 obtain ⟨_,_,e⟩:=je8 (v:=v) k (h j r i).dst;refine ⟨fun t b c=>?_,fun t b c=>?_,d.chg,d.own,d.ex,d.lives,d.pins,d.ents,d.eids,d.apart⟩
 ·obtain ⟨f,c⟩:=zf6.1 c;rw [h.slotPut m i] at c;split at c
  ·rename_i g;simp only [X0] at c;subst c;exact ⟨v,zl5.2 ⟨f,by rw [e t f,if_pos g]⟩,(p (by rw [g];simp)).1⟩
  ·rename_i g;obtain ⟨u,q,l⟩:=d.fr t b (zf6.2 ⟨f,c⟩);exact ⟨u,zl5.2 ⟨f,by rw [e t f,if_neg g];exact (zl5.1 q).2⟩,l⟩
 ·obtain ⟨f,c⟩:=zf6.1 c;rw [h.slotPut m i] at c;split at c
  ·rename_i g;simp only [X0] at c;subst c;exact (p (by rw [g];simp)).2
  ·exact d.ids t b (zf6.2 ⟨f,c⟩)
def uf3 (hk:OkD ops n) (hE:zb2 T P C.E) (h:TrOk P C ops n B F0 H0 rs) (hlen:rs.length=ops.size) (hB:H0.length=B) (hF0: ∀t a,F0.get T t=some a->t<n/\ ∀i∈a.ids,i<B) (hH0: ∀f∈H0,∀i∈f.cellIds,i<B) (hpin:S0.pin.length<=B)
  {N} (hN: ∀q∈rs,q.d.ne<=N) {D} (I: ∀i k,D i=true->Tp ops i k->D k=true) {j r} (W:rs[j]?=some r) (hD:D j=false) (hpre: ∀k,Tp ops j k->D k=true) (s:r.skip=false) (p:r.loc=none)
  {a} (hsz:a.tmps.size=n) (hdf:a.defers=ds) (hs:Sim T w0 S0 (StD rs F0 H0 n N D) (zv2 a n) w S φ):
  r.o.wp P a w (fun a' w'=>a'.tmps.size=n/\a'.defers=ds/\ ∃S1 φ1,Sim T w0 S0 (StD rs F0 H0 n N (zi4 D j)) (zv2 a' n) w' S1 φ1) Q:=by
 have A:=h j r W;have g:=A.take s p;have hnN:=hN r (X6 W);have G: ∀e∈r.d.tch,hF D rs (base H0) e=hF zi5 (rs.take j) (base H0) e:=fun e J=>h.touch I W s p hD hpre J;have K: ∀(e:Nat) (f:Ent T.U),r.Hm[e]?=some f->f=.gone\/(e∈r.d.tch/\(mkH N (hF D rs (base H0)))[e]?=some f):=by
  intro e f m;have l:=(X2.1 m).1;rw [g.hlen] at l;rw [g.hm e l] at m;simp only [X0] at m;split at m
  ·rename_i J;exact .inr ⟨J,zf7.2 ⟨by have:=A.le.2;omega,by rw [G e J];exact m⟩⟩
  ·exact .inl m.symm
 have hsub:Sim T w ⟨r.d.tch.flatMap fun e=>(φ e).all,S,(List.range r.d.nb).map φ⟩ ⟨r.F,r.Hm⟩ (zv2 a n) w S φ:=by
  have hfr: ∀t x,r.F.get T t=some x->(mkF (fF D rs (F0.get T)) n).get T t=some x:=by
   intro t x z;obtain ⟨h1,H⟩:=g.fr t x z;have X:=h.slotD hk W hlen hpre I hD (t:=t) (X4.2 (.inl h1));refine zf6.2 ⟨?_,by rw [X];exact H⟩;by_cases O: ∃q∈rs.take j,q.o.dst=some t
   ·obtain ⟨q,hq,Y⟩:=O;obtain ⟨i,_,hqi⟩:=zl9 hq;have hopi:=(h i q hqi).op;exact hk.dst q.d.j t (Y3.1 hopi).1 (by rw [zk4 hopi];exact Y)
   ·rw [zk3 fun q hq Y=>O ⟨q,hq,Y⟩] at H;exact (hF0 t x H).1
  refine ⟨fun t x z=>hs.fr t x (hfr t x z),fun t x z=>⟨fun i hi=>by simp only [g.hlen];exact g.fid t x z i hi,?_⟩,Chg.refl _ _,fun b hb=>⟨.inl hb,(hs.own b hb).2⟩,fun b hb _ _=>hb,fun e f m hl x z=>?_,fun k q hq=>?_,fun e f m=>?_,fun e f m i hi=>by simp only [g.hlen];exact g.eids f (X6 m) i hi,fun i k f f' m hf' hl hl' hik x y z hy=>?_⟩
  ·obtain ⟨_,H⟩:=hs.ids t x (hfr t x z);cases x with
   |eptr y sz k c=>
    intro e1 t1 xs hxs;rcases K y _ hxs with X|⟨_,X⟩
    ·cases X
    ·exact H e1 t1 xs X
   |_=>trivial
  ·rcases K e f m with rfl|⟨h1,H⟩
   ·cases hl
   ·exact ⟨(hs.lives e f H hl x z).1,.inl (V6.2 ⟨e,h1,zr4.2 ⟨x,z,rfl⟩⟩)⟩
  ·have l:=(X2.1 hq).1;simp at l;simp [l] at hq;exact ⟨.of hq,by simp only [g.hlen];exact l⟩
  ·rcases K e f m with rfl|⟨_,H⟩
   ·trivial
   ·exact hs.ents e f H
  ·rcases K i f m with rfl|⟨_,H⟩
   ·cases hl
   ·rcases K k f' hf' with rfl|⟨_,h2'⟩
    ·cases hl'
    ·exact hs.apart i k f f' H h2' hl hl' hik x y z hy
 obtain ⟨Fz,hstep⟩:=g.step;have hop:=ju6 (Q:=Q) (ds:=ds) hE hstep A.dst g.ns g.pre hsub (yj9 hsz hdf);refine Oper.wp_mono (fun a' w' hX=>?_) hop;obtain ⟨F1,⟨S1,φ1,hst⟩,hfr1,v,rfl⟩:=hX;obtain ⟨hsz',hdf',hget⟩:=je8 (v:=v) hsz A.dst;refine ⟨hsz',by rw [hdf',hdf],?_⟩;have hup: ∀e,hF (zi4 D j) rs (base H0) e=(upR r e).getD (hF D rs (base H0) e):=fun e=>(h.put I W hD e).trans (jm9 p ..);have hnb:=A.le.2;obtain ⟨φ2,g1,g2⟩:=hs.frame2 (tch:=r.d.tch) (nb:=r.d.nb) hst (by rw [g.ne];exact hnb) (by rw [zp2,g.ne];exact hnN) (by have:=A.le.1;omega)
  (fun e J=>⟨(g.live e J).1,_,zf7.2 ⟨by have:=(g.live e J).1;omega,rfl⟩,by rw [G e J];exact (g.live e J).2⟩)
  (fun e h1 H=>zf7.2 ⟨by rw [g.ne] at H;omega,h.free hB I W hD h1 (by rw [<-g.ne];exact H)⟩) (H2:=mkH N (hF (zi4 D j) rs (base H0))) (by rw [zp2,zp2])
  (fun e f m=>by
   obtain ⟨J,m⟩:=zf7.1 m;rw [hup] at m;by_cases L:e∈r.d.tch
   ·refine .inl ⟨L,?_⟩;have l:=(g.live e L).1;have R:r.H1[e]?=some (r.H1[e]'(by rw [g.ne];omega)):=Y0 _;by_cases O:e∈r.d.wr
    ·have:upR r e=r.H1[e]?:=by unfold upR;rw [s,p];simp only;rw [if_pos l,if_pos ⟨L,O⟩]
     rw [this,R,V3] at m;rw [R,m]
    ·have:upR r e=none:=by unfold upR;rw [s,p];simp only;rw [if_pos l,if_neg (fun q=>O q.2)]
     rw [this,R5] at m;rw [g.keeps.same e (by rw [g.hlen];exact l) O,g.hm e l,if_pos L,<-G e L,m]
   ·by_cases hin:r.d.nb<=e/\e<r.d.ne
    ·refine .inr (.inl ⟨hin.1,?_⟩);have R:r.H1[e]?=some (r.H1[e]'(by rw [g.ne];exact hin.2)):=Y0 _;have:upR r e=r.H1[e]?:=by unfold upR;rw [s,p];simp only;rw [if_neg (by omega)]
     rw [this,R,V3] at m;rw [R,m]
    ·have:upR r e=none:=by
      unfold upR;rw [s,p];simp only;by_cases l:e<r.d.nb
      ·rw [if_pos l,if_neg (fun q=>L q.1)]
      ·rw [if_neg l,Y5 (by rw [g.ne];omega)]
     rw [this,R5] at m;exact .inr (.inr ⟨L,by rw [g.ne];omega,zf7.2 ⟨J,m⟩⟩))
  (fun e ty t ys J hy=>by
   have l:=(g.live e J).1;obtain ⟨xs,z⟩:=g.keeps.row e ty t ys (by rw [g.hlen];exact l) hy;rcases K e _ z with X|⟨_,X⟩
   ·cases X
   ·exact ⟨xs,X⟩)
  (fun t x z=>by
   rw [g.ne];exact h.fid hk (fun t a ha=>(hF0 t a ha).2) I W hD (zf6.1 z).2)
  (fun e f m _=>by
   rw [g.ne];obtain ⟨_,rfl⟩:=zf7.1 m;exact h.hid hH0 I W hD)
 refine ⟨S1,φ2,qs9 hk h (N:=N) W hsz g1 fun hdn=>?_⟩;obtain ⟨d,Y⟩: ∃d,r.o.dst=some d:=by
  cases Y:r.o.dst with
  |none=>exact absurd Y hdn
  |some d=>exact ⟨d,rfl⟩
 have M:(za9 T Fz r.o.dst r.a).get T d=some r.a:=by rw [Y];simp only [za9,AF.get,V7]
 obtain ⟨u,hu1,hu2⟩:=hst.fr d r.a M;obtain ⟨Z,ho2⟩:=hst.ids d r.a M;have hdn':d<n:=by have:=A.dst;rw [Y] at this;simpa [zi0,U4] using this
 have huv:u=v:=by
  have:=(hfr1.val d u hu1).1;rw [hget d hdn',if_pos Y] at this;exact this.symm
 subst huv;refine ⟨g2 r.a u hu2 Z,fun i hi=>?_,?_⟩
 ·have h1:=Z i hi;simp only [g.ne] at h1;rw [zp2];omega
 ·cases hra:r.a with
  |eptr y sz k c=>
   rw [hra] at Z ho2;intro e1 t1 xs hxs;have hy:y<r.H1.length:=Z y (by simp [AV.ids]);obtain ⟨_,m⟩:=zf7.1 hxs;rw [hup] at m;have R:r.H1[y]?=some (r.H1[y]'hy):=Y0 _;by_cases l:y<r.d.nb
   ·by_cases L:y∈r.d.tch
    ·refine ho2 e1 t1 xs ?_;by_cases O:y∈r.d.wr
     ·have:upR r y=r.H1[y]?:=by unfold upR;rw [s,p];simp only;rw [if_pos l,if_pos ⟨L,O⟩]
      rw [this,R,V3] at m;rw [<-m];exact R
     ·have:upR r y=none:=by unfold upR;rw [s,p];simp only;rw [if_pos l,if_neg (fun q=>O q.2)]
      rw [this,R5] at m;show r.H1[y]?=_;rw [g.keeps.same y (by rw [g.hlen];exact l) O,g.hm y l,if_pos L,<-G y L,m]
    ·have:=g.ep;rw [hra] at this;simp only [gm1,M2] at this;rcases this with V|V|V
     ·exact absurd (zb7.1 V) L
     ·have:=Y1 V;omega
     ·exfalso;have hyB:y<B:=by
       unfold gm8 at V;split at V
       ·rename_i z;have:=(X2.1 z).1;omega
       ·cases V
      have h6:=h.rowFrom hyB rs.length (zi4 D j) (by rw [N8,hup,m];rfl);unfold gm8 at V;unfold base at h6;split at V
      ·rename_i z;rw [z] at h6;cases h6
      ·cases V
   ·have:upR r y=r.H1[y]?:=by unfold upR;rw [s,p];simp only;rw [if_neg l]
    rw [this,R,V3] at m;refine ho2 e1 t1 xs ?_;rw [<-m];exact R
  |_=>trivial
def qx4 {F b} (hF: ∀t a,F.get T t=some a->b.get T t=some a) {o} (h:zt6 F o=true):zt6 b o=true:=by
 unfold zt6 at h⊢;rw [Y8] at h⊢;intro x c;obtain ⟨a,d⟩:=N4.1 (h x c);rw [zy7 hF d];rfl
def uf4 (hk:OkD ops n) (hE:zb2 T P C.E) (h:TrOk P C ops n B F0 H0 rs) (J:rs.length=ops.size) {N} (hN: ∀q∈rs,q.d.ne<=N) (hF0: ∀t a,F0.get T t=some a->t<n/\ ∀i∈a.ids,i<B)
  {D} (z: ∀i k,D i=true->Tp ops i k->D k=true) {j r} (H:rs[j]?=some r) {k c Z} (K:r.loc=some (k,c,Z)) (hD:D j=false) (p: ∀k,Tp ops j k->D k=true)
  {a} (L:a.tmps.size=n) (M:a.defers=ds) (hs:Sim T w0 S0 (StD rs F0 H0 n N D) (zv2 a n) w S φ):
  r.o.wp P a w (fun a' w'=>a'.tmps.size=n/\a'.defers=ds/\ ∃S1 A,Sim T w0 S0 (StD rs F0 H0 n N (zi4 D j)) (zv2 a' n) w' S1 A) Q:=by
 have m:=h j r H;have l:=m.lok _ _ _ K;have hkN:k<N:=by have:=hN r (X6 H);have:=l.lt;have:=m.le.2;omega
 have O: ∀t x,r.F.get T t=some x->(mkF (fF D rs (F0.get T)) n).get T t=some x:=by
  intro t x hx;obtain ⟨h1,R⟩:=l.fr t x hx;have h3:=h.slotD hk H J p z hD (t:=t) (X4.2 (.inl h1));refine zf6.2 ⟨?_,by rw [h3];exact R⟩;by_cases hw: ∃q∈rs.take j,q.o.dst=some t
  ·obtain ⟨q,hq,I⟩:=hw;obtain ⟨i,_,hqi⟩:=zl9 hq;have s:=(h i q hqi).op;exact hk.dst q.d.j t (Y3.1 s).1 (by rw [zk4 s];exact I)
  ·rw [zk3 fun q hq I=>hw ⟨q,hq,I⟩] at R;exact (hF0 t x R).1
 have hst:=l.step _ (mkH N (hF D rs (base H0))) _ O (zf7.2 ⟨hkN,rfl⟩) (h.touchL z H K hD p);have hop:=ju6 (Q:=Q) (ds:=ds) hE hst m.dst l.ns (qx4 O l.pre) hs (yj9 L M);refine Oper.wp_mono (fun a' w' hX=>?_) hop;obtain ⟨F1,⟨S1,A,f⟩,V,v,rfl⟩:=hX;obtain ⟨W,X,_⟩:=je8 (v:=v) L m.dst;refine ⟨W,by rw [X,M],S1,A,?_⟩;have hH:qm7 k c Z (hF D rs (base H0) k) (mkH N (hF D rs (base H0)))=mkH N (hF (zi4 D j) rs (base H0)):=by
  apply R7;intro e;by_cases he:e<N
  ·rw [zf7.2 ⟨he,rfl⟩,h.put z H hD];cases Z with
   |none=>
    show (mkH N (hF D rs (base H0)))[e]?=_;rw [zf7.2 ⟨he,rfl⟩];have hup:upR r e=none:=by unfold upR;rw [l.skip,K]
    unfold upG;rw [K];simp only [hup,R5]
   |some u=>
    show ((mkH N (hF D rs (base H0))).set k _)[e]?=_;unfold upG;rw [K];simp only;by_cases G:e=k
    ·subst G;rw [Q0 (by rw [zp2];exact he),if_pos rfl]
    ·rw [Z5 (Ne.symm G),if_neg G,zf7.2 ⟨he,rfl⟩]
  ·rw [Y5 (by cases Z<;>simp [qm7,zp2]<;>omega),Y5 (by rw [zp2];omega)]
 rw [hH] at f;have y: ∀t b,(mkF (fF (zi4 D j) rs (F0.get T)) n).get T t=some b->t<n/\(za9 T (mkF (fF D rs (F0.get T)) n) r.o.dst r.a).get T t=some b:=by
  intro t b g;obtain ⟨Y,g⟩:=zf6.1 g;refine ⟨Y,?_⟩;rw [h.slotPut hk H] at g;cases I:r.o.dst with
  |none=>rw [I,if_neg (by simp)] at g;exact zf6.2 ⟨Y,g⟩
  |some d=>
   rw [I] at g;simp only [za9,AF.get];cases hdt:Nat.beq d t with
   |true=>have:=X1 hdt;subst this;rw [if_pos rfl] at g;exact g
   |false=>
    rw [if_neg (fun e=>by cases e;simp at hdt)] at g;exact zf6.2 ⟨Y,g⟩
 refine ⟨fun t b g=>?_,fun t b g=>f.ids t b (y t b g).2,f.chg,f.own,f.ex,f.lives,f.pins,f.ents,f.eids,f.apart⟩;obtain ⟨Y,g⟩:=y t b g;obtain ⟨u,h1,R⟩:=f.fr t b g;exact ⟨u,zl5.2 ⟨Y,(V.val t u h1).1⟩,R⟩
def Sim.sub2 {I:AF T} {J K} (o:Sim T w0 S0 ⟨I,J⟩ K w S φ) {Fr:AF T} {Hm:List (Ent T.U)} {tch:List Nat} {nb} (p: ∀t x,Fr.get T t=some x->I.get T t=some x) (a: ∀(e:Nat) (f:Ent T.U),Hm[e]?=some f->f=.gone\/(e∈tch/\J[e]?=some f))
  (d:Hm.length=nb) (r: ∀t x,Fr.get T t=some x-> ∀i∈x.ids,i<nb) (h: ∀f∈Hm,∀i∈f.cellIds,i<nb):Sim T w ⟨tch.flatMap fun e=>(φ e).all,S,(List.range nb).map φ⟩ ⟨Fr,Hm⟩ K w S φ:=by
 refine ⟨fun t x g=>o.fr t x (p t x g),fun t x g=>⟨fun i z=>by simp only [d];exact r t x g i z,?_⟩,Chg.refl _ _,fun b v=>⟨.inl v,(o.own b v).2⟩,fun b v _ _=>v,fun e f j s x g=>?_,fun k q A=>?_,fun e f j=>?_,fun e f j i z=>by simp only [d];exact h f (X6 j) i z,fun i k f L j D s u E x y g M=>?_⟩
 ·obtain ⟨_,l⟩:=o.ids t x (p t x g);cases x with
  |eptr y sz k c=>
   intro N O xs F;rcases a y _ F with G|⟨_,G⟩
   ·cases G
   ·exact l N O xs G
  |_=>trivial
 ·rcases a e f j with rfl|⟨R,l⟩
  ·cases s
  ·exact ⟨(o.lives e f l s x g).1,.inl (V6.2 ⟨e,R,zr4.2 ⟨x,g,rfl⟩⟩)⟩
 ·have m:=(X2.1 A).1;simp at m;simp [m] at A;exact ⟨.of A,by simp only [d];exact m⟩
 ·rcases a e f j with rfl|⟨_,l⟩
  ·trivial
  ·exact o.ents e f l
 ·rcases a i f j with rfl|⟨_,l⟩
  ·cases s
  ·rcases a k L D with rfl|⟨_,H⟩
   ·cases u
   ·exact o.apart i k f L l H s u E x y g M
def Oper.wp_pan {o:Oper} {a:Act} {w:World} {K K':Act->World->Prop} {Q Q':Exit->Act->World->Prop} (hK: ∀a w,K a w->False) (hQ: ∀ch w',Q (.panic ch) a w'->Q' (.panic ch) a w') (hO: ∀a w,Q .outgrown a w->False)
  (h:o.wp P a w K Q):o.wp P a w K' Q':=by
 unfold Oper.wp at h⊢;generalize (execOp a.eval o).run P w=r at h⊢;unfold Oper.upon at h⊢;split at h
 ·exact (hK _ _ h).elim
 ·exact (hK _ _ h).elim
 ·exact (hK _ _ h).elim
 ·refine h.mono fun e w' hq=>?_;cases e with
  |returned v=>exact (hK _ _ hq).elim
  |panicked ch=>exact hQ _ _ hq
  |outgrown=>obtain ⟨a1,w1,h1⟩:=hq;exact (hO _ _ h1).elim
 ·exact h.mono fun v w' hq=>(hK _ _ hq).elim
 ·exact hQ _ _ h
 ·exact h.elim
def vr2 {o F H m} (M:zb2 T P C.E) {p q} (N:zg7 P C o ⟨F,H⟩ (fun _=>none) (fun a st=>some (a,st.H))=some (p,q)) (r:zi0 n o.dst=true) (x:zb3 o=true) (s:zt6 F o=true) (h:Sim T w0 S0 ⟨F,H⟩ m w S φ) {a} (J:Fr n ds m a)
  {K} (O: ∀v w' S1 b F1 f,Sim T w0 S0 ⟨f,q⟩ F1 w' S1 b->VR T w' S1 b p v->Q (.panic [{v:=v,recovered:=false}]) a w'):o.wp P a w K Q:=by
 let o':Oper:= {o with guard:=none}
 have L:dec #[o'] 0 n m=some o':=by
  unfold dec;have d:zv8 #[o'] m o'=some true:=rfl;have R:yb3 m o'=true:=ym8 (o:=o') h.fr s;have l:zi0 n o'.dst=true:=r;have V:zb3 o'=true:=x;simp only [List.getElem?_toArray,Y4,d,R,l,V,N3]
 have y:zg7 P C o' ⟨F,H⟩ (fun _=>none) (fun a st=>some (a,st.H))=some (p,q):=by
  cases o;exact N
 have z:=jb5 (Q:=fun e _ w'=> ∃v S1 b F1 f,e=.panic [{v:=v,recovered:=false}]/\Sim T w0 S0 ⟨f,q⟩ F1 w' S1 b/\VR T w' S1 b p v) (ds:=ds) M L y h (fun st c=>by cases c) (fun t st c=>by
  simp only [X0,X7] at c;obtain ⟨rfl,rfl⟩:=c;intro F1 u S1 b v A D _ W _;exact ⟨v,S1,b,F1,st.F,rfl,A,D⟩)
 have d:=z a J;unfold wpList at d;have i:Region.wanted o' (yielded #[o'] a.tmps)=true:=(zn2 L).2.2.2.2 J;have j:(#[o']:Array Oper).toList.drop 0= [o']:=rfl;rw [j] at d;simp only [i,if_true] at d;have G: ∀ {t:Act} {u:World},wpList P #[o'] (fun e _ w'=> ∃v S1 b F1 f,e=.panic [{v:=v,recovered:=false}]/\Sim T w0 S0 ⟨f,q⟩ F1 w' S1 b/\VR T w' S1 b p v) [] t u->False:=by
  intro t u l;unfold wpList at l;obtain ⟨v,_,_,_,_,k,_⟩:=l;cases k
 rcases d with d|⟨_,t,u,l⟩
 ·refine jn0 (g:=none) ?_;refine Oper.wp_pan (o:=o') (fun _ _ h=>G h) (fun X w' I=>?_) (fun _ _ I=>?_) d
  ·obtain ⟨v,S1,b,F1,f,k,A,D⟩:=I;cases k;exact O v w' S1 b F1 f A D
  ·obtain ⟨v,_,_,_,_,k,_⟩:=I;cases k
 ·obtain ⟨v,_,_,_,_,k,_⟩:=l;cases k
def yw2 {l t a}: ∀ {F},(qm3 T l F).get T t=some a->F.get T t=some a/\t∉l
 | [],h=>by simp [qm3,AF.get] at h
 |(q,b)::r,h=>by
  unfold qm3 at h;split at h
  ·rename_i c;obtain ⟨f,e⟩:=yw2 h;refine ⟨?_,e⟩;simp only [AF.get];split
   ·rename_i d;have:=X1 d;subst this;exact absurd (zb7.1 c) e
   ·exact f
  ·rename_i c;simp only [AF.get] at h⊢;split at h
   ·rename_i d;have:=X1 d;subst this;refine ⟨h,fun g=>?_⟩;rw [zb7.2 g] at c;cases c
   ·exact yw2 h
def uo3 (Z:OkD ops n) (hE:zb2 T P C.E) (h:TrOk P C ops n B F0 H0 rs) (hlen:rs.length=ops.size) (hB:H0.length=B) (hF0: ∀t a,F0.get T t=some a->t<n/\ ∀i∈a.ids,i<B) (hH0: ∀f∈H0,∀i∈f.cellIds,i<B) (hpin:S0.pin.length<=B)
  {N} (hN: ∀q∈rs,q.d.ne<=N) {D} (hcl: ∀i k,D i=true->Tp ops i k->D k=true) {j r} (I:rs[j]?=some r) {a0 J} (hp:PanI P C ops B F0 H0 rs j a0 J) (hD:D j=false) (u: ∀k,Tp ops j k->D k=true)
  {a} (hsz:a.tmps.size=n) (hdf:a.defers=ds) (hs:Sim T w0 S0 (StD rs F0 H0 n N D) (zv2 a n) w S φ) (HP:yp7 Q n ds w0 S0 a0 (⟨qm3 T (yo0 ops ops.size) F0,J⟩:St T)) {K}:
  r.o.wp P a w K Q:=by
 obtain ⟨⟨V,tch,F,Hm,Hp,wr,p1,p2,p3,p4,p5,p6,p7,p8,p9,M,m,p12,p13,p14,p15,p16,p17⟩,q1,q2,q3,q4⟩:=hp;have:V=r:=by rw [I] at p1;exact (X5 p1).symm
 subst this;have p:=h j V I;have hnN:=hN V (X6 I);have same: ∀e,(∀q∈rs,yx0 q e->q.d.j<j/\D q.d.j=true)->hF D rs (base H0) e=hF zi5 (rs.take j) (base H0) e:=by
  intro e g
  conv=>lhs;rw [yk6 I]
  rw [ya4];show hF D (rs.drop (j+1)) (match D V.d.j with|true=>_|false=>hF D (rs.take j) (base H0)) e=_;rw [h.idx I,hD];simp only;rw [zr3 fun q z _ hu=>?_]
  ·refine zy9 rfl fun q z hu=>?_;exact (g q (J8 z) hu).2
  ·obtain ⟨i,hi,b⟩:=yd1 z;have:=(g q (X6 b) hu).1;rw [h.idx b] at this;omega
 have htch: ∀e∈tch,hF D rs (base H0) e=hF zi5 (rs.take j) (base H0) e:=by
  intro e g;refine same e fun q z hu=>?_;obtain ⟨i,b⟩:=Y9.1 z;have henb:=(M e g).1;rw [h.idx b];rcases Classical.em (∃c1 v1,q.loc=some (e,c1,some v1)) with ⟨c1,v1,A⟩|hnl
  ·have hlk:=(h i q b).lok _ _ _ A;rcases M1 i j with G|rfl|G
   ·refine ⟨G,?_⟩;rcases p15 q (zr1 G b) with W|⟨_,h1⟩
    ·rw [h.idx b] at W;exact u i W
    ·exact absurd g (h1 e c1 v1 A)
   ·rw [I] at b;have:=X5 b;subst this;rw [(p.skip (p.dskip p2)).2] at A;cases A
   ·exfalso;have:=q2 q z hlk.skip (.inr ⟨_,_,_,A⟩);rw [h.idx b] at this;have:=Tp.lt Z.back this (by have:=(X2.1 I).1;omega);omega
  obtain ⟨⟨O,hql⟩,hc⟩:=zk5 (hu.resolve_right hnl);rcases M1 i j with G|rfl|G
  ·refine ⟨G,?_⟩;rcases p15 q (zr1 G b) with W|⟨h1,_⟩
   ·rw [h.idx b] at W;exact u i W
   ·exfalso;have hw:=h1 e g;unfold DR.wrE at hw;simp only [Bool.or_eq_false_iff,Bool.and_eq_false_imp] at hw;rcases hc with ⟨_,_,g3⟩|⟨R,g2⟩
    ·rw [zb7.2 g3] at hw;cases hw.1
    ·have:=hw.2 (W3 R);rw [((h i q b).take O hql).ne] at g2;rw [show Nat.blt e q.d.ne=true by rw [U4];exact g2] at this;cases this
  ·rw [I] at b;have:=X5 b;subst this;rw [p.dskip p2] at O;cases O
  ·exfalso;have hord:=h.ord G I b;have hle:=p.le.2;rcases hc with ⟨_,_,g3⟩|⟨R,_⟩
   ·have:=q2 q z O (.inl fun e'=>by rw [e'] at g3;cases g3);rw [h.idx b] at this;have:=Tp.lt Z.back this (by have:=(X2.1 I).1;omega);omega
   ·omega
 have hcore: ∀e,e<B->hF D rs (base H0) e=hF zi5 (rs.take j) (base H0) e:=by
  intro e g;refine same e fun q z hu=>?_;obtain ⟨i,b⟩:=Y9.1 z;rcases Classical.em (∃c1 v1,q.loc=some (e,c1,some v1)) with ⟨c1,v1,A⟩|hnl
  ·have X:=q2 q z ((h i q b).lok _ _ _ A).skip (.inr ⟨_,_,_,A⟩);refine ⟨Tp.lt Z.back X (by have:=(X2.1 I).1;omega),u _ X⟩
  obtain ⟨⟨O,hql⟩,hc⟩:=zk5 (hu.resolve_right hnl);have hqb:=(h i q b).le.1;rcases hc with ⟨_,_,g3⟩|⟨R,_⟩
  ·have X:=q2 q z O (.inl fun e'=>by rw [e'] at g3;cases g3);refine ⟨Tp.lt Z.back X (by have:=(X2.1 I).1;omega),u _ X⟩
  ·omega
 have hHm: ∀(e:Nat) (f:Ent T.U),Hm[e]?=some f->f=.gone\/(e∈tch/\(mkH N (hF D rs (base H0)))[e]?=some f):=by
  intro e f l;have s:=(X2.1 l).1;rw [p8] at s;rw [p9 e s] at l;simp only [X0] at l;split at l
  ·rename_i g;exact .inr ⟨g,zf7.2 ⟨by have:=p.le.2;omega,by rw [htch e g];exact l⟩⟩
  ·exact .inl l.symm
 have hsub:=hs.sub2 (Fr:=F) (Hm:=Hm) (tch:=tch) (nb:=V.d.nb) (fun t x L=>by
  obtain ⟨h1,h2⟩:=p12 t x L;have h3:=h.slotD Z I hlen u hcl hD (t:=t) (X4.2 (.inl h1));refine zf6.2 ⟨?_,by rw [h3];exact h2⟩;by_cases hw: ∃q∈rs.take j,q.o.dst=some t
  ·obtain ⟨q,z,hd⟩:=hw;obtain ⟨i,_,b⟩:=zl9 z;have H:=(h i q b).op;exact Z.dst q.d.j t (Y3.1 H).1 (by rw [zk4 H];exact hd)
  ·rw [zk3 fun q z hd=>hw ⟨q,z,hd⟩] at h2;exact (hF0 t x h2).1) hHm p8 p13 p14
 refine vr2 hE p6 p.dst p4 p5 hsub (yj9 hsz hdf) fun v w' S1 φ1 F1 Fc hst hv=>?_;have hnb:=p.le.2;obtain ⟨φ2,R,g2⟩:=hs.frame2 (tch:=tch) (nb:=V.d.nb) hst (by rw [m];exact hnb) (by rw [zp2,m];exact hnN) (by have:=p.le.1;omega)
  (fun e g=>⟨(M e g).1,_,zf7.2 ⟨by have:=(M e g).1;omega,rfl⟩,by rw [htch e g];exact (M e g).2⟩)
  (fun e h1 h2=>zf7.2 ⟨by rw [m] at h2;omega,h.free hB hcl I hD h1 (by rw [<-m];exact h2)⟩)
  (H2:=mkH N fun e=>if e∈tch\/(V.d.nb<=e/\e<V.d.ne) then (Hp[e]?).getD .gone else hF D rs (base H0) e) (by rw [zp2,zp2])
  (fun e f l=>by
   obtain ⟨g,l⟩:=zf7.1 l;by_cases ht:e∈tch
   ·rw [if_pos (.inl ht)] at l;have s:=(M e ht).1;have hg:Hp[e]?=some (Hp[e]'(by rw [m];omega)):=Y0 _;rw [hg,V3] at l;exact .inl ⟨ht,by rw [hg,l]⟩
   ·by_cases hn:V.d.nb<=e/\e<V.d.ne
    ·rw [if_pos (.inr hn)] at l;have hg:Hp[e]?=some (Hp[e]'(by rw [m];exact hn.2)):=Y0 _;rw [hg,V3] at l;exact .inr (.inl ⟨hn.1,by rw [hg,l]⟩)
    ·rw [if_neg (fun hh=>hh.elim ht hn)] at l;exact .inr (.inr ⟨ht,by rw [m];omega,zf7.2 ⟨g,l⟩⟩))
  (fun e ty t ys g hy=>by
   have s:=(M e g).1;obtain ⟨xs,L⟩:=p7.row e ty t ys (by rw [p8];exact s) hy;rcases hHm e _ L with h3|⟨_,h3⟩
   ·cases h3
   ·exact ⟨xs,h3⟩)
  (fun t x L=>by
   rw [m];exact h.fid Z (fun t a ha=>(hF0 t a ha).2) hcl I hD (zf6.1 L).2)
  (fun e f l _=>by
   rw [m];obtain ⟨_,rfl⟩:=zf7.1 l;exact h.hid hH0 hcl I hD)
 have hv2:=g2 a0 v hv (by rw [q4];intro i hi;cases hi);have Y: ∀(e:Nat) (f:Ent T.U),J[e]?=some f->(mkH N fun e=>if e∈tch\/(V.d.nb<=e/\e<V.d.ne) then (Hp[e]?).getD .gone else hF D rs (base H0) e)[e]?=some f:=by
  intro e f l;have s:=(X2.1 l).1;rw [p17] at s;rw [p16 e s] at l;simp only [X0] at l;have:=p.le.1;refine zf7.2 ⟨by omega,?_⟩;by_cases ht:e∈tch
  ·rw [if_pos ht] at l;rw [if_pos (.inl ht)];exact l
  ·rw [if_neg ht] at l;rw [if_neg (fun hh=>hh.elim ht fun h2=>by omega),hcore e s];exact l
 have hfin:Sim T w0 S0 ⟨qm3 T (yo0 ops ops.size) F0,J⟩ (zv2 a n) w' S1 φ2:=by
  have hget: ∀t x,(qm3 T (yo0 ops ops.size) F0).get T t=some x->(mkF (fF D rs (F0.get T)) n).get T t=some x:=by
   intro t x L;obtain ⟨h1,h2⟩:=yw2 L;refine zf6.2 ⟨(hF0 t x h1).1,?_⟩;rw [zk3 fun q z hd=>?_]
   ·exact h1
   ·obtain ⟨i,b⟩:=Y9.1 z;have H:=(h i q b).op;exact h2 (T3.2 ⟨q.d.j,V0.2 (Y3.1 H).1,by rw [H];exact hd⟩)
  refine ⟨fun t x L=>R.fr t x (hget t x L),fun t x L=>?_,R.chg,R.own,R.ex,fun i e g=>R.lives i e (Y i e g),fun k r Z=>?_,fun i e g=>R.ents i e (Y i e g),fun i e g x L=>?_,fun i k e e' g he'=>R.apart i k e e' (Y i e g) (Y k e' he')⟩
  ·obtain ⟨k1,k2⟩:=R.ids t x (hget t x L);refine ⟨fun i hi=>by simp only [p17];exact (hF0 t x (yw2 L).1).2 i hi,?_⟩;cases x with
   |eptr y sz k c=>intro e1 t1 xs hxs;exact k2 e1 t1 xs (Y y _ hxs)
   |_=>trivial
  ·have:=(X2.1 Z).1;exact ⟨(R.pins k r Z).1,by simp only [p17];omega⟩
  ·have:=q3 e (X6 g) x L;simp only [p17];exact this
 exact HP _ _ _ _ v hfin hv2 (zo0 q4 fun i sz k c e=>by rw [e,AV.ids] at q4;cases q4) a (yj9 hsz hdf)
def Sim.pad {F x H H'} (h:Sim T w0 S0 ⟨F,H⟩ x w S φ) (q:H.length<=H'.length) (o: ∀(e:Nat) (f:Ent T.U),H'[e]?=some f->f=.gone\/H[e]?=some f):Sim T w0 S0 ⟨F,H'⟩ x w S φ:=by
 refine ⟨h.fr,fun t a p=>?_,h.chg,h.own,h.ex,fun i e m d a p=>?_,fun k r z=>⟨(h.pins k r z).1,V1 (h.pins k r z).2 q⟩,fun i e m=>?_,fun i e m j A=>?_,fun i j e D m s d l u a b p E=>?_⟩
 ·obtain ⟨G,I⟩:=h.ids t a p;refine ⟨fun i J=>V1 (G i J) q,?_⟩;cases a with
  |eptr y sz k c=>
   intro K L xs M;rcases o y _ M with g|g
   ·cases g
   ·exact I K L xs g
  |_=>trivial
 ·rcases o i e m with rfl|g
  ·cases d
  ·exact h.lives i e g d a p
 ·rcases o i e m with rfl|g
  ·trivial
  ·exact h.ents i e g
 ·rcases o i e m with rfl|g
  ·cases A
  ·exact V1 (h.eids i e g j A) q
 ·rcases o i e m with rfl|g
  ·cases d
  ·rcases o j D s with rfl|v
   ·cases l
   ·exact h.apart i j e D g v d l u a b p E
def gl7:Value->Option Bool| .bool c=>some c|_=>none
def qt9 {R:Type} (a:Option (Nat×Option R)) (i:Nat):Prop:=match a with|none=>False|some (b,_)=>i=b
def kl3 {F:AF T} {H:List (Ent T.U)} {F':PF} {R:Type} {r:R} (hE:zb2 T P C.E) {pm:Bool} {Kp:AV T.U->St T->Option R} {K:St T->Option R} (HK: ∀st,K st=some r->vv9 Q n ds w0 S0 st) (HP: ∀a st,Kp a st=some r->yp7 Q n ds w0 S0 a st) (hr:gy6 T P C ops n pm Kp K ⟨F,H⟩=some r) (hs:Sim T w0 S0 ⟨F,H⟩ F' w S φ):
  ∀a,Fr n ds F' a->wpAny P .any ops Q ops.size (Array.replicate ops.size false) a {w with drawn:=w.drawn+1}:=by
 unfold gy6 at hr;split at hr<;>try (cases hr;done)
 rename_i hok;have Y:=kh0 hok;intro a ha;obtain ⟨rs,pz,FF,Hc,recs,M,hpz,hlen,hK⟩:=vk6 (B:=H.length) (F0:=F) (H0:=H) rfl Y hE ops.toList [] none F H [] rfl
  ⟨fun j r hj=>by simp at hj,fun t=>rfl,fun e he=>by simp only [hF,base];rw [Y0 he];rfl,W6 _,fun r hr=>(by cases hr),rfl⟩ (by intro q s;cases s) hr
 have h:=M.tr;have hF0: ∀t x,F.get T t=some x->t<n/\ ∀i∈x.ids,i<H.length:=fun t x J=>by
  obtain ⟨v,hv,_⟩:=hs.fr t x J;exact ⟨(ha.val t v hv).2,(hs.ids t x J).1⟩
 have hH0: ∀f∈H,∀i∈f.cellIds,i<H.length:=fun f hf i Z=>by
  obtain ⟨e,he⟩:=Y9.1 hf;exact hs.eids e f he i Z
 have hpin:S0.pin.length<=H.length:=by
  rcases N0 S0.pin.length with h0|h0
  ·omega
  ·have hlt:S0.pin.length-1<S0.pin.length:=by omega
   have:=(hs.pins _ _ (Y0 hlt)).2;simp only at this;omega
 have readyd: ∀(l:Array Bool) i,i∈Region.ready .any ops l->i<ops.size/\l.getD i true=false/\ ∀j,(zg1 ops i).contains j=true->l.getD j false=true:=by
  intro l i Z;unfold Region.ready at Z;rw [W0] at Z;have hlt:i<ops.size:=by simpa using Z.1
  have h2:=Z.2;rw [X3] at h2;refine ⟨hlt,by simpa using h2.1,fun j hj=>?_⟩;unfold zg1 at hj;rw [Z6 hlt] at hj h2;simp only [R3,decide_eq_true_eq,U0,W0] at hj;obtain ⟨e,⟨he,hb⟩,rfl⟩:=hj;have h3:=h2.2;simp only [Z8,V3,Array.all_eq_true'] at h3;have:=h3 e (by simpa using he);rw [hb] at this;simpa using this
 have readyI: ∀(l:Array Bool) i,i<ops.size->l.getD i true=false->(∀j,(zg1 ops i).contains j=true->l.getD j false=true)->i∈Region.ready .any ops l:=by
  intro l i hlt h1 h2;unfold Region.ready;rw [W0];refine ⟨by simpa using hlt,?_⟩;rw [Z6 hlt,h1];simp only [Bool.not_false,N6,Z8,V3,Array.all_eq_true'];intro e he;cases hb:Region.binds .any e with
  |false=>rfl
  |true=>
   have:=h2 e.on (by
    unfold zg1;rw [Z6 hlt];simp only [R3,decide_eq_true_eq,U0,W0];exact ⟨e,⟨by simpa using he,hb⟩,rfl⟩)
   rw [this];rfl
 let A:Array Bool->Nat->Bool:=fun l i=>l.getD i false
 let bad:Nat->Prop:=qt9 pz
 have hbad1: ∀(i:Nat) (q:Rec T),rs[i]?=some q->q.dead=true-> ∃k,bad k/\(i=k\/Tp ops i k):=by
  intro i q s hqd;cases hpp:pz with
  |none=>rw [hpp] at hpz;have:=hpz q (X6 s);rw [this] at hqd;cases hqd
  |some x=>
   obtain ⟨j0,kf⟩:=x;rw [hpp] at hpz;obtain ⟨a0,O,g1,_⟩:=hpz;refine ⟨j0,by show qt9 pz j0;rw [hpp];rfl,?_⟩;have:=g1.deads q (X6 s) hqd;rw [h.idx s] at this;exact this
 have hbad2: ∀k,bad k-> ∃(q:Rec T) (a0:AV T.U) (O:List (Ent T.U)) (_:Unit),rs[k]?=some q/\PanI P C ops H.length F H rs k a0 O/\Kp a0 ⟨qm3 T (yo0 ops ops.size) F,O⟩=some r:=by
  intro k hb;cases hpp:pz with
  |none=>have hb:qt9 pz k:=hb;rw [hpp] at hb;exact hb.elim
  |some x=>
   obtain ⟨j0,kf⟩:=x;have hb:k=j0:=by have hb:qt9 pz k:=hb;rw [hpp] at hb;exact hb
   subst hb;rw [hpp] at hpz hK;obtain ⟨a0,O,g1,rfl⟩:=hpz;obtain ⟨q,_,_,_,_,_,g2,_⟩:=g1.out;exact ⟨q,a0,O,(),g2,g1,hK⟩
 have hbad3:(∃k,bad k)\/K ⟨FF,Hc⟩=some r:=by
  cases hpp:pz with
  |none=>rw [hpp] at hK;exact .inr hK
  |some x=>
   obtain ⟨j0,kf⟩:=x;exact .inl ⟨j0,by show qt9 pz j0;rw [hpp];rfl⟩
 let I:Array Bool->Act->World->Prop:=fun l a w=>l.size=ops.size/\(∀i k,A l i=true->(zg1 ops i).contains k=true->A l k=true)/\a.tmps.size=n/\a.defers=ds/\(∀k,bad k->A l k=false)/\
  ∃S φ,Sim T w0 S0 (StD rs F H n Hc.length (A l)) (zv2 a n) w S φ
 refine ja4 I ?_ ?_ ops.size _ a _ ⟨by simp,by simp⟩ ⟨by simp,fun i k Z _=>?_,ha.size,ha.defers,fun k _=>?_,S,φ,?_⟩
 ·
  intro l a w i hI Z;obtain ⟨hls,hcl1,V,hdf,hnb,S,φ,L⟩:=hI;obtain ⟨hilt,hil,hip⟩:=readyd l i Z;have hDi:A l i=false:=by
   show l.getD i false=false;rw [Y7] at hil⊢;rw [Z6 (by omega)] at hil⊢;simpa using hil
  have hcl: ∀i k,A l i=true->Tp ops i k->A l k=true:=fun i k Z t=>by
   induction t with
   |one h=>exact hcl1 _ _ Z h
   |step h _ ih=>exact ih (hcl1 _ _ Z h)
  have hpre: ∀k,Tp ops i k->A l k=true:=fun k t=>by
   cases t with
   |one h=>exact hip _ h
   |step h t=>exact hcl _ _ (hip _ h) t
  have hset:A (l.setIfInBounds i true)=zi4 (A l) i:=by
   funext j;show (l.setIfInBounds i true).getD j false=if j=i then true else l.getD j false
   rw [Y7,Array.getElem?_setIfInBounds];by_cases hji:j=i
   ·subst hji;simp [hls,hilt]
   ·rw [if_neg (fun e=>hji e.symm),if_neg hji,<-Array.getD_eq_getD_getElem?]
  have D:rs[i]?=some rs[i]:=Y0 (by omega);generalize hrr:rs[i]=r at D;have hrk:=h i r D;have hop:=hrk.op;rw [h.idx D] at hop;have keepI: ¬bad i-> ∀a' w',a'.tmps.size=n->a'.defers=ds->(∃S1 φ1,Sim T w0 S0 (StD rs F H n Hc.length (zi4 (A l) i)) (zv2 a' n) w' S1 φ1)->I (l.setIfInBounds i true) a' w':=by
   intro hnbi a' w' h1 h2 h3;refine ⟨by simpa using hls,fun x k J Y=>?_,h1,h2,fun k Y=>by
    have hne:k≠i:=fun e=>hnbi (e▸Y);rw [hset];unfold zi4;rw [if_neg hne];exact hnb k Y,by rw [hset];exact h3⟩
   rw [hset] at J⊢;unfold zi4 at J⊢;by_cases hki:k=i
   ·rw [if_pos hki]
   ·rw [if_neg hki];by_cases hxi:x=i
    ·subst hxi;exact hip k Y
    ·rw [if_neg hxi] at J;exact hcl1 x k J Y
  have z: ∀b,(match r.o.guard with|none=>(some true:Option Bool)|some (g,b)=>(yielded ops a.tmps g).map fun c=>c==b)=b->(Region.wanted r.o (yielded ops a.tmps)=true↔b=some true):=by
   intro b hb;unfold Region.wanted;cases hg:r.o.guard with
   |none=>rw [hg] at hb;subst hb;simp
   |some gb=>
    obtain ⟨g,b'⟩:=gb;rw [hg] at hb;simp only at hb⊢;subst hb;cases yielded ops a.tmps g with
    |none=>simp
    |some c=>cases c<;>cases b'<;>simp
  have hwant:r.dead=false->Region.wanted r.o (yielded ops a.tmps)= !r.skip:=by
   intro hnd;have hg:=hrk.guard hnd;cases hgd:r.o.guard with
   |none=>
    rw [hgd] at hg;simp only at hg;rw [hg];exact (z (some true) (by rw [hgd])).2 rfl
   |some gb=>
    obtain ⟨g,b⟩:=gb;rw [hgd] at hg;simp only at hg;obtain ⟨rg,hm1,hm2,⟨d,G⟩,hm3,hm4⟩:=hg;obtain ⟨k,hki,W⟩:=zl9 hm1;have hkg:k=g:=by rw [<-h.idx W,hm2]
    subst hkg;have y:=(h k rg W).op;rw [h.idx W] at y;have hdn:=Y.dst k d (Y3.1 y).1 (by rw [zk4 y];exact G);have hsl:=h.slotD Y D hlen hpre hcl hDi (t:=d) (X4.2 (.inr (by unfold zq8;rw [hgd];simp [zk4 y,G])));rw [yi2 hm1 G fun q s hd'=>h.uniq Y (J8 s) (J8 hm1) hd' G] at hsl;have hsl:fF (A l) rs (F.get T) d=some rg.a:=hsl;obtain ⟨v,hv,X⟩:=L.fr d rg.a (zf6.2 ⟨hdn,hsl⟩);have hv:=(zl5.1 hv).2;have hyv:yielded ops a.tmps k=gl7 v:=by
     unfold yielded;rw [y];simp only [T9,G];rw [Y7,Z6 (by rw [V];exact hdn)] at hv;rw [Z6 (by rw [V];exact hdn)];simp only [V3] at hv;rw [hv];cases v<;>rfl
    cases hs:r.skip with
    |false=>
     have:=hm3 hs;rw [this] at X;have:=zg0 X;subst this;exact (z (some true) (by rw [hgd];simp only [hyv];cases b<;>rfl)).2 rfl
    |true=>
     rcases hm4 hs with h5|⟨u,h5⟩
     ·rw [h5] at X;have:=zg0 X;subst this;have:=z (some false) (by rw [hgd];simp only [hyv];cases b<;>rfl);cases hwd:Region.wanted r.o (yielded ops a.tmps) with
      |false=>rfl
      |true=>exact absurd (this.1 hwd) (by simp)
     ·rw [h5,VR] at X;subst X;have:=z none (by rw [hgd];simp only [hyv];rfl);cases hwd:Region.wanted r.o (yielded ops a.tmps) with
      |false=>rfl
      |true=>exact absurd (this.1 hwd) (by simp)
  have hlets:(match r.o.guard with|none=>True|some (g,b)=> ∃rg∈rs.take i,rg.d.j=g/\(∃d,rg.o.dst=some d)/\rg.a=cB T b)->Region.wanted r.o (yielded ops a.tmps)=true:=by
   intro hg;cases hgd:r.o.guard with
   |none=>exact (z (some true) (by rw [hgd])).2 rfl
   |some gb=>
    obtain ⟨g,b⟩:=gb;rw [hgd] at hg;simp only at hg;obtain ⟨rg,hm1,hm2,⟨d,G⟩,hm3⟩:=hg;obtain ⟨k,hki,W⟩:=zl9 hm1;have hkg:k=g:=by rw [<-h.idx W,hm2]
    subst hkg;have y:=(h k rg W).op;rw [h.idx W] at y;have hdn:=Y.dst k d (Y3.1 y).1 (by rw [zk4 y];exact G);have hsl:=h.slotD Y D hlen hpre hcl hDi (t:=d) (X4.2 (.inr (by unfold zq8;rw [hgd];simp [zk4 y,G])));rw [yi2 hm1 G fun q s hd'=>h.uniq Y (J8 s) (J8 hm1) hd' G] at hsl;have hsl:fF (A l) rs (F.get T) d=some rg.a:=hsl;obtain ⟨v,hv,X⟩:=L.fr d rg.a (zf6.2 ⟨hdn,hsl⟩);have hv:=(zl5.1 hv).2;have hyv:yielded ops a.tmps k=gl7 v:=by
     unfold yielded;rw [y];simp only [T9,G];rw [Y7,Z6 (by rw [V];exact hdn)] at hv;rw [Z6 (by rw [V];exact hdn)];simp only [V3] at hv;rw [hv];cases v<;>rfl
    rw [hm3] at X;have:=zg0 X;subst this;exact (z (some true) (by rw [hgd];simp only [hyv];cases b<;>rfl)).2 rfl
  unfold wpOp;rw [hop];cases hdd:r.dead with
  |true=>
   obtain ⟨k,hbk,hik⟩:=hbad1 i r D hdd;rcases hik with rfl|hik
   ·obtain ⟨q,a0,O,_,g1,g2,g3⟩:=hbad2 i hbk;have:q=r:=by rw [D] at g1;exact (X5 g1).symm
    subst this;obtain ⟨r0,tch,_,_,_,_,p1,_,p3,_⟩:=g2.out;have:r0=q:=by rw [D] at p1;exact (X5 p1).symm
    subst this;simp only [hlets p3,if_true];left;exact uo3 Y hE h hlen rfl hF0 hH0 hpin M.mono hcl D g2 hDi hpre V hdf L (HP a0 _ g3)
   ·have:=hnb k hbk;rw [hpre k hik] at this;cases this
  |false=>
  have hnbi: ¬bad i:=fun hb=>by
   obtain ⟨q,a0,O,_,g1,g2,g3⟩:=hbad2 i hb;obtain ⟨r0,tch,_,_,_,_,p1,p2,_⟩:=g2.out;have:r0=r:=by rw [D] at p1;exact (X5 p1).symm
   subst this;rw [hdd] at p2;cases p2
  simp only [hwant hdd];cases hs:r.skip with
  |true=>
   simp only [M8];rw [if_neg (by simp)];obtain ⟨h1,h2,_⟩:=je8 (v:=undef) V hrk.dst;refine keepI hnbi _ _ h1 (by rw [h2,hdf]) ⟨S,φ,qs9 Y h (N:=Hc.length) D V ?_ fun _=>?_⟩
   ·have e1: ∀e,hF (zi4 (A l) i) rs (base H) e=hF (A l) rs (base H) e:=fun e=>by
     rw [h.put hcl D hDi];have:upR r e=none:=by unfold upR;rw [hs]
     rw [jm9 (hrk.skip hs).2,this];rfl
    have e2:hF (zi4 (A l) i) rs (base H)=hF (A l) rs (base H):=funext e1;rw [e2];exact L
   ·rw [(hrk.skip hs).1];exact ⟨rfl,fun i Z=>(by cases Z),trivial⟩
  |false=>
   simp only [Bool.not_false,if_true];left;cases hl:r.loc with
   |none=>exact Oper.wp_mono (fun a' w' hX=>keepI hnbi a' w' hX.1 hX.2.1 hX.2.2) (uf3 (Q:=Q) Y hE h hlen rfl hF0 hH0 hpin M.mono hcl D hDi hpre hs hl V hdf L)
   |some p=>obtain ⟨k,c,sv⟩:=p;exact Oper.wp_mono (fun a' w' hX=>keepI hnbi a' w' hX.1 hX.2.1 hX.2.2) (uf4 (Q:=Q) Y hE h hlen M.mono hF0 hcl D hl hDi hpre V hdf L)
 ·
  intro l a w hI hready;obtain ⟨hls,hcl1,V,hdf,hnb,S,φ,L⟩:=hI;have hall: ∀i,i<ops.size->A l i=true:=by
   intro i;induction i using Nat.strongRecOn with
   |_ i ih=>
    intro Z;cases hD:A l i with
    |true=>rfl
    |false=>
     have:i∈Region.ready .any ops l:=readyI l i Z (by
      have hD:l.getD i false=false:=hD;rw [Y7] at hD⊢;rw [Z6 (by omega)] at hD⊢;simpa using hD) fun j hj=>by
       have:=Tp.lt Y.back (.one hj) Z;exact ih j this (by omega)
     rw [hready] at this;cases this
  have hmem: ∀q∈rs,A l q.d.j=true:=fun q s=>by
   obtain ⟨k,hk'⟩:=Y9.1 s;rw [h.idx hk'];exact hall k (by have:=(X2.1 hk').1;omega)
  have e1:hF (A l) rs (base H)=hF zi5 rs (base H):=funext fun e=>zy9 rfl fun q s _=>hmem q s;have hHc:mkH Hc.length (hF (A l) rs (base H))=Hc:=by
   apply R7;intro e;by_cases he:e<Hc.length
   ·rw [zf7.2 ⟨he,rfl⟩,e1,M.hc e he]
   ·rw [Y5 (by rw [zp2];omega),Y5 (by omega)]
  have m:Sim T w0 S0 ⟨mkF (fF (A l) rs (F.get T)) n,Hc⟩ (zv2 a n) w S φ:=by
   have:=L;unfold StD at this;rw [hHc] at this;exact this
  have hfin:Sim T w0 S0 ⟨FF,Hc⟩ (zv2 a n) w S φ:=by
   have hget: ∀t x,FF.get T t=some x->(mkF (fF (A l) rs (F.get T)) n).get T t=some x:=by
    intro t x J;rw [M.ff] at J;have e2:fF (A l) rs (F.get T) t=fF zi5 rs (F.get T) t:=by
     by_cases hw: ∃q∈rs,q.o.dst=some t
     ·obtain ⟨q,s,G⟩:=hw;rw [yi2 s G fun q' hq' hd'=>h.uniq Y hq' s hd' G,yi2 s G fun q' hq' hd'=>h.uniq Y hq' s hd' G,hmem q s];rfl
     ·rw [zk3 fun q s G=>hw ⟨q,s,G⟩,zk3 fun q s G=>hw ⟨q,s,G⟩]
    refine zf6.2 ⟨?_,by rw [e2];exact J⟩;by_cases hw: ∃q∈rs,q.o.dst=some t
    ·obtain ⟨q,s,G⟩:=hw;obtain ⟨i,hqi⟩:=Y9.1 s;have hopi:=(h i q hqi).op;exact Y.dst q.d.j t (Y3.1 hopi).1 (by rw [zk4 hopi];exact G)
    ·rw [zk3 fun q s G=>hw ⟨q,s,G⟩] at J;exact (hF0 t x J).1
   exact ⟨fun t x J=>m.fr t x (hget t x J),fun t x J=>m.ids t x (hget t x J),m.chg,m.own,m.ex,m.lives,m.pins,m.ents,m.eids,m.apart⟩
  rcases hbad3 with ⟨k,hk3⟩|hK
  ·exfalso;obtain ⟨q,_,_,_,g1,_⟩:=hbad2 k hk3;have h1:=hall k (by have:=(X2.1 g1).1;omega);rw [hnb k hk3] at h1;cases h1
  ·exact HK _ hK _ _ ⟨S,φ,hfin⟩ a (yj9 V hdf)
 ·
  exfalso;have Z:(Array.replicate ops.size false).getD i false=true:=Z;rw [Y7,Array.getElem?_replicate] at Z;split at Z<;>cases Z
 ·show (Array.replicate ops.size false).getD k false=false;rw [Y7,Array.getElem?_replicate];split<;>rfl
 ·have hdr:Chg [] w {w with drawn:=w.drawn+1}:=⟨rfl,rfl,rfl,W6 _,fun k _ _=>rfl⟩;have h1:=hs.pure hdr;have hnoD: ∀k,A (Array.replicate ops.size false) k=false:=fun k=>by
   show (Array.replicate ops.size false).getD k false=false;rw [Y7,Array.getElem?_replicate];split<;>rfl
  have e1: ∀e,hF (A (Array.replicate ops.size false)) rs (base H) e=base H e:=fun e=>zr3 fun q _ s=>by rw [hnoD] at s;cases s
  have h2:=h1.pad (H':=mkH Hc.length (hF (A (Array.replicate ops.size false)) rs (base H))) (by rw [zp2];exact M.le) fun e f hf=>by
   obtain ⟨_,rfl⟩:=zf7.1 hf;rw [e1];unfold base;cases hg:H[e]? with
   |none=>exact .inl rfl
   |some x=>exact .inr rfl
  have hget: ∀t x,(mkF (fF (A (Array.replicate ops.size false)) rs (F.get T)) n).get T t=some x->F.get T t=some x:=by
   intro t x J;obtain ⟨_,J⟩:=zf6.1 J;by_cases hw: ∃q∈rs,q.o.dst=some t
   ·obtain ⟨q,s,G⟩:=hw;rw [yi2 s G fun q' hq' hd'=>h.uniq Y hq' s hd' G,hnoD] at J;exact J
   ·rw [zk3 fun q s G=>hw ⟨q,s,G⟩] at J;exact J
  refine ⟨fun t x J=>?_,fun t x J=>h2.ids t x (hget t x J),h2.chg,h2.own,h2.ex,h2.lives,h2.pins,h2.ents,h2.eids,h2.apart⟩;obtain ⟨v,hv,X⟩:=h2.fr t x (hget t x J);have:=ha.val t v hv;exact ⟨v,zl5.2 ⟨this.2,this.1⟩,X⟩
def qy6 {F:AF T} {H:List (Ent T.U)} {c:PF} {R:Type} {r:R} {b:Nat} (e:zb2 T P C.E) (f:P.follows .mixedOrders=true) {pm:Bool} {d:AV T.U->St T->Option R} {K:St T->Option R} (g: ∀st,K st=some r->vv9 Q n ds w0 S0 st) (h: ∀a st,d a st=some r->yp7 Q n ds w0 S0 a st) (i:gy6 T P C ops n pm d K ⟨F,H⟩=some r) (j:Sim T w0 S0 ⟨F,H⟩ c w S φ):
  CW P (.region b ops true) Q n ds c w:=
 fun a k=>wp_region_any f (kl3 e g h i j a k)
end
end Go.X
