import Derived.Test.YtliopfopmhhdeaaGreatA6
set_option linter.defProp false
namespace Go.X
open Go.RowKit Go.V
structure DR where
 j:Nat
 nb:Nat
 ne:Nat
 tch:List Nat
 wr:List Nat
 loc:Option (Nat×Nat×Bool)
 kp:Nat->Nat->Bool
def nk:Nat->Nat->Bool:=fun _ _=>false
def DR.isSt (r:DR):Bool:=match r.loc with|some (_,_,true)=>true|_=>false
def DR.wrE (r:DR) (e:Nat):Bool:=zr8 e r.wr||(Nat.ble r.nb e&&Nat.blt e r.ne)
section
variable (T:Tab) (P:Program) (C:Ctx T) {R:Type}
def qe7 (F:AF T) (x:Operand):List Nat:=match aev T F x with|some a=>a.ids|none=> []
def kk9 (F:AF T) (l:List Operand):List Nat:=match zn8 T F l with|some aS=>j8 aS|none=> []
def kl2 (H:List (Ent T.U)) (i:Nat):Bool:=match H[i]? with|some (.drow _ _ _ _ _)=>true|_=>false
def epX (F:AF T) (H:List (Ent T.U)) (x:Operand):List Nat:=match aev T F x with|some (.eptr i _ _ _)=>(match kl2 T H i with|true=> []|false=> [i])|_=> []
def kk4 (l:List Nat) (nb:Nat) (HB:List (Ent T.U)):AV T.U->Bool| .eptr i _ _ _=>zr8 i l||(Nat.ble nb i||kl2 T HB i)|_=>true
def vz3 (o:Oper) (F:AF T) (H:List (Ent T.U)):List Nat:=
 match o.op with
 | .move x=>epX T F H x
 | .assign x=>epX T F H x
 | .fieldAddr _ x _=>epX T F H x
 | .load _ x=>qe7 T F x
 | .store _ x _=>qe7 T F x
 | .indexAddr _ x _=>qe7 T F x
 | .slice _ x _ _ _=>qe7 T F x
 | .sliceToArrayPointer _ x=>qe7 T F x
 | .nilCheck x=>epX T F H x
 | .lookup _ m _ _=>qe7 T F m
 | .insert _ m _ v=>qu0 [] (qe7 T F m)
 | .mapUpdate _ m _ v=>qu0 [] (qe7 T F m)
 | .convert _ _ x=>qe7 T F x
 | .call c=>match c.callee with
  | .value f=>jy3 T H (H.length+1) (qu0 [] (qe7 T F f++kk9 T F c.args.toList))
  |_=>qu0 [] (kk9 T F c.args.toList)
 |_=> []
def qf2 (H:List (Ent T.U)) (l:List Nat):List Nat:=l.filter fun i=>match H[i]? with|some e=>e.live|none=>false
def zk3 (l:List Nat):List (Ent T.U)->Nat->List (Ent T.U)
 | [],_=> []
 |e::r,i=>(match zr8 i l with|true=>e|false=>.gone)::zk3 l r (i+1)
def yc1 (l:List Nat):List (Ent T.U)->List (Ent T.U)->Nat->List (Ent T.U)
 | [],s,_=>s
 |_::_,[],_=> []
 |e::r,f::s,i=>(match zr8 i l with|true=>f|false=>e)::yc1 l r s (i+1)
def qe6 (B nb ne:Nat) (clo:List Nat) (recs:List DR) (i:Nat):Bool:=Nat.blt i B||((Nat.ble nb i&&Nat.blt i ne)||recs.any fun r=>Nat.ble r.nb i&&(Nat.blt i r.ne&&zr8 r.j clo))
def yp6 (F:AF T) (dst:Option Tmp):AV T.U:=match dst with|some d=>(match F.get T d with|some a=>a|none=>.raw undef)|none=>.raw undef
def kl1 (x y:Int):Bool:=decide (x=y)
def ko2:AV T.U->AV T.U->Bool
 | .cell ⟨.int k,x⟩,.cell ⟨.int k',y⟩=>zc4 k k'&&kl1 x y
 |_,_=>false
def ke8 (H H1:List (Ent T.U)) (k c:Nat):Bool:=match H[k]?,H1[k]? with
 |some (.blk t cs),some (.blk t' cs')=>Nat.beq t' t&&(Nat.beq cs'.length cs.length&&(cs.all (za2 T)&&(cs'.all (za2 T)&&(match cs[c]?,cs'[c]? with|some a,some b=>ko2 T a b|_,_=>false))))
 |_,_=>false
def kw5 (r:DR) (tch wr:List Nat) (lc:Option (Nat×Nat×Bool)):Bool:=
 (match r.loc with|none=>true|some (k,_,st)=>(!st|| !zr8 k tch)&& !zr8 k wr)&&
 (match lc with|none=>true|some (k,c,st)=>(!r.wrE k||(!st&&r.kp k c))&&((!st|| !zr8 k r.tch)&&(match r.loc with|none=>true|some (k',c',st')=> !(Nat.beq k' k)||(!(st||st')|| !(Nat.beq c' c)))))
def qu6 (clo:List Nat) (recs:List DR) (tch wr:List Nat) (lc:Option (Nat×Nat×Bool)):Bool:=recs.all fun r=>zr8 r.j clo||((tch.all (fun e=> !r.wrE e)&&wr.all fun e=> !zr8 e r.tch)&&kw5 r tch wr lc)
def kl5 (r:DR) (tch wr:List Nat) (lc:Option (Nat×Nat×Bool)):Bool:=
 (match r.loc with|none=>true|some (k,_,st)=>(!st|| !zr8 k tch)&& !zr8 k wr)&&
 (match lc with|none=>true|some (k,c,st)=>(!r.wrE k|| !st)&&((!st|| !zr8 k r.tch)&&(match r.loc with|none=>true|some (k',c',st')=> !(Nat.beq k' k)||(!(st||st')|| !(Nat.beq c' c)))))
def kw0 (clo:List Nat) (recs:List DR) (tch wr:List Nat) (lc:Option (Nat×Nat×Bool)):Bool:=recs.all fun r=>zr8 r.j clo||((tch.all (fun e=> !r.wrE e)&&wr.all fun e=> !zr8 e r.tch)&&kl5 r tch wr lc)
def kpD (clo:List Nat) (recs:List DR) (lc:Option (Nat×Nat×Bool)):Bool:=recs.all fun r=>zr8 r.j clo||(match lc with|some (k,c,false)=> !r.wrE k||r.kp k c|_=>true)
def jm9 (n:Nat) (l:List Nat):Bool:=l.all fun i=>Nat.blt i n
def qg4 (l:List Nat):AF T->AF T
 | []=> []
 |(t,a)::r=>match zr8 t l with|true=>qg4 l r|false=>(t,a)::qg4 l r
def kx7 {R:Type} (pz:Option (Nat×Option R)) (clo:List Nat):Bool:=match pz with|some (j,_)=>zr8 j clo|none=>false
def jz1 {R:Type} (pz:Option (Nat×Option R)) (wr:List Nat):Bool:=match pz with|some _=>wr.isEmpty|none=>true
def kq0 {R:Type} (pm:Bool) (pz:Option (Nat×Option R)):Bool:=match pz with|some _=>false|none=>pm
def ym1 (B:Nat) (tch:List Nat) (Hc Hp:List (Ent T.U)):List (Ent T.U):=(yc1 T tch Hc Hp 0).take B
def km3 (B:Nat) (clo:List Nat) (recs:List DR) (tch wr:List Nat) (a:AV T.U) (core:List (Ent T.U)):Bool:=
 qu6 clo recs tch wr none&&(a.ids.isEmpty&&((recs.all fun r=>zr8 r.j clo||(r.wr.isEmpty&& !r.isSt))&&core.all fun e=>jm9 B e.cellIds))
def qr7 (ops:Array Oper) (n B:Nat) (HB:List (Ent T.U)) (Fp:AF T) (pm:Bool) (Kp:AV T.U->St T->Option R) (o:Oper) (j:Nat) (pz:Option (Nat×Option R)) (FF:AF T) (Hc:List (Ent T.U)) (recs:List DR) (G:Option (Nat×Option R)->AF T->List (Ent T.U)->List DR->Option R):Option R:=
 let F:=zn6 T FF (zm7 o)
 let tch:=qf2 T Hc (vz3 T o F Hc++zz0 C o F Hc)
 let Hm:=zk3 T tch Hc 0
 let clo:=(yn8 ops ops.size).getD j []
 match zh5 n o.dst&&(za6 o&&(zs3 F o&&(jm9 Hc.length (jk8 T F)&&Hm.all fun e=>jm9 Hc.length e.cellIds))) with
 |true=>match kl6 P o F Hm with
  |some (k,c,sv)=>zg1 P C o ⟨F,Hm⟩ (fun st'=>
   match jz1 pz (match sv with|some _=> [k]|none=> [])&&(kw0 clo recs [] [] (some (k,c,sv.isSome))&&((yp6 T st'.F o.dst).ids.all (qe6 B Hc.length Hc.length clo recs)&&(match sv with|some v=>v.ids|none=> []).all (qe6 B Hc.length Hc.length clo recs))) with
   |true=>z7 (kpD clo recs (some (k,c,sv.isSome))) (G pz (za1 T FF o.dst (yp6 T st'.F o.dst)) (qg7 k c sv (Hc.getD k .gone) Hc) (recs++ [⟨j,Hc.length,Hc.length,[],[],some (k,c,sv.isSome),nk⟩])) none
   |false=>none) (fun _ _=>none)
  |none=>zg1 P C o ⟨F,Hm⟩ (fun st'=>
   match jz1 pz (wrF C o ⟨F,Hm⟩)&&(qu6 clo recs tch (wrF C o ⟨F,Hm⟩) none&&(((yp6 T st'.F o.dst).ids.all (qe6 B Hc.length st'.H.length clo recs)&&kk4 T tch Hc.length HB (yp6 T st'.F o.dst))&&st'.H.all fun e=>e.cellIds.all (qe6 B Hc.length st'.H.length clo recs))) with
   |true=>G pz (za1 T FF o.dst (yp6 T st'.F o.dst)) (yc1 T tch Hc st'.H 0) (recs++ [⟨j,Hc.length,st'.H.length,tch,wrF C o ⟨F,Hm⟩,none,ke8 T Hm st'.H⟩])
   |false=>none) (fun a st'=>match kq0 pm pz&&km3 T B clo recs tch (wrF C o ⟨F,Hm⟩) a (ym1 T B tch Hc st'.H) with
   |true=>G (some (j,Kp a ⟨Fp,ym1 T B tch Hc st'.H⟩)) (za1 T FF o.dst (.raw undef)) (Hc++List.replicate (st'.H.length-Hc.length) .gone) (recs++ [⟨j,Hc.length,st'.H.length,[],[],none,nk⟩])
   |false=>none)
 |false=>none
def jf3 (n:Nat) (o:Oper) (j:Nat) (pz:Option (Nat×Option R)) (FF:AF T) (Hc:List (Ent T.U)) (recs:List DR) (G:Option (Nat×Option R)->AF T->List (Ent T.U)->List DR->Option R):Option R:=
 match zh5 n o.dst with
 |true=>G pz (za1 T FF o.dst (.raw undef)) Hc (recs++ [⟨j,Hc.length,Hc.length,[],[],none,nk⟩])
 |false=>none
def vz0 (ops:Array Oper) (n B:Nat) (HB:List (Ent T.U)) (Fp:AF T) (pm:Bool) (Kp:AV T.U->St T->Option R) (K:St T->Option R):List Oper->Nat->Option (Nat×Option R)->AF T->List (Ent T.U)->List DR->Option R
 | [],_,pz,FF,Hc,_=>match pz with|none=>K ⟨FF,Hc⟩|some (_,kf)=>kf
 |o::r,j,pz,FF,Hc,recs=>
  let G:=fun pz FF Hc recs=>vz0 ops n B HB Fp pm Kp K r (j+1) pz FF Hc recs
  match kx7 pz ((yn8 ops ops.size).getD j []) with
  |true=>jf3 T n o j pz FF Hc recs G
  |false=>match o.guard with
   |none=>qr7 T P C ops n B HB Fp pm Kp o j pz FF Hc recs G
   |some (g,b)=>match vk2 ops g with
    |none=>none
    |some d=>match FF.get T d with
     |some (.cell ⟨.bool,c⟩)=>z7 c (match b with|true=>qr7 T P C ops n B HB Fp pm Kp o j pz ((d,cB T true)::FF) Hc recs G|false=>jf3 T n o j pz ((d,cB T true)::FF) Hc recs G) (match b with|true=>jf3 T n o j pz ((d,cB T false)::FF) Hc recs G|false=>qr7 T P C ops n B HB Fp pm Kp o j pz ((d,cB T false)::FF) Hc recs G)
     |some (.raw (.tuple _))=>jf3 T n o j pz FF Hc recs G
     |_=>none
def qs5 (ops:Array Oper) (m:Nat):Bool:=(List.range m).all fun i=>match ops[i]? with
 |some o=>za6 o&&((zm7 o++zp2 ops o).all fun t=>(zf2 ops i).any (fun j=>Nat.blt j m&&ze0 ops j==some t)||(List.range m).all fun j=>ze0 ops j != some t||((yn8 ops ops.size).getD j []).contains i)
 |none=>true
def okD (ops:Array Oper) (n:Nat):Bool:=qs5 ops ops.size&&(Go.V.ze6 (ym5 ops ops.size)&&(zk9 ops&&(zh0 ops ops.size&&(ym5 ops ops.size).all fun d=>Nat.blt d n)))
def ko0 (ops:Array Oper) (n:Nat) (pm:Bool) (Kp:AV T.U->St T->Option R) (K:St T->Option R) (st:St T):Option R:=
 match okD ops n with
 |true=>vz0 T P C ops n st.H.length st.H (qg4 T (ym5 ops ops.size) st.F) pm Kp K ops.toList 0 none st.F st.H []
 |false=>none
end
end Go.X
namespace Go.X
open Go.RowKit Go.V
structure Rec (T:Tab) where
 o:Oper
 d:DR
 skip:Bool
 F:AF T
 Hm:List (Ent T.U)
 a:AV T.U
 H1:List (Ent T.U)
 dead:Bool
 loc:Option (Nat×Nat×Option (AV T.U))
section
variable {T:Tab}
def upR (r:Rec T) (e:Nat):Option (Ent T.U):=
 match r.skip with
 |true=>none
 |false=>match r.loc with
  |some _=>none
  |none=>if e<r.d.nb then (if e∈r.d.tch/\e∈r.d.wr then r.H1[e]? else none) else r.H1[e]?
def upG (r:Rec T) (e:Nat) (x:Ent T.U):Ent T.U:=match r.loc with|some (k,c,some v)=>(if e=k then yn1 c v x else x)|_=>(upR r e).getD x
def yt8 (r:Rec T) (e:Nat):Prop:=upR r e≠none\/ ∃c v,r.loc=some (e,c,some v)
def jj7 {r:Rec T} (h:r.loc=none) (e:Nat) (x:Ent T.U):upG r e x=(upR r e).getD x:=by unfold upG;rw [h]
def yn4 {r:Rec T} {e:Nat} (h: ¬yt8 r e) (x:Ent T.U):upG r e x=x:=by
 have h1:upR r e=none:=Classical.byContradiction fun hn=>h (.inl hn);unfold upG;split
 ·rename_i k c v hl;split
  ·rename_i he;subst he;exact absurd (.inr ⟨c,v,hl⟩) h
  ·rfl
 ·rw [h1];rfl
def hF (D:Nat->Bool):List (Rec T)->(Nat->Ent T.U)->Nat->Ent T.U
 | [],f=>f
 |r::rs,f=>hF D rs (match D r.d.j with|true=>fun e=>upG r e (f e)|false=>f)
def fF (D:Nat->Bool):List (Rec T)->(Nat->Option (AV T.U))->Nat->Option (AV T.U)
 | [],f=>f
 |r::rs,f=>fF D rs (match r.o.dst with|some d=>(fun t=>if t=d then (match D r.d.j with|true=>some r.a|false=>f t) else f t)|none=>f)
def base (H0:List (Ent T.U)) (e:Nat):Ent T.U:=(H0[e]?).getD .gone
def zh8:Nat->Bool:=fun _=>true
def zz1 (D:Nat->Bool): ∀(ps qs:List (Rec T)) (f:Nat->Ent T.U),hF D (ps++qs) f=hF D qs (hF D ps f)
 | [],_,_=>rfl
 |r::ps,qs,f=>zz1 D ps qs _
def jk5 (D:Nat->Bool): ∀(ps qs:List (Rec T)) (f:Nat->Option (AV T.U)),fF D (ps++qs) f=fF D qs (fF D ps f)
 | [],_,_=>rfl
 |r::ps,qs,f=>jk5 D ps qs _
def zp9 {D:Nat->Bool} {e:Nat}: ∀ {rs:List (Rec T)} {f:Nat->Ent T.U},(∀r∈rs,D r.d.j=true-> ¬yt8 r e)->hF D rs f e=f e
 | [],f,_=>rfl
 |r::rs,f,h=>by
  unfold hF;rw [zp9 (rs:=rs) fun r' hr'=>h r' (Z4 _ hr')];cases hD:D r.d.j with
  |false=>rfl
  |true=>exact yn4 (h r (U2 ..) hD) _
def zx8 {D D':Nat->Bool} {e:Nat}: ∀ {rs:List (Rec T)} {f g:Nat->Ent T.U},f e=g e->(∀r∈rs,yt8 r e->D r.d.j=D' r.d.j)->hF D rs f e=hF D' rs g e
 | [],f,g,hf,_=>hf
 |r::rs,f,g,hf,h=>by
  unfold hF;refine zx8 (rs:=rs) ?_ fun r' hr'=>h r' (Z4 _ hr');by_cases hu:yt8 r e
  ·rw [h r (U2 ..) hu];cases D' r.d.j
   ·exact hf
   ·show upG r e (f e)=upG r e (g e);rw [hf]
  ·cases D r.d.j<;>cases D' r.d.j<;>simp only [yn4 hu]<;>exact hf
def qs9 {D D':Nat->Bool} {e c:Nat}: ∀ {rs:List (Rec T)} {f g:Nat->Ent T.U},simE c (f e) (g e)->(∀r∈rs,yt8 r e->D r.d.j=D' r.d.j\/ ∃c' v,r.loc=some (e,c',some v)/\c'≠c)->simE c (hF D rs f e) (hF D' rs g e)
 | [],f,g,hf,_=>hf
 |r::rs,f,g,hf,h=>by
  unfold hF;refine qs9 (rs:=rs) ?_ fun r' hr'=>h r' (Z4 _ hr');by_cases hu:yt8 r e
  ·have same:simE c (upG r e (f e)) (upG r e (g e)):=by
    unfold upG;split
    ·split
     ·exact hf.both _ _
     ·exact hf
    ·cases hx:upR r e with
     |some x=>exact .inl rfl
     |none=>exact hf
   rcases h r (U2 ..) hu with h1|⟨c',v,h2,h3⟩
   ·rw [h1];cases D' r.d.j with
    |false=>exact hf
    |true=>exact same
   ·have up: ∀x,upG r e x=yn1 c' v x:=fun x=>by unfold upG;rw [h2];simp only [if_true]
    cases D r.d.j<;>cases D' r.d.j
    ·exact hf
    ·show simE c (f e) (upG r e (g e));rw [up];exact (hf.symm.left h3 v).symm
    ·show simE c (upG r e (f e)) (g e);rw [up];exact hf.left h3 v
    ·exact same
  ·cases D r.d.j<;>cases D' r.d.j<;>simp only [yn4 hu]<;>exact hf
def qx4 {D D':Nat->Bool} {e c:Nat}: ∀ {rs:List (Rec T)} {f g:Nat->Ent T.U},simE c (f e) (g e)->(∀i r,rs[i]?=some r->yt8 r e->(D r.d.j=D' r.d.j\/ ∃c' v,r.loc=some (e,c',some v)/\c'≠c)\/(r.loc=none/\D' r.d.j=true/\ ∃y,upR r e=some y/\simE c y (hF D' (rs.take i) g e)))->simE c (hF D rs f e) (hF D' rs g e)
 | [],f,g,hf,_=>hf
 |r::rs,f,g,hf,h=>by
  unfold hF;refine qx4 (rs:=rs) ?_ fun i r' hr' hu=>(h (i+1) r' (by simpa using hr') hu).imp id fun ⟨h1,h2,y,h3,h4⟩=>⟨h1,h2,y,h3,h4⟩;by_cases hu:yt8 r e
  ·rcases h 0 r rfl hu with h0|⟨h1,h2,y,h3,h4⟩
   ·have:= @qs9 _ D D' e c [r] _ _ hf fun r' hr' hu'=>by simp at hr';subst hr';exact h0
    exact this
   ·have h4:simE c y (g e):=h4;have up: ∀x,upG r e x=y:=fun x=>by rw [jj7 h1,h3];rfl
    rw [h2];cases D r.d.j
    ·show simE c (f e) (upG r e (g e));rw [up];exact hf.trans h4.symm
    ·show simE c (upG r e (f e)) (upG r e (g e));rw [up,up];exact .inl rfl
  ·cases D r.d.j<;>cases D' r.d.j<;>simp only [yn4 hu]<;>exact hf
def qx3 {D:Nat->Bool} {e c:Nat} {v:AV T.U}: ∀ {rs:List (Rec T)} {f g:Nat->Ent T.U},f e=yn1 c v (g e)->(∀r∈rs,D r.d.j=true->yt8 r e-> ∃c' v',r.loc=some (e,c',some v')/\c≠c')->hF D rs f e=yn1 c v (hF D rs g e)
 | [],f,g,hf,_=>hf
 |r::rs,f,g,hf,h=>by
  unfold hF;refine qx3 (rs:=rs) ?_ fun r' hr'=>h r' (Z4 _ hr');cases hD:D r.d.j with
  |false=>exact hf
  |true=>
   show upG r e (f e)=yn1 c v (upG r e (g e));by_cases hu:yt8 r e
   ·obtain ⟨c',v',h2,h3⟩:=h r (U2 ..) hD hu;unfold upG;rw [h2];simp only [if_true];rw [hf,vi0 h3]
   ·rw [yn4 hu,yn4 hu];exact hf
def zj3 {D:Nat->Bool} {t:Nat}: ∀ {rs:List (Rec T)} {f:Nat->Option (AV T.U)},(∀r∈rs,r.o.dst≠some t)->fF D rs f t=f t
 | [],f,_=>rfl
 |r::rs,f,h=>by
  unfold fF;rw [zj3 (rs:=rs) fun r' hr'=>h r' (Z4 _ hr')];have:=h r (U2 ..);cases hd:r.o.dst with
  |none=>rfl
  |some d=>exact if_neg (fun e=>this (by rw [hd,e]))
def yg4 {D:Nat->Bool} {t:Nat}: ∀ {rs:List (Rec T)} {f:Nat->Option (AV T.U)} {r:Rec T},r∈rs->r.o.dst=some t->(∀r'∈rs,r'.o.dst=some t->r'=r)->fF D rs f t=(match D r.d.j with|true=>some r.a|false=>f t)
 | [],f,r,h,_,_=>by cases h
 |q::rs,f,r,h,hd,hu=>by
  unfold fF;by_cases hin:r∈rs
  ·rw [yg4 hin hd fun r' hr'=>hu r' (Z4 _ hr')];cases hD:D r.d.j with
   |true=>rfl
   |false=>
    by_cases hqt:q.o.dst=some t
    ·have e:=hu q (U2 ..) hqt;subst e;simp only [hqt,if_true,hD]
    ·cases hq:q.o.dst with
     |none=>rfl
     |some d=>exact if_neg (fun e=>hqt (by rw [hq,e]))
  ·have hq:q=r:=by
    rcases Z0.1 h with h|h
    ·exact h.symm
    ·exact absurd h hin
   subst hq;rw [zj3 fun r' hr' hd'=>hin (hu r' (Z4 _ hr') hd'▸hr')];simp only [hd,if_true]
def yk3 {l:List Nat}: ∀ {H:List (Ent T.U)} {i e:Nat},(zk3 T l H i)[e]?=(H[e]?).map fun x=>if (i+e)∈l then x else .gone
 | [],i,e=>by simp [zk3]
 |x::r,i,0=>by
  simp only [zk3,Y4,Z8,J8];cases hm:zr8 i l with
  |true=>rw [if_pos (za9.1 hm)]
  |false=>rw [if_neg (fun h=>by rw [za9.2 h] at hm;cases hm)]
 |x::r,i,e+1=>by
  simp only [zk3,List.getElem?_cons_succ];rw [yk3 (H:=r),show i+1+e=i+(e+1) by omega]
def zr3 {l:List Nat}: ∀ {H:List (Ent T.U)} {i:Nat},(zk3 T l H i).length=H.length
 | [],i=>rfl
 |x::r,i=>by simp [zk3,zr3 (H:=r)]
def yo4 {l:List Nat}: ∀ {H H1:List (Ent T.U)} {i e:Nat},H.length<=H1.length->(yc1 T l H H1 i)[e]?=if e<H.length then (if (i+e)∈l then H1[e]? else H[e]?) else H1[e]?
 | [],H1,i,e,_=>by simp [yc1]
 |x::r,[],i,e,h=>by simp at h
 |x::r,y::s,i,0,h=>by
  simp only [yc1,Y4,J8,U5,Nat.zero_lt_succ,if_true];cases hm:zr8 i l with
  |true=>rw [if_pos (za9.1 hm)]
  |false=>rw [if_neg (fun h=>by rw [za9.2 h] at hm;cases hm)]
 |x::r,y::s,i,e+1,h=>by
  simp only [yc1,List.getElem?_cons_succ,U5];rw [yo4 (H:=r) (H1:=s) (by simpa using h),show i+1+e=i+(e+1) by omega];simp only [Nat.add_lt_add_iff_right]
def zw8 {l:List Nat}: ∀ {H H1:List (Ent T.U)} {i:Nat},H.length<=H1.length->(yc1 T l H H1 i).length=H1.length
 | [],H1,i,_=>rfl
 |x::r,[],i,h=>by simp at h
 |x::r,y::s,i,h=>by simp [yc1,zw8 (H:=r) (H1:=s) (by simpa using h)]
def zw5 {F:AF T} {i:Nat} {a:AV T.U}: ∀ {l:List Nat},(zn6 T F l).get T i=some a->i∈l/\F.get T i=some a
 | [],h=>by simp [zn6,AF.get] at h
 |j::r,h=>by
  unfold zn6 at h;split at h
  ·rename_i u hu;simp only [AF.get] at h;split at h
   ·rename_i hb;have:=X1 hb;subst this;rw [hu];exact ⟨U2 ..,h⟩
   ·obtain ⟨h1,h2⟩:=zw5 h;exact ⟨Z4 _ h1,h2⟩
  ·obtain ⟨h1,h2⟩:=zw5 h;exact ⟨Z4 _ h1,h2⟩
end
section
variable {T:Tab} (P:Program) (C:Ctx T) (ops:Array Oper) (n B:Nat) (F0:AF T) (H0:List (Ent T.U))
def kc8 (B:Nat) (ps:List (Rec T)) (ops:Array Oper) (r:Rec T) (i:Nat):Prop:=i<B\/(r.d.nb<=i/\i<r.d.ne)\/ ∃r'∈ps,r'.d.nb<=i/\i<r'.d.ne/\Tp ops r.d.j r'.d.j
structure ChkR (r r':Rec T):Prop where
 tch: ∀e∈r.d.tch,r'.d.wrE e=false
 wr: ∀e∈r.d.wr,e∉r'.d.tch
 l1: ∀k c v,r'.loc=some (k,c,some v)->k∉r.d.tch
 l2: ∀k c s,r'.loc=some (k,c,s)->k∉r.d.wr
 l3: ∀k c s,r.loc=some (k,c,s)->r'.d.wrE k=false\/s=none/\r'.d.kp k c=true
 l4: ∀k c v,r.loc=some (k,c,some v)->k∉r'.d.tch
 l5: ∀k c s c' s',r.loc=some (k,c,s)->r'.loc=some (k,c',s')->s.isSome=true\/s'.isSome=true->c'≠c
structure LocOk (ps:List (Rec T)) (r:Rec T) (k c:Nat) (sv:Option (AV T.U)):Prop where
 skip:r.skip=false
 ns:za6 r.o=true
 pre:zs3 r.F r.o=true
 lt:k<r.d.nb
 ne:r.d.ne=r.d.nb
 tch:r.d.tch= []
 wr:r.d.wr= []
 fr: ∀t a,r.F.get T t=some a->t∈zm7 r.o/\fF zh8 ps (F0.get T) t=some a
 step: ∀(F':AF T) (H':List (Ent T.U)) (f:Ent T.U),(∀t a,r.F.get T t=some a->F'.get T t=some a)->H'[k]?=some f->simE c f (hF zh8 ps (base H0) k)->zg1 P C r.o ⟨F',H'⟩ some (fun _ _=>none)=some ⟨za1 T F' r.o.dst r.a,qg7 k c sv f H'⟩
 chk: ∀r'∈ps,Tp ops r.d.j r'.d.j\/ChkR r r'
 ids: ∀i∈r.a.ids,kc8 B ps ops r i
 vids: ∀v,sv=some v-> ∀i∈v.ids,kc8 B ps ops r i
structure TakeOk (ps:List (Rec T)) (r:Rec T):Prop where
 ns:za6 r.o=true
 pre:zs3 r.F r.o=true
 step: ∃Fz,zg1 P C r.o ⟨r.F,r.Hm⟩ some (fun _ _=>none)=some ⟨za1 T Fz r.o.dst r.a,r.H1⟩
 keeps:Keeps T r.d.wr r.Hm r.H1
 hlen:r.Hm.length=r.d.nb
 hm: ∀e,e<r.d.nb->r.Hm[e]?=some (if e∈r.d.tch then hF zh8 ps (base H0) e else .gone)
 live: ∀e∈r.d.tch,e<r.d.nb/\(hF zh8 ps (base H0) e).live=true
 ne:r.H1.length=r.d.ne
 fr: ∀t a,r.F.get T t=some a->t∈zm7 r.o/\fF zh8 ps (F0.get T) t=some a
 fid: ∀t a,r.F.get T t=some a-> ∀i∈a.ids,i<r.d.nb
 eids: ∀f∈r.Hm,∀i∈f.cellIds,i<r.d.nb
 chk: ∀r'∈ps,Tp ops r.d.j r'.d.j\/ChkR r r'
 ids: ∀i∈r.a.ids,kc8 B ps ops r i
 ep:kk4 T r.d.tch r.d.nb H0 r.a=true
 cids: ∀f∈r.H1,∀i∈f.cellIds,kc8 B ps ops r i
structure RecOk (ps:List (Rec T)) (r:Rec T):Prop where
 idx:r.d.j=ps.length
 op:ops[r.d.j]?=some r.o
 dst:zh5 n r.o.dst=true
 le:B<=r.d.nb/\r.d.nb<=r.d.ne
 mono: ∀r'∈ps,r'.d.ne<=r.d.nb
 skip:r.skip=true->r.a=.raw undef/\r.loc=none
 dskip:r.dead=true->r.skip=true
 take:r.skip=false->r.loc=none->TakeOk P C ops B F0 H0 ps r
 lok: ∀k c sv,r.loc=some (k,c,sv)->LocOk P C ops B F0 H0 ps r k c sv
 dloc:r.d.loc=r.loc.map fun p=>(p.1,p.2.1,p.2.2.isSome)
 kp: ∀k c,r.d.kp k c=true->r.skip=false/\r.loc=none/\ ∃x y,r.Hm[k]?=some x/\r.H1[k]?=some y/\x.live=true/\simE c y x
 guard:r.dead=false->match r.o.guard with
  |none=>r.skip=false
  |some (g,b)=> ∃rg∈ps,rg.d.j=g/\(∃d,rg.o.dst=some d)/\(r.skip=false->rg.a=cB T b)/\(r.skip=true->rg.a=cB T (!b)\/ ∃u,rg.a=.raw (.tuple u))
structure PanI (ps:List (Rec T)) (j0:Nat) (a:AV T.U) (core:List (Ent T.U)):Prop where
 out: ∃(r0:Rec T) (tch:List Nat) (F:AF T) (Hm Hp:List (Ent T.U)) (wr:List Nat),ps[j0]?=some r0/\r0.dead=true/\
  (match r0.o.guard with|none=>True|some (g,b)=> ∃rg∈ps.take j0,rg.d.j=g/\(∃d,rg.o.dst=some d)/\rg.a=cB T b)/\
  za6 r0.o=true/\zs3 F r0.o=true/\zg1 P C r0.o ⟨F,Hm⟩ (fun _=>none) (fun a st=>some (a,st.H))=some (a,Hp)/\Keeps T wr Hm Hp/\
  Hm.length=r0.d.nb/\(∀e,e<r0.d.nb->Hm[e]?=some (if e∈tch then hF zh8 (ps.take j0) (base H0) e else .gone))/\
  (∀e∈tch,e<r0.d.nb/\(hF zh8 (ps.take j0) (base H0) e).live=true)/\Hp.length=r0.d.ne/\
  (∀t a,F.get T t=some a->t∈zm7 r0.o/\fF zh8 (ps.take j0) (F0.get T) t=some a)/\(∀t a,F.get T t=some a-> ∀i∈a.ids,i<r0.d.nb)/\(∀f∈Hm,∀i∈f.cellIds,i<r0.d.nb)/\
  (∀r'∈ps.take j0,Tp ops j0 r'.d.j\/((∀e∈tch,r'.d.wrE e=false)/\ ∀k c v,r'.loc=some (k,c,some v)->k∉tch))/\
  (∀e,e<B->core[e]?=some (if e∈tch then (Hp[e]?).getD .gone else hF zh8 (ps.take j0) (base H0) e))/\core.length=B
 deads: ∀q∈ps,q.dead=true->q.d.j=j0\/Tp ops q.d.j j0
 wrs: ∀q∈ps,q.skip=false->(q.d.wr≠ []\/ ∃k c v,q.loc=some (k,c,some v))->Tp ops j0 q.d.j
 coreIds: ∀f∈core,∀i∈f.cellIds,i<B
 aids:a.ids= []
def PzOk {R:Type} (Fp:AF T) (Kp:AV T.U->St T->Option R) (ps:List (Rec T)):Option (Nat×Option R)->Prop
 |none=> ∀q∈ps,q.dead=false
 |some (j0,kf)=> ∃a core,PanI P C ops B F0 H0 ps j0 a core/\kf=Kp a ⟨Fp,core⟩
def TrOk (rs:List (Rec T)):Prop:= ∀j r,rs[j]?=some r->RecOk P C ops n B F0 H0 (rs.take j) r
structure AccD (ps:List (Rec T)) (FF:AF T) (Hc:List (Ent T.U)) (recs:List DR):Prop where
 tr:TrOk P C ops n B F0 H0 ps
 ff: ∀t,FF.get T t=fF zh8 ps (F0.get T) t
 hc: ∀e,e<Hc.length->Hc[e]?=some (hF zh8 ps (base H0) e)
 le:B<=Hc.length
 mono: ∀r∈ps,r.d.ne<=Hc.length
 recs:recs=ps.map (·.d)
end
section
variable {T:Tab} {P:Program} {C:Ctx T} {ops:Array Oper} {n B:Nat} {F0:AF T} {H0:List (Ent T.U)}
structure OkD (ops:Array Oper) (n:Nat):Prop where
 dep:qs5 ops ops.size=true
 uniq: ∀i j d,i<ops.size->j<ops.size->ze0 ops i=some d->ze0 ops j=some d->i=j
 back:zk9 ops=true
 guards:zh0 ops ops.size=true
 dst: ∀i d,i<ops.size->ze0 ops i=some d->d<n
def vr6 (h:okD ops n=true):OkD ops n:=by
 unfold okD at h;simp only [X3] at h;obtain ⟨h1,h2,h3,h4,h5⟩:=h;refine ⟨h1,ym2 h2,h3,h4,fun i d hi hd=>?_⟩;rw [Y8] at h5;simpa [U8] using h5 d (by unfold ym5;rw [T1];exact ⟨i,U9.2 hi,hd⟩)
def OkD.reads (h:OkD ops n) {i:Nat} {o:Oper} (ho:ops[i]?=some o) {t:Nat} (ht:t∈zm7 o++zp2 ops o):(∃j,(zf2 ops i).contains j=true/\ze0 ops j=some t)\/ ∀j,j<ops.size->ze0 ops j=some t->Tp ops j i:=by
 have hi:=(Y3.1 ho).1;have hd:=h.dep;unfold qs5 at hd;rw [Y8] at hd;have:=hd i (U9.2 hi);rw [ho] at this;simp only [X3,Y8] at this;have:=this.2 t ht;simp only [J3] at this;rcases this with h1|h1
 ·rw [List.any_eq_true] at h1;obtain ⟨j,hj,h2⟩:=h1;simp only [X3,beq_iff_eq] at h2;exact .inl ⟨j,by simpa using hj,h2.2⟩
 ·rw [Y8] at h1;refine .inr fun j hj hd=>?_;have h2:=h1 j (U9.2 hj);rw [J3] at h2;rcases h2 with h2|h2
  ·rw [hd] at h2;simp at h2
  ·exact zn5 _ _ _ (N9.1 h2)
def OkD.guard (h:OkD ops n) {i:Nat} {o:Oper} (ho:ops[i]?=some o) {g:Nat} {b:Bool} (hg:o.guard=some (g,b)):g<i:=by
 have hi:=(Y3.1 ho).1;have hd:=h.guards;unfold zh0 at hd;rw [Y8] at hd;have:=hd i (U9.2 hi);rw [ho] at this;simp only [hg] at this;simpa [U8] using this
def zj5 {i:Nat} {o:Oper} (ho:ops[i]?=some o):ze0 ops i=o.dst:=by simp [ze0,ho]
def TrOk.uniq (hk:OkD ops n) {rs:List (Rec T)} (h:TrOk P C ops n B F0 H0 rs) {r r':Rec T} (hr:r∈rs) (hr':r'∈rs) {t:Nat} (hd:r.o.dst=some t) (hd':r'.o.dst=some t):r=r':=by
 obtain ⟨i,hi⟩:=Y9.1 hr;obtain ⟨j,hj⟩:=Y9.1 hr';have a:=h i r hi;have b:=h j r' hj;have e1:r.d.j=i:=by rw [a.idx,Y6,V7 (Nat.le_of_lt (X2.1 hi).1)]
 have e2:r'.d.j=j:=by rw [b.idx,Y6,V7 (Nat.le_of_lt (X2.1 hj).1)]
 have:=hk.uniq r.d.j r'.d.j t (Y3.1 a.op).1 (Y3.1 b.op).1 (by rw [zj5 a.op];exact hd) (by rw [zj5 b.op];exact hd');rw [e1,e2] at this;subst this;rw [hi] at hj;exact X5 hj
def TrOk.snoc {ps:List (Rec T)} {r:Rec T} (h:TrOk P C ops n B F0 H0 ps) (hr:RecOk P C ops n B F0 H0 ps r):TrOk P C ops n B F0 H0 (ps++ [r]):=by
 intro j q hq;rcases M2 j ps.length with hj|hj|hj
 ·rw [X8 hj] at hq;rw [Z7 (by omega)];exact h j q hq
 ·subst hj;rw [Z2 (W8 _),N3] at hq;simp at hq;subst hq;rw [T9];exact hr
 ·rw [Y5 (by simp;omega)] at hq;cases hq
def TrOk.dlocs {ps:List (Rec T)} (h:TrOk P C ops n B F0 H0 ps): ∀r∈ps,r.d.loc=r.loc.map fun p=>(p.1,p.2.1,p.2.2.isSome):=fun r hr=>by
 obtain ⟨j,hj⟩:=Y9.1 hr;exact (h j r hj).dloc
def AccD.skip {ps:List (Rec T)} {FF:AF T} {Hc:List (Ent T.U)} {recs:List DR} (h:AccD P C ops n B F0 H0 ps FF Hc recs) {o:Oper} (ho:ops[ps.length]?=some o) (hd:zh5 n o.dst=true) (hg:match o.guard with
  |none=>False
  |some (g,b)=> ∃rg∈ps,rg.d.j=g/\(∃d,rg.o.dst=some d)/\(rg.a=cB T (!b)\/ ∃u,rg.a=.raw (.tuple u))):
  ∃r,AccD P C ops n B F0 H0 (ps++ [r]) (za1 T FF o.dst (.raw undef)) Hc (recs++ [⟨ps.length,Hc.length,Hc.length,[],[],none,nk⟩])/\r.dead=false/\r.skip=true:=by
 let r:Rec T:=⟨o,⟨ps.length,Hc.length,Hc.length,[],[],none,nk⟩,true,[],[],.raw undef,[],false,none⟩
 have hup: ∀e,¬yt8 r e:=fun e h=>h.elim (fun h=>h rfl) fun ⟨_,_,h⟩=>by cases h
 refine ⟨r,?_,rfl,rfl⟩;refine ⟨h.tr.snoc ⟨rfl,ho,hd,⟨h.le,W8 _⟩,h.mono,fun _=>⟨rfl,rfl⟩,fun h=>(by cases h),fun h=>(by cases h),fun _ _ _ h=>(by cases h),rfl,fun _ _ h=>(by cases h),fun _=>?_⟩,?_,fun e he=>?_,h.le,fun q hq=>?_,by rw [h.recs];simp [r]⟩
 ·show match o.guard with|none=>_|some (g,b)=>_
  split at hg
  ·exact hg.elim
  ·rename_i g b hgg;obtain ⟨rg,a1,a2,a3,a4⟩:=hg;exact ⟨rg,a1,a2,a3,fun h=>(by cases h),fun _=>a4⟩
 ·intro t;rw [jk5];show (za1 T FF o.dst (.raw undef)).get T t=(match o.dst with|some d=>(fun t=>if t=d then (match zh8 r.d.j with|true=>some r.a|false=>fF zh8 ps (F0.get T) t) else fF zh8 ps (F0.get T) t)|none=>fF zh8 ps (F0.get T)) t;cases hdst:o.dst with
  |none=>exact h.ff t
  |some d=>
   simp only [za1,AF.get,zh8];cases hb:Nat.beq d t with
   |true=>have:=X1 hb;subst this;simp [r]
   |false=>rw [if_neg (fun e=>by subst e;simp at hb)];exact h.ff t
 ·rw [h.hc e he,zz1,zp9 (rs:= [r]) fun r' hr' _=>by simp at hr';subst hr';exact hup e]
 ·rcases X4.1 hq with hq|hq
  ·exact h.mono q hq
  ·simp at hq;subst hq;exact W8 _
def zw7 {m:Nat} {l:List Nat} (h:jm9 m l=true): ∀i∈l,i<m:=by
 intro i hi;unfold jm9 at h;rw [Y8] at h;simpa [U8] using h i hi
def jp3 {F:AF T} {t:Nat} {a:AV T.U} (h:F.get T t=some a): ∀i∈a.ids,i∈jk8 T F:=ys1 h
def yj9 {nb ne j:Nat} {recs:List DR} {ps:List (Rec T)} (hr:recs=ps.map (·.d)) {i:Nat} (h:qe6 B nb ne ((yn8 ops ops.size).getD j []) recs i=true):
  i<B\/(nb<=i/\i<ne)\/ ∃r'∈ps,r'.d.nb<=i/\i<r'.d.ne/\Tp ops j r'.d.j:=by
 unfold qe6 at h;simp only [J3,X3,U8] at h;rcases h with h|⟨h1,h2⟩|h
 ·exact .inl h
 ·exact .inr (.inl ⟨Y1 h1,h2⟩)
 ·rw [List.any_eq_true] at h;obtain ⟨d,hd,h⟩:=h;simp only [X3,U8] at h;rw [hr] at hd;obtain ⟨r',hr',rfl⟩:=U3.1 hd;exact .inr (.inr ⟨r',hr',Y1 h.1,h.2.1,zn5 ops.size _ _ (za9.1 h.2.2)⟩)
def vp9 {x y:Int} (h:kl1 x y=true):x=y:=of_decide_eq_true h
def kd7 {clo:List Nat} {recs:List DR} {tch wr:List Nat} {lc:Option (Nat×Nat×Bool)} (h:kw0 clo recs tch wr lc=true) (hk:kpD clo recs lc=true):qu6 clo recs tch wr lc=true:=by
 unfold kw0 at h;unfold kpD at hk;unfold qu6;rw [Y8] at h hk⊢;intro r hr;have h1:=h r hr;have h2:=hk r hr;cases hm:zr8 r.j clo with
 |true=>rfl
 |false=>
  rw [hm] at h1 h2;rw [N8] at h1 h2⊢;rw [X3] at h1⊢;refine ⟨h1.1,?_⟩;have h3:=h1.2;unfold kl5 at h3;unfold kw5;cases lc with
  |none=>exact h3
  |some p=>
   obtain ⟨k,c,st⟩:=p;rw [X3] at h3⊢;refine ⟨h3.1,?_⟩;have h4:=h3.2;simp only [X3] at h4⊢;refine ⟨?_,h4.2⟩;cases st with
   |true=>simpa using h4.1
   |false=>simpa using h2
def ve5 {H H1:List (Ent T.U)} {k c:Nat} (h:ke8 T H H1 k c=true): ∃x y,H[k]?=some x/\H1[k]?=some y/\x.live=true/\simE c y x:=by
 unfold ke8 at h;split at h<;>try (cases h;done)
 rename_i t cs t' cs' e1 e2;simp only [X3] at h;obtain ⟨h1,h2,h3,h4,h5⟩:=h;split at h5<;>try (cases h5;done)
 rename_i a b e3 e4;have hab:b=a:=by
  unfold ko2 at h5;split at h5<;>try (cases h5;done)
  rw [X3] at h5;have:=k9 h5.1;subst this;rename_i _ x y;rw [show y=x from (vp9 h5.2).symm]
 exact ⟨_,_,e1,e2,rfl,.inr ⟨X1 h1,X1 h2,by rw [e3,e4,hab],h4,h3⟩⟩
def yw0 {j:Nat} {recs:List DR} {ps:List (Rec T)} (hr:recs=ps.map (·.d)) (hdl: ∀r'∈ps,r'.d.loc=r'.loc.map fun p=>(p.1,p.2.1,p.2.2.isSome)) {tch wr:List Nat} {lc:Option (Nat×Nat×Bool)} (h:qu6 ((yn8 ops ops.size).getD j []) recs tch wr lc=true):
  ∀r'∈ps,Tp ops j r'.d.j\/((∀e∈tch,r'.d.wrE e=false)/\(∀e∈wr,e∉r'.d.tch)/\(∀k c v,r'.loc=some (k,c,some v)->k∉tch)/\(∀k c s,r'.loc=some (k,c,s)->k∉wr)/\(∀k c st,lc=some (k,c,st)->(r'.d.wrE k=false\/st=false/\r'.d.kp k c=true)/\(st=true->k∉r'.d.tch)/\ ∀c' s',r'.loc=some (k,c',s')->st=true\/s'.isSome=true->c'≠c)):=by
 intro r' hr';unfold qu6 at h;rw [Y8] at h;have:=h r'.d (by rw [hr];exact List.mem_map_of_mem hr');have hdl:=hdl r' hr';generalize r'.d=d at this hdl⊢;generalize r'.loc=ll at hdl⊢;rw [J3] at this;rcases this with h|h
 ·exact .inl (zn5 ops.size _ _ (za9.1 h))
 ·rw [X3,X3,Y8,Y8] at h;obtain ⟨⟨h1,h2⟩,h3⟩:=h;have nm: ∀ {e:Nat} {l:List Nat},(!zr8 e l)=true->e∉l:=fun {e l} h hm=>by rw [za9.2 hm] at h;cases h
  unfold kw5 at h3;rw [X3] at h3;obtain ⟨h3,h4⟩:=h3;refine .inr ⟨fun e he=>by have:=h1 e he;simpa using this,fun e he=>nm (h2 e he),fun k c v hl=>?_,fun k c sv hl=>?_,fun k c st hl=>?_⟩
  ·subst hl;rw [hdl] at h3;simp only [Z8,Option.isSome_some,U6,N8,X3] at h3;exact nm h3.1
  ·subst hl;rw [hdl] at h3;simp only [Z8,X3] at h3;exact nm h3.2
  ·subst hl;simp only [X3] at h4;obtain ⟨g1,g2,g3⟩:=h4;refine ⟨by simpa using g1,fun hst=>?_,fun c' s' hl hor=>?_⟩
   ·subst hst;simp only [U6,N8] at g2;exact nm g2
   ·subst hl;rw [hdl] at g3;simp only [Z8,J7,U6,N8] at g3;intro e;subst e;rw [J7] at g3;rcases hor with h|h<;>rw [h] at g3<;>simp at g3
def AccD.take {ps:List (Rec T)} {FF:AF T} {Hc:List (Ent T.U)} {recs:List DR} (h:AccD P C ops n B F0 H0 ps FF Hc recs) {o:Oper} (ho:ops[ps.length]?=some o) (hg:match o.guard with
  |none=>True
  |some (g,b)=> ∃rg∈ps,rg.d.j=g/\(∃d,rg.o.dst=some d)/\rg.a=cB T b) {tch:List Nat} (htch: ∀e∈tch,∃f,Hc[e]?=some f/\f.live=true) {F:AF T} (hFk:F=zn6 T FF (zm7 o))
  (hdst:zh5 n o.dst=true) (hns:za6 o=true) (hpre:zs3 F o=true) (hlt:jm9 Hc.length (jk8 T F)=true) (hlc:((zk3 T tch Hc 0).all fun e=>jm9 Hc.length e.cellIds)=true)
  {a:AV T.U} {H1:List (Ent T.U)} {Fz:AF T} (hstep:zg1 P C o ⟨F,zk3 T tch Hc 0⟩ some (fun _ _=>none)=some ⟨za1 T Fz o.dst a,H1⟩) (hk:Keeps T (wrF C o ⟨F,zk3 T tch Hc 0⟩) (zk3 T tch Hc 0) H1)
  (hchk:qu6 ((yn8 ops ops.size).getD ps.length []) recs tch (wrF C o ⟨F,zk3 T tch Hc 0⟩) none=true) (hid:((yp6 T (za1 T Fz o.dst a) o.dst).ids.all (qe6 B Hc.length H1.length ((yn8 ops ops.size).getD ps.length []) recs))=true)
  (hep:kk4 T tch Hc.length H0 (yp6 T (za1 T Fz o.dst a) o.dst)=true) (hcid:(H1.all fun e=>e.cellIds.all (qe6 B Hc.length H1.length ((yn8 ops ops.size).getD ps.length []) recs))=true):
  ∃r,AccD P C ops n B F0 H0 (ps++ [r]) (za1 T FF o.dst (yp6 T (za1 T Fz o.dst a) o.dst)) (yc1 T tch Hc H1 0) (recs++ [⟨ps.length,Hc.length,H1.length,tch,wrF C o ⟨F,zk3 T tch Hc 0⟩,none,ke8 T (zk3 T tch Hc 0) H1⟩])/\r.dead=false/\r.d.j=ps.length/\r.d.wr=wrF C o ⟨F,zk3 T tch Hc 0⟩/\r.loc=none:=by
 let r:Rec T:=⟨o,⟨ps.length,Hc.length,H1.length,tch,wrF C o ⟨F,zk3 T tch Hc 0⟩,none,ke8 T (zk3 T tch Hc 0) H1⟩,false,F,zk3 T tch Hc 0,yp6 T (za1 T Fz o.dst a) o.dst,H1,false,none⟩
 have hnb:Hc.length<=H1.length:=by have:=hk.len;rwa [zr3] at this
 have hda:za1 T Fz o.dst (yp6 T (za1 T Fz o.dst a) o.dst)=za1 T Fz o.dst a:=by
  cases hd:o.dst with
  |none=>rfl
  |some d=>simp only [za1,yp6,AF.get,J7]
 have hmask: ∀e,e<Hc.length->(zk3 T tch Hc 0)[e]?=some (if e∈tch then hF zh8 ps (base H0) e else .gone):=by
  intro e he;rw [yk3,h.hc e he,U0];rfl
 have htk:TakeOk P C ops B F0 H0 ps r:=by
  refine ⟨hns,hpre,?_,hk,zr3,hmask,fun e he=>?_,rfl,fun t a ha=>?_,fun t a ha i hi=>zw7 hlt i (jp3 ha i hi),fun f hf i hi=>?_,fun r' hr'=>(yw0 h.recs h.tr.dlocs hchk r' hr').imp id fun ⟨q1,q2,q3,q4,_⟩=>⟨q1,q2,q3,q4,fun _ _ _ hl=>(by cases hl),fun _ _ _ hl=>(by cases hl),fun _ _ _ _ _ hl=>(by cases hl)⟩,fun i hi=>?_,hep,fun f hf i hi=>?_⟩
  ·refine ⟨Fz,?_⟩;show zg1 P C o ⟨F,zk3 T tch Hc 0⟩ some (fun _ _=>none)=some ⟨za1 T Fz o.dst (yp6 T (za1 T Fz o.dst a) o.dst),H1⟩;rw [hda];exact hstep
  ·obtain ⟨f,h1,h2⟩:=htch e he;have hlt:=(X2.1 h1).1;rw [h.hc e hlt] at h1;simp only [X0] at h1;exact ⟨hlt,by rw [h1];exact h2⟩
  ·have ha:(zn6 T FF (zm7 o)).get T t=some a:=by rw [<-hFk];exact ha
   obtain ⟨h1,h2⟩:=zw5 ha;exact ⟨h1,by rw [<-h.ff];exact h2⟩
  ·rw [Y8] at hlc;exact zw7 (hlc f hf) i hi
  ·rw [Y8] at hid;exact yj9 h.recs (hid i hi)
  ·rw [Y8] at hcid;have:=hcid f hf;rw [Y8] at this;exact yj9 h.recs (this i hi)
 refine ⟨r,?_,rfl,rfl,rfl,rfl⟩;refine ⟨h.tr.snoc ⟨rfl,ho,hdst,⟨h.le,hnb⟩,h.mono,fun h=>(by cases h),fun h=>(by cases h),fun _ _=>htk,fun _ _ _ h=>(by cases h),rfl,fun k c h=>⟨rfl,rfl,ve5 h⟩,fun _=>?_⟩,?_,fun e he=>?_,by rw [zw8 hnb];exact W9 h.le hnb,fun q hq=>?_,by rw [h.recs];simp [r]⟩
 ·show match o.guard with|none=>_|some (g,b)=>_
  split at hg
  ·rfl
  ·obtain ⟨rg,a1,a2,a3,a4⟩:=hg;exact ⟨rg,a1,a2,a3,fun _=>a4,fun h=>(by cases h)⟩
 ·intro t;rw [jk5];show (za1 T FF o.dst r.a).get T t=(match o.dst with|some d=>(fun t=>if t=d then (match zh8 r.d.j with|true=>some r.a|false=>fF zh8 ps (F0.get T) t) else fF zh8 ps (F0.get T) t)|none=>fF zh8 ps (F0.get T)) t;cases hdst:o.dst with
  |none=>exact h.ff t
  |some d=>
   simp only [za1,AF.get,zh8];cases hb:Nat.beq d t with
   |true=>have:=X1 hb;subst this;simp
   |false=>rw [if_neg (fun e=>by subst e;simp at hb)];exact h.ff t
 ·rw [zw8 hnb] at he;rw [yo4 hnb,U0,zz1];show _=some ((upR r e).getD (hF zh8 ps (base H0) e));have hr:upR r e=if e<Hc.length then (if e∈tch/\e∈wrF C o ⟨F,zk3 T tch Hc 0⟩ then H1[e]? else none) else H1[e]?:=rfl
  rw [hr];have hH1:H1[e]?=some H1[e]:=Y0 he;by_cases hel:e<Hc.length
  ·rw [if_pos hel,if_pos hel];by_cases ht:e∈tch
   ·rw [if_pos ht];by_cases hw:e∈wrF C o ⟨F,zk3 T tch Hc 0⟩
    ·rw [if_pos ⟨ht,hw⟩,hH1];rfl
    ·rw [if_neg (fun q=>hw q.2),hk.same e (by rw [zr3];exact hel) hw,hmask e hel,if_pos ht];rfl
   ·rw [if_neg ht,if_neg (fun q=>ht q.1),h.hc e hel];rfl
  ·rw [if_neg hel,if_neg hel,hH1];rfl
 ·rw [zw8 hnb];rcases X4.1 hq with hq|hq
  ·exact W9 (h.mono q hq) hnb
  ·simp at hq;subst hq;exact W8 _
def AccD.takeL {ps:List (Rec T)} {FF:AF T} {Hc:List (Ent T.U)} {recs:List DR} (h:AccD P C ops n B F0 H0 ps FF Hc recs) {o:Oper} (ho:ops[ps.length]?=some o) (hg:match o.guard with
  |none=>True
  |some (g,b)=> ∃rg∈ps,rg.d.j=g/\(∃d,rg.o.dst=some d)/\rg.a=cB T b) {tch:List Nat} {F:AF T} (hFk:F=zn6 T FF (zm7 o))
  (hdst:zh5 n o.dst=true) (hns:za6 o=true) (hpre:zs3 F o=true) {k c:Nat} {sv:Option (AV T.U)} (hl:kl6 P o F (zk3 T tch Hc 0)=some (k,c,sv))
  {a:AV T.U} {H1:List (Ent T.U)} {Fz:AF T} (hstep:zg1 P C o ⟨F,zk3 T tch Hc 0⟩ some (fun _ _=>none)=some ⟨za1 T Fz o.dst a,H1⟩)
  (hchk:qu6 ((yn8 ops ops.size).getD ps.length []) recs [] [] (some (k,c,sv.isSome))=true) (hid:((yp6 T (za1 T Fz o.dst a) o.dst).ids.all (qe6 B Hc.length Hc.length ((yn8 ops ops.size).getD ps.length []) recs))=true)
  (hvid:((match sv with|some v=>v.ids|none=> []).all (qe6 B Hc.length Hc.length ((yn8 ops ops.size).getD ps.length []) recs))=true):
  ∃r,AccD P C ops n B F0 H0 (ps++ [r]) (za1 T FF o.dst (yp6 T (za1 T Fz o.dst a) o.dst)) (qg7 k c sv (Hc.getD k .gone) Hc) (recs++ [⟨ps.length,Hc.length,Hc.length,[],[],some (k,c,sv.isSome),nk⟩])/\r.dead=false/\r.d.wr= []/\r.loc=some (k,c,sv):=by
 let r:Rec T:=⟨o,⟨ps.length,Hc.length,Hc.length,[],[],some (k,c,sv.isSome),nk⟩,false,F,[],yp6 T (za1 T Fz o.dst a) o.dst,[],false,some (k,c,sv)⟩
 obtain ⟨x,hx,hxl,_,hst⟩:=vq4 hl hstep;have hda: ∀G:AF T,za1 T G o.dst (yp6 T (za1 T Fz o.dst a) o.dst)=za1 T G o.dst a:=fun G=>by
  cases hd:o.dst with
  |none=>rfl
  |some d=>simp only [za1,yp6,AF.get,J7]
 have hk:k<Hc.length:=by have:=(X2.1 hx).1;rwa [zr3] at this
 have hxe:x=hF zh8 ps (base H0) k:=by
  rw [yk3,h.hc k hk,U0] at hx;simp only [Z8,X0] at hx;split at hx
  ·exact hx.symm
  ·subst hx;cases hxl
 have hlok:LocOk P C ops B F0 H0 ps r k c sv:=by
  refine ⟨rfl,hns,hpre,hk,rfl,rfl,rfl,fun t a ha=>?_,fun F' H' f hF hf hsim=>?_,fun r' hr'=>?_,fun i hi=>?_,fun v hv i hi=>?_⟩
  ·have ha:(zn6 T FF (zm7 o)).get T t=some a:=by rw [<-hFk];exact ha
   obtain ⟨h1,h2⟩:=zw5 ha;exact ⟨h1,by rw [<-h.ff];exact h2⟩
  ·rw [<-hxe] at hsim;have:=hst F' H' f hF hf hsim;show zg1 P C o ⟨F',H'⟩ some (fun _ _=>none)=some ⟨za1 T F' o.dst (yp6 T (za1 T Fz o.dst a) o.dst),qg7 k c sv f H'⟩;rw [hda];exact this
  ·rcases yw0 h.recs h.tr.dlocs hchk r' hr' with q|⟨q1,q2,q3,q4,q5⟩
   ·exact .inl q
   obtain ⟨u1,u2,u3⟩:=q5 k c sv.isSome rfl;refine .inr ⟨fun _ hm=>(by cases hm),fun _ hm=>(by cases hm),fun _ _ _ _ hm=>(by cases hm),fun _ _ _ _ hm=>(by cases hm),fun k0 c0 s0 hl=>?_,fun k0 c0 v0 hl=>?_,fun k0 c0 s0 c' s' hl hl' hor=>?_⟩
   ·have hl:some (k,c,sv)=some (k0,c0,s0):=hl;simp only [X0,X7] at hl;obtain ⟨rfl,rfl,rfl⟩:=hl;exact u1.imp id fun ⟨e1,e2⟩=>⟨(by cases sv<;>first|rfl|cases e1),e2⟩
   ·have hl:some (k,c,sv)=some (k0,c0,some v0):=hl;simp only [X0,X7] at hl;obtain ⟨rfl,rfl,rfl⟩:=hl;exact u2 rfl
   ·have hl:some (k,c,sv)=some (k0,c0,s0):=hl;simp only [X0,X7] at hl;obtain ⟨rfl,rfl,rfl⟩:=hl;exact u3 c' s' hl' hor
  ·rw [Y8] at hid;exact yj9 h.recs (hid i hi)
  ·subst hv;rw [Y8] at hvid;exact yj9 h.recs (hvid i hi)
 have hlen:(qg7 k c sv (Hc.getD k .gone) Hc).length=Hc.length:=by cases sv<;>simp [qg7]
 refine ⟨r,?_,rfl,rfl,rfl⟩;refine ⟨h.tr.snoc ⟨rfl,ho,hdst,⟨h.le,W8 _⟩,h.mono,fun h=>(by cases h),fun h=>(by cases h),fun _ h=>(by cases h),fun k0 c0 s0 hl=>?_,rfl,fun _ _ h=>(by cases h),fun _=>?_⟩,?_,fun e he=>?_,by rw [hlen];exact h.le,fun q hq=>?_,by rw [h.recs];simp [r]⟩
 ·have hl:some (k,c,sv)=some (k0,c0,s0):=hl;simp only [X0,X7] at hl;obtain ⟨rfl,rfl,rfl⟩:=hl;exact hlok
 ·show match o.guard with|none=>_|some (g,b)=>_
  split at hg
  ·rfl
  ·obtain ⟨rg,a1,a2,a3,a4⟩:=hg;exact ⟨rg,a1,a2,a3,fun _=>a4,fun h=>(by cases h)⟩
 ·intro t;rw [jk5];show (za1 T FF o.dst r.a).get T t=(match o.dst with|some d=>(fun t=>if t=d then (match zh8 r.d.j with|true=>some r.a|false=>fF zh8 ps (F0.get T) t) else fF zh8 ps (F0.get T) t)|none=>fF zh8 ps (F0.get T)) t;cases hdst:o.dst with
  |none=>exact h.ff t
  |some d=>
   simp only [za1,AF.get,zh8];cases hb:Nat.beq d t with
   |true=>have:=X1 hb;subst this;simp
   |false=>rw [if_neg (fun e=>by subst e;simp at hb)];exact h.ff t
 ·rw [hlen] at he;rw [zz1];show _=some (upG r e (hF zh8 ps (base H0) e));have hge:=h.hc e he;cases sv with
  |none=>exact hge
  |some v=>
   show (Hc.set k (yn1 c v (Hc.getD k .gone)))[e]?=some (if e=k then yn1 c v (hF zh8 ps (base H0) e) else hF zh8 ps (base H0) e);by_cases hek:e=k
   ·subst hek;rw [Q0 hk,if_pos rfl,Y2,hge];rfl
   ·rw [Z5 (Ne.symm hek),if_neg hek];exact hge
 ·rw [hlen];rcases X4.1 hq with hq|hq
  ·exact h.mono q hq
  ·simp at hq;subst hq;exact W8 _
def AccD.dies {ps:List (Rec T)} {FF:AF T} {Hc:List (Ent T.U)} {recs:List DR} (hB:H0.length=B) (h:AccD P C ops n B F0 H0 ps FF Hc recs) {o:Oper} (ho:ops[ps.length]?=some o) (hd:zh5 n o.dst=true) (m:Nat) (hm:Hc.length<=m):
  AccD P C ops n B F0 H0 (ps++ [⟨o,⟨ps.length,Hc.length,m,[],[],none,nk⟩,true,[],[],.raw undef,[],true,none⟩]) (za1 T FF o.dst (.raw undef)) (Hc++List.replicate (m-Hc.length) .gone) (recs++ [⟨ps.length,Hc.length,m,[],[],none,nk⟩]):=by
 let r:Rec T:=⟨o,⟨ps.length,Hc.length,m,[],[],none,nk⟩,true,[],[],.raw undef,[],true,none⟩
 have hup: ∀e,¬yt8 r e:=fun e h=>h.elim (fun h=>h rfl) fun ⟨_,_,h⟩=>by cases h
 have hlen:(Hc++List.replicate (m-Hc.length) Ent.gone).length=m:=by simp;omega
 refine ⟨h.tr.snoc ⟨rfl,ho,hd,⟨h.le,hm⟩,h.mono,fun _=>⟨rfl,rfl⟩,fun _=>rfl,fun h=>(by cases h),fun _ _ _ h=>(by cases h),rfl,fun _ _ h=>(by cases h),fun h=>(by cases h)⟩,?_,fun e he=>?_,by rw [hlen];exact W9 h.le hm,fun q hq=>?_,by rw [h.recs];simp⟩
 ·intro t;rw [jk5];show (za1 T FF o.dst (.raw undef)).get T t=(match o.dst with|some d=>(fun t=>if t=d then (match zh8 r.d.j with|true=>some r.a|false=>fF zh8 ps (F0.get T) t) else fF zh8 ps (F0.get T) t)|none=>fF zh8 ps (F0.get T)) t;cases hdst:o.dst with
  |none=>exact h.ff t
  |some d=>
   simp only [za1,AF.get,zh8];cases hb:Nat.beq d t with
   |true=>have:=X1 hb;subst this;simp [r]
   |false=>rw [if_neg (fun e=>by subst e;simp at hb)];exact h.ff t
 ·rw [zz1,zp9 (rs:= [_]) fun r' hr' _=>by simp only [Q5] at hr';subst hr';exact hup e];by_cases hel:e<Hc.length
  ·rw [X8 hel];exact h.hc e hel
  ·rw [Z2 (by omega)];rw [hlen] at he;rw [List.getElem?_replicate,if_pos (by omega),zp9 fun q hq _=>?_]
   ·have:=h.le;unfold base;rw [Y5 (by omega)];rfl
   ·intro hu;obtain ⟨k,hk⟩:=Y9.1 hq;have hqk:=h.tr k q hk;have hmo:=h.mono q hq;have hle:=hqk.le;rcases hu with hu|⟨c,v,hl⟩
    ·unfold upR at hu;split at hu
     ·exact hu rfl
     ·rename_i hs;split at hu
      ·exact hu rfl
      ·rename_i hl;have hne:=(hqk.take hs hl).ne;split at hu
       ·omega
       ·exact hu (Y5 (by omega))
    ·have:=(hqk.lok _ _ _ hl).lt;omega
 ·rw [hlen];rcases X4.1 hq with hq|hq
  ·exact W9 (h.mono q hq) hm
  ·simp at hq;subst hq;exact W8 _
def PanI.snoc {ps:List (Rec T)} {j0:Nat} {a:AV T.U} {core:List (Ent T.U)} (h:PanI P C ops B F0 H0 ps j0 a core) {q:Rec T} (hd:q.dead=true->q.d.j=j0\/Tp ops q.d.j j0) (hw:q.skip=false->(q.d.wr≠ []\/ ∃k c v,q.loc=some (k,c,some v))->Tp ops j0 q.d.j):PanI P C ops B F0 H0 (ps++ [q]) j0 a core:=by
 obtain ⟨⟨r0,tch,F,Hm,Hp,wr,h1,h2,h3⟩,h4,h5,h6,h7⟩:=h;have hlt:=(X2.1 h1).1;have ht:(ps++ [q]).take j0=ps.take j0:=Z7 (by omega);refine ⟨⟨r0,tch,F,Hm,Hp,wr,by rw [X8 hlt];exact h1,h2,by rw [ht];exact h3⟩,fun p hp hpd=>?_,fun p hp hs hpw=>?_,h6,h7⟩
 ·rcases X4.1 hp with hp|hp
  ·exact h4 p hp hpd
  ·simp at hp;subst hp;exact hd hpd
 ·rcases X4.1 hp with hp|hp
  ·exact h5 p hp hs hpw
  ·simp at hp;subst hp;exact hw hs hpw
def PzOk.snoc {R:Type} {Fp:AF T} {Kp:AV T.U->St T->Option R} {ps:List (Rec T)} {pz:Option (Nat×Option R)} (h:PzOk P C ops B F0 H0 Fp Kp ps pz) {q:Rec T} (h1:q.dead=false) (h2:pz≠none->q.skip=false->q.d.wr= []/\ ∀k c v,q.loc≠some (k,c,some v)):PzOk P C ops B F0 H0 Fp Kp (ps++ [q]) pz:=by
 cases pz with
 |none=>
  intro p hp;rcases X4.1 hp with hp|hp
  ·exact h p hp
  ·simp at hp;subst hp;exact h1
 |some x=>
  obtain ⟨j0,kf⟩:=x;obtain ⟨a,core,h3,h4⟩:=h;exact ⟨a,core,h3.snoc (fun hd=>by rw [h1] at hd;cases hd) fun hs hw=>(hw.elim (fun hw=>absurd (h2 (by simp) hs).1 hw) fun ⟨k,c,v,hl⟩=>absurd hl ((h2 (by simp) hs).2 k c v)),h4⟩
def AccD.again {ps:List (Rec T)} {FF:AF T} {Hc:List (Ent T.U)} {recs:List DR} (h:AccD P C ops n B F0 H0 ps FF Hc recs) {d:Nat} {a:AV T.U} (hd:FF.get T d=some a):AccD P C ops n B F0 H0 ps ((d,a)::FF) Hc recs:=
 ⟨h.tr,fun t=>by
  simp only [AF.get];cases hb:Nat.beq d t with
  |true=>have:=X1 hb;subst this;rw [<-h.ff,hd]
  |false=>exact h.ff t,h.hc,h.le,h.mono,h.recs⟩
def va6 (hB:H0.length=B) (hk:OkD ops n) (hE:za0 T P C.E) {R:Type} {r:R} {Fp:AF T} {pm:Bool} {Kp:AV T.U->St T->Option R} {K:St T->Option R}: ∀(rest:List Oper) (ps:List (Rec T)) (pz:Option (Nat×Option R)) (FF:AF T) (Hc:List (Ent T.U)) (recs:List DR),ops.toList.drop ps.length=rest->AccD P C ops n B F0 H0 ps FF Hc recs->PzOk P C ops B F0 H0 Fp Kp ps pz->vz0 T P C ops n B H0 Fp pm Kp K rest ps.length pz FF Hc recs=some r->
  ∃rs pz' FF' Hc' recs',AccD P C ops n B F0 H0 rs FF' Hc' recs'/\PzOk P C ops B F0 H0 Fp Kp rs pz'/\rs.length=ops.size/\(match pz' with|none=>K ⟨FF',Hc'⟩|some (_,kf)=>kf)=some r
 | [],ps,pz,FF,Hc,recs,hr,h,hz,hp=>by
  have:ops.size<=ps.length:=by simpa using List.drop_eq_nil_iff.1 hr
  have hle:ps.length<=ops.size:=by
   rcases M7 ps.length with h0|h0
   ·omega
   ·have hlt:ps.length-1<ps.length:=by omega
    have hg:=Y0 hlt;have hrk:=h.tr _ _ hg;have h1:=(Y3.1 hrk.op).1;rw [hrk.idx,Y6] at h1;omega
  exact ⟨ps,pz,FF,Hc,recs,h,hz,by omega,hp⟩
 |o::rest,ps,pz,FF,Hc,recs,hr,h,hz,hp=>by
  have hlt:ps.length<ops.size:=by
   apply Classical.byContradiction;intro hn;rw [M4 (by simpa using hn)] at hr;cases hr
  have ho:ops[ps.length]?=some o:=by
   have:=M5 (l:=ops.toList) (i:=ps.length) (by simpa using hlt);rw [hr] at this;rw [Z6 hlt];have h1:=(List.cons.inj this).1;simpa using h1.symm
  have hr':ops.toList.drop (ps.length+1)=rest:=by
   have:=M5 (l:=ops.toList) (i:=ps.length) (by simpa using hlt);rw [hr] at this;exact (List.cons.inj this).2.symm
  have go: ∀(q:Rec T) (pz:Option (Nat×Option R)) (FF':AF T) (Hc':List (Ent T.U)) (recs':List DR),AccD P C ops n B F0 H0 (ps++ [q]) FF' Hc' recs'->PzOk P C ops B F0 H0 Fp Kp (ps++ [q]) pz->vz0 T P C ops n B H0 Fp pm Kp K rest (ps.length+1) pz FF' Hc' recs'=some r->
    ∃rs pz' FF' Hc' recs',AccD P C ops n B F0 H0 rs FF' Hc' recs'/\PzOk P C ops B F0 H0 Fp Kp rs pz'/\rs.length=ops.size/\(match pz' with|none=>K ⟨FF',Hc'⟩|some (_,kf)=>kf)=some r:=by
   intro q pz FF' Hc' recs' ha hz hq;have hl:(ps++ [q]).length=ps.length+1:=by simp
   rw [<-hl] at hq;exact va6 hB hk hE rest (ps++ [q]) pz FF' Hc' recs' (by rw [hl];exact hr') ha hz hq
  let Gr:Option (Nat×Option R)->AF T->List (Ent T.U)->List DR->Option R:=fun pz FF Hc recs=>vz0 T P C ops n B H0 Fp pm Kp K rest (ps.length+1) pz FF Hc recs
  have htake: ∀FF,AccD P C ops n B F0 H0 ps FF Hc recs->(match o.guard with
    |none=>True
    |some (g,b)=> ∃rg∈ps,rg.d.j=g/\(∃d,rg.o.dst=some d)/\rg.a=cB T b)->
    qr7 T P C ops n B H0 Fp pm Kp o ps.length pz FF Hc recs Gr=some r-> ∃rs pz' FF' Hc' recs',AccD P C ops n B F0 H0 rs FF' Hc' recs'/\PzOk P C ops B F0 H0 Fp Kp rs pz'/\rs.length=ops.size/\(match pz' with|none=>K ⟨FF',Hc'⟩|some (_,kf)=>kf)=some r:=by
   intro FF h hg hp;unfold qr7 at hp;simp only at hp;generalize hF:zn6 T FF (zm7 o)=F at hp;generalize htch:qf2 T Hc (vz3 T o F Hc++zz0 C o F Hc)=tch at hp;have htl: ∀e∈tch,∃f,Hc[e]?=some f/\f.live=true:=fun e he=>by
    rw [<-htch] at he;have:=(W3.1 he).2;split at this
    ·rename_i f hf;exact ⟨f,hf,this⟩
    ·cases this
   split at hp<;>try (cases hp;done)
   rename_i hb;simp only [X3] at hb;split at hp
   ·rename_i k c sv hl;rcases jr8 hE hp with ⟨Fz,a,H1,h1,h2,h3⟩|⟨a,st',h1,h2,h3⟩
    ·dsimp only at h1;split at h1<;>try (cases h1;done)
     rename_i hc;simp only [X3] at hc;obtain ⟨hlater,hc1,hc2,hc3⟩:=hc;unfold z7 at h1;split at h1<;>try (cases h1;done)
     rename_i hkp;have hc1:=kd7 hc1 hkp;obtain ⟨q,hq,hqd,hqw,hql⟩:=h.takeL ho hg (tch:=tch) hF.symm hb.1 hb.2.1 hb.2.2.1 hl (h3 _ _) hc1 hc2 hc3;refine go q _ _ _ _ hq (hz.snoc hqd fun hne _=>⟨hqw,fun k' c' v' hl'=>?_⟩) h1;rw [hql] at hl';simp only [X0,X7] at hl';obtain ⟨_,_,rfl⟩:=hl';cases pz with
     |none=>exact absurd rfl hne
     |some x=>simp [jz1] at hlater
    ·cases h1
   rcases jr8 hE hp with ⟨Fz,a,H1,h1,h2,h3⟩|⟨a,st',h1,h2,h3⟩
   ·dsimp only at h1;split at h1<;>try (cases h1;done)
    rename_i hc;rw [X3] at hc;obtain ⟨hlater,hc⟩:=hc;simp only [X3] at hc;obtain ⟨q,hq,hqd,hqj,hqw,hql⟩:=h.take ho hg (tch:=tch) htl hF.symm hb.1 hb.2.1 hb.2.2.1 hb.2.2.2.1 hb.2.2.2.2 (h3 _ _) h2 hc.1 hc.2.1.1 hc.2.1.2 hc.2.2;refine go q _ _ _ _ hq (hz.snoc hqd fun hne _=>⟨?_,fun k c v hl=>by rw [hql] at hl;cases hl⟩) h1;rw [hqw];cases pz with
    |none=>exact absurd rfl hne
    |some x=>simpa [jz1] using hlater
   ·split at h1<;>try (cases h1;done)
    rename_i hc;rw [X3] at hc;obtain ⟨hfst,hok⟩:=hc;have hpz:pz=none:=by cases pz with|none=>rfl|some x=>cases hfst
    subst hpz;unfold km3 at hok;simp only [X3] at hok;obtain ⟨k1,k2,k3,k4⟩:=hok;have hnb:Hc.length<=st'.H.length:=by have:=h2.len;rwa [zr3] at this
    have hd:=h.dies hB ho hb.1 st'.H.length hnb;refine go _ (some (ps.length,Kp a ⟨Fp,ym1 T B tch Hc st'.H⟩)) _ _ _ hd ⟨a,ym1 T B tch Hc st'.H,⟨⟨⟨o,⟨ps.length,Hc.length,st'.H.length,[],[],none,nk⟩,true,[],[],.raw undef,[],true,none⟩,tch,F,zk3 T tch Hc 0,st'.H,_,?_,rfl,?_,hb.2.1,hb.2.2.1,h3 _ _,h2,zr3,fun e he=>?_,fun e he=>?_,rfl,fun t x hx=>?_,fun t x hx i hi=>zw7 hb.2.2.2.1 i (jp3 hx i hi),fun f hf i hi=>?_,?_,fun e he=>?_,?_⟩,fun q hq hqd=>?_,fun q hq hs hw=>?_,fun f hf i hi=>?_,by simpa using k2⟩,rfl⟩ h1
    ·rw [Z2 (W8 _)];simp
    ·show match o.guard with|none=>True|some (g,b)=>_
     split
     ·trivial
     ·rename_i g b hgd;rw [hgd] at hg;simp only at hg;rw [Z7 (W8 _),T2];exact hg
    ·rw [Z7 (W8 _),T2,yk3,h.hc e he,U0];rfl
    ·obtain ⟨f,g1,g2⟩:=htl e he;have hlt:=(X2.1 g1).1;rw [h.hc e hlt] at g1;simp only [X0] at g1;rw [Z7 (W8 _),T2];exact ⟨hlt,by rw [g1];exact g2⟩
    ·rw [<-hF] at hx;obtain ⟨g1,g2⟩:=zw5 hx;rw [Z7 (W8 _),T2];exact ⟨g1,by rw [<-h.ff];exact g2⟩
    ·have:=Y8.1 hb.2.2.2.2 f hf;exact zw7 this i hi
    ·rw [Z7 (W8 _),T2];intro r' hr';rcases yw0 h.recs h.tr.dlocs k1 r' hr' with g1|⟨g1,_,g3,_⟩
     ·exact .inl g1
     ·exact .inr ⟨g1,g3⟩
    ·rw [Z7 (W8 _),T2];have hle:=h.le;unfold ym1;rw [Z3,if_pos he,yo4 hnb,if_pos (by omega),U0];split
     ·have hlt:e<st'.H.length:=by omega
      rw [Y0 hlt];rfl
     ·rw [h.hc e (by omega)]
    ·have hle:=h.le;unfold ym1;rw [Y6,zw8 hnb];omega
    ·rcases X4.1 hq with hq|hq
     ·rw [hz q hq] at hqd;cases hqd
     ·simp at hq;subst hq;exact .inl rfl
    ·rcases X4.1 hq with hq|hq
     ·have hm:=Y8.1 k3 q.d (by rw [h.recs];exact U3.2 ⟨q,hq,rfl⟩);rw [J3] at hm;rcases hm with hm|hm
      ·exact zn5 ops.size _ _ (za9.1 hm)
      ·rw [X3] at hm;rcases hw with hw|⟨k0,c0,v0,hl0⟩
       ·exact absurd (by simpa using hm.1) hw
       ·have h1:=h.tr.dlocs q hq;rw [hl0] at h1;have h2:q.d.isSt=true:=by unfold DR.isSt;rw [h1];rfl
        rw [h2] at hm;simp at hm
     ·simp at hq;subst hq;cases hs
    ·have:=Y8.1 k4 f hf;exact zw7 this i hi
  have hpass: ∀FF,AccD P C ops n B F0 H0 ps FF Hc recs->(match o.guard with
    |none=>False
    |some (g,b)=> ∃rg∈ps,rg.d.j=g/\(∃d,rg.o.dst=some d)/\(rg.a=cB T (!b)\/ ∃u,rg.a=.raw (.tuple u)))->
    jf3 T n o ps.length pz FF Hc recs Gr=some r-> ∃rs pz' FF' Hc' recs',AccD P C ops n B F0 H0 rs FF' Hc' recs'/\PzOk P C ops B F0 H0 Fp Kp rs pz'/\rs.length=ops.size/\(match pz' with|none=>K ⟨FF',Hc'⟩|some (_,kf)=>kf)=some r:=by
   intro FF h hg hp;unfold jf3 at hp;split at hp<;>try (cases hp;done)
   rename_i hd;obtain ⟨q,hq,hqd,hqs⟩:=h.skip ho hd hg;exact go q _ _ _ _ hq (hz.snoc hqd fun _ hs=>(by rw [hqs] at hs;cases hs)) hp
  unfold vz0 at hp;simp only at hp;split at hp
  ·rename_i hdead;have hp:jf3 T n o ps.length pz FF Hc recs Gr=some r:=hp;unfold jf3 at hp;split at hp<;>try (cases hp;done)
   rename_i hd;have hq:=h.dies hB ho hd Hc.length (W8 _);rw [N3,List.replicate_zero,J4] at hq;cases pz with
   |none=>cases hdead
   |some x=>
    obtain ⟨j0,kf⟩:=x;obtain ⟨a,core,g1,g2⟩:=hz;exact go _ (some (j0,kf)) _ _ _ hq ⟨a,core,g1.snoc (fun _=>.inr (zn5 ops.size _ _ (za9.1 hdead))) fun hs=>(by cases hs),g2⟩ hp
  split at hp
  ·rename_i hg;exact htake FF h (by rw [hg];trivial) hp
  ·rename_i g b hg;split at hp
   ·cases hp
   ·rename_i d hdg;have hgl:=hk.guard ho hg;have hgg:ps[g]?=some ps[g]:=Y0 hgl;have hrk:=h.tr g _ hgg;have hidx:ps[g].d.j=g:=by rw [hrk.idx,Y6];omega
    have hop:=hrk.op;rw [hidx] at hop;have hdst:ps[g].o.dst=some d:=by
     unfold vk2 at hdg;rw [hop] at hdg;exact hdg
    have hff:FF.get T d=some ps[g].a:=by
     rw [h.ff,yg4 (X6 hgg) hdst fun r' hr' hd'=>h.tr.uniq hk hr' (X6 hgg) hd' hdst];rfl
    have hmem:=X6 hgg;split at hp
    ·rename_i c hc;have ha:ps[g].a=cB T c:=by rw [hff] at hc;exact X5 hc
     rcases zc7 hp with ⟨hct,hp⟩|⟨hct,hp⟩
     ·have hct:c=true:=hct;subst hct;have h':=h.again (d:=d) (a:=cB T true) (by rw [hff,ha]);cases b with
      |true=>exact htake _ h' (by rw [hg];exact ⟨_,hmem,hidx,⟨d,hdst⟩,ha⟩) hp
      |false=>exact hpass _ h' (by rw [hg];exact ⟨_,hmem,hidx,⟨d,hdst⟩,.inl ha⟩) hp
     ·have hct:c=false:=hct;subst hct;have h':=h.again (d:=d) (a:=cB T false) (by rw [hff,ha]);cases b with
      |true=>exact hpass _ h' (by rw [hg];exact ⟨_,hmem,hidx,⟨d,hdst⟩,.inl ha⟩) hp
      |false=>exact htake _ h' (by rw [hg];exact ⟨_,hmem,hidx,⟨d,hdst⟩,ha⟩) hp
    ·rename_i u hc;have ha:ps[g].a=.raw (.tuple u):=by rw [hff] at hc;exact X5 hc
     exact hpass FF h (by rw [hg];exact ⟨_,hmem,hidx,⟨d,hdst⟩,.inr ⟨u,ha⟩⟩) hp
    ·cases hp
end
end Go.X
namespace Go.X
open Go.RowKit Go.V
section
variable {T:Tab}
def mkH (N:Nat) (f:Nat->Ent T.U):List (Ent T.U):=(List.range N).map f
def zn3 {N:Nat} {f:Nat->Ent T.U}:(mkH N f).length=N:=by simp [mkH]
def ze3 {N:Nat} {f:Nat->Ent T.U} {e:Nat} {x:Ent T.U}:(mkH N f)[e]?=some x↔e<N/\f e=x:=by
 unfold mkH;rw [W4];by_cases h:e<N
 ·rw [List.getElem?_range h];simp [h]
 ·rw [Y5 (by simpa using h)];simp [h]
def mkF (f:Nat->Option (AV T.U)):Nat->AF T
 |0=> []
 |n+1=>match f n with|some a=>(n,a)::mkF f n|none=>mkF f n
def ze2 {f:Nat->Option (AV T.U)} {t:Nat} {a:AV T.U}: ∀ {n:Nat},(mkF f n).get T t=some a↔t<n/\f t=some a
 |0=>by simp [mkF,AF.get]
 |n+1=>by
  unfold mkF;by_cases htn:t=n
  ·subst htn;split
   ·rename_i b hb;simp only [AF.get,J7];constructor
    ·intro h;exact ⟨by omega,by rw [hb];exact h⟩
    ·intro h;rw [hb] at h;exact h.2
   ·rename_i hb;rw [ze2];constructor
    ·intro h;omega
    ·intro h;rw [hb] at h;cases h.2
  ·have hne:Nat.beq n t=false:=by cases hb:Nat.beq n t;rfl;exact absurd (X1 hb).symm htn
   split
   ·simp only [AF.get,hne];rw [ze2];constructor<;>intro h<;>exact ⟨by omega,h.2⟩
   ·rw [ze2];constructor<;>intro h<;>exact ⟨by omega,h.2⟩
def zu5 (a:Act):Nat->PF
 |0=> []
 |n+1=>(n,a.tmps.getD n undef)::zu5 a n
def zl1 {a:Act} {t:Nat} {v:Value}: ∀ {n:Nat},(zu5 a n).get t=some v↔t<n/\a.tmps.getD t undef=v
 |0=>by simp [zu5,PF.get]
 |n+1=>by
  simp only [zu5,PF.get];by_cases htn:t=n
  ·subst htn;simp [J7]
  ·have hne:Nat.beq n t=false:=by cases hb:Nat.beq n t;rfl;exact absurd (X1 hb).symm htn
   rw [hne];simp only;rw [zl1];constructor<;>intro h<;>exact ⟨by omega,h.2⟩
def yh9 {a:Act} {n:Nat} {ds:List Deferred} (h1:a.tmps.size=n) (h2:a.defers=ds):Fr n ds (zu5 a n) a:=⟨h1,h2,fun i v hv=>by
 obtain ⟨h3,h4⟩:=zl1.1 hv;exact ⟨h4,h3⟩⟩
end
section
variable {T:Tab} {P:Program} {C:Ctx T} {ops:Array Oper} {n B:Nat} {F0:AF T} {H0:List (Ent T.U)} {rs:List (Rec T)}
def TrOk.idx (h:TrOk P C ops n B F0 H0 rs) {j:Nat} {r:Rec T} (hr:rs[j]?=some r):r.d.j=j:=by
 rw [(h j r hr).idx,Y6,V7 (Nat.le_of_lt (X2.1 hr).1)]
def zp3 {i j:Nat} {r:Rec T} (hij:i<j) (hr:rs[i]?=some r):r∈rs.take j:=X6 (i:=i) (by rw [Z3,if_pos hij];exact hr)
def TrOk.ord (h:TrOk P C ops n B F0 H0 rs) {i j:Nat} {r q:Rec T} (hij:i<j) (hr:rs[i]?=some r) (hq:rs[j]?=some q):r.d.ne<=q.d.nb:=(h j q hq).mono r (zp3 hij hr)
def zj7 {r:Rec T} {e:Nat} (h:upR r e≠none):(r.skip=false/\r.loc=none)/\((e<r.d.nb/\e∈r.d.tch/\e∈r.d.wr)\/(r.d.nb<=e/\e<r.H1.length)):=by
 unfold upR at h;split at h
 ·exact absurd rfl h
 ·rename_i hs;split at h
  ·exact absurd rfl h
  ·rename_i hl;refine ⟨⟨hs,hl⟩,?_⟩;split at h
   ·rename_i hlt;split at h
    ·rename_i h2;exact .inl ⟨hlt,h2.1,h2.2⟩
    ·exact absurd rfl h
   ·rename_i hlt;refine .inr ⟨by omega,?_⟩;apply Classical.byContradiction;intro hn;exact h (Y5 (by omega))
def jh2 {d:DR} {e:Nat} (h:d.wrE e=false):e∉d.wr/\ ¬(d.nb<=e/\e<d.ne):=by
 unfold DR.wrE at h;simp only [Bool.or_eq_false_iff,Bool.and_eq_false_imp] at h;refine ⟨fun hm=>(by rw [za9.2 hm] at h;cases h.1),fun ⟨h1,h2⟩=>?_⟩;have:=h.2 (W5 h1);rw [show Nat.blt e d.ne=true by rw [U8];exact h2] at this;cases this
def TrOk.later (h:TrOk P C ops n B F0 H0 rs) {D:Nat->Bool} (hcl: ∀i k,D i=true->Tp ops i k->D k=true) {j:Nat} {r:Rec T} (hr:rs[j]?=some r) (hD:D j=false) {e:Nat} (he:e∈r.d.tch/\e<r.d.nb\/r.d.nb<=e/\e<r.d.ne) {i:Nat} {q:Rec T} (hq:rs[i]?=some q) (hji:j<i) (hu:yt8 q e):D i=false:=by
 cases hDi:D i with
 |false=>rfl
 |true=>
  exfalso;have hqk:=(h i q hq);have hord:=h.ord hji hr hq;have hle:=(h j r hr).le.2;have hnot: ¬Tp ops q.d.j r.d.j:=fun t=>by
   rw [h.idx hq,h.idx hr] at t;have:=hcl i j hDi t;rw [hD] at this;cases this
  rcases hu with hu|⟨c,v,hl⟩
  ·obtain ⟨⟨hs,hln⟩,hc⟩:=zj7 hu;rcases (hqk.take hs hln).chk r (zp3 hji hr) with hchk|hchk
   ·exact hnot hchk
   ·rcases hc with ⟨g1,g2,g3⟩|⟨g1,g2⟩
    ·rcases he with ⟨k1,k2⟩|⟨k1,k2⟩
     ·exact hchk.wr e g3 k1
     ·exact (jh2 (hchk.tch e g2)).2 ⟨k1,k2⟩
    ·rcases he with ⟨k1,k2⟩|⟨k1,k2⟩<;>omega
  ·rcases (hqk.lok _ _ _ hl).chk r (zp3 hji hr) with hchk|hchk
   ·exact hnot hchk
   ·rcases he with ⟨k1,k2⟩|⟨k1,k2⟩
    ·exact hchk.l4 e c v hl k1
    ·rcases hchk.l3 e c _ hl with h3|⟨h3,_⟩
     ·exact (jh2 h3).2 ⟨k1,k2⟩
     ·cases h3
def yi6 {j:Nat} {r:Rec T} (hr:rs[j]?=some r):rs=rs.take j++r::rs.drop (j+1):=by
 obtain ⟨hlt,hg⟩:=X2.1 hr;rw [<-hg,<-List.drop_eq_getElem_cons hlt,Q8]
def yb6 {j:Nat} {q:Rec T} (h:q∈rs.drop (j+1)): ∃i,j<i/\rs[i]?=some q:=by
 obtain ⟨k,hk⟩:=Y9.1 h;rw [Q6] at hk;exact ⟨j+1+k,by omega,hk⟩
def zl3 {j:Nat} {q:Rec T} (h:q∈rs.take j): ∃i,i<j/\rs[i]?=some q:=by
 obtain ⟨k,hk⟩:=Y9.1 h;rw [Z3] at hk;split at hk
 ·rename_i hlt;exact ⟨k,hlt,hk⟩
 ·cases hk
def TrOk.touch (h:TrOk P C ops n B F0 H0 rs) {D:Nat->Bool} (hcl: ∀i k,D i=true->Tp ops i k->D k=true) {j:Nat} {r:Rec T} (hr:rs[j]?=some r) (hs:r.skip=false) (hln:r.loc=none) (hD:D j=false) (hpre: ∀k,Tp ops j k->D k=true) {e:Nat} (he:e∈r.d.tch):
  hF D rs (base H0) e=hF zh8 (rs.take j) (base H0) e:=by
 have hrk:=h j r hr;have htk:=hrk.take hs hln;have henb:=(htk.live e he).1
 conv=>lhs;rw [yi6 hr]
 rw [zz1];show hF D (rs.drop (j+1)) (match D r.d.j with|true=>_|false=>hF D (rs.take j) (base H0)) e=_;rw [h.idx hr,hD];simp only;rw [zp9 fun q hq hDq hu=>?_]
 ·refine zx8 rfl fun q hq hu=>?_;obtain ⟨i,hi,hqi⟩:=zl3 hq;show D q.d.j=true;rw [h.idx hqi];rcases htk.chk q hq with hc|hc
  ·rw [h.idx hr,h.idx hqi] at hc;exact hpre i hc
  ·exfalso;have hw:=jh2 (hc.tch e he);rcases hu with hu|⟨c,v,hl⟩
   ·obtain ⟨⟨hqs,hql⟩,hcc⟩:=zj7 hu;rcases hcc with ⟨_,_,g3⟩|⟨g1,g2⟩
    ·exact hw.1 g3
    ·rw [((h i q hqi).take hqs hql).ne] at g2;exact hw.2 ⟨g1,g2⟩
   ·exact hc.l1 e c v hl he
 ·obtain ⟨i,hi,hqi⟩:=yb6 hq;have:=h.later hcl hr hD (.inl ⟨he,henb⟩) hqi hi hu;rw [h.idx hqi,this] at hDq;cases hDq
def TrOk.laterL (h:TrOk P C ops n B F0 H0 rs) {D:Nat->Bool} (hcl: ∀i k,D i=true->Tp ops i k->D k=true) {j:Nat} {r:Rec T} (hr:rs[j]?=some r) (hD:D j=false) {k c:Nat} {sv:Option (AV T.U)} (hl:r.loc=some (k,c,sv)) {i:Nat} {q:Rec T} (hq:rs[i]?=some q) (hji:j<i) (hDi:D i=true) (hu:yt8 q k): ∃c' v',q.loc=some (k,c',some v')/\c≠c':=by
 have hqk:=h i q hq;have hrl:=(h j r hr).lok _ _ _ hl;have hord:=h.ord hji hr hq;have hnot: ¬Tp ops q.d.j r.d.j:=fun t=>by
  rw [h.idx hq,h.idx hr] at t;have:=hcl i j hDi t;rw [hD] at this;cases this
 rcases hu with hu|⟨c',v',hl'⟩
 ·exfalso;obtain ⟨⟨hs,hln⟩,hc⟩:=zj7 hu;rcases (hqk.take hs hln).chk r (zp3 hji hr) with hchk|hchk
  ·exact hnot hchk
  ·rcases hc with ⟨g1,g2,g3⟩|⟨g1,g2⟩
   ·exact hchk.l2 k c sv hl g3
   ·have:=hrl.lt;have:=hrl.ne;omega
 ·rcases (hqk.lok _ _ _ hl').chk r (zp3 hji hr) with hchk|hchk
  ·exact absurd hchk hnot
  ·exact ⟨c',v',hl',hchk.l5 k c' _ c sv hl' hl (.inl rfl)⟩
def TrOk.touchL (h:TrOk P C ops n B F0 H0 rs) {D:Nat->Bool} (hcl: ∀i k,D i=true->Tp ops i k->D k=true) {j:Nat} {r:Rec T} (hr:rs[j]?=some r) {k c:Nat} {sv:Option (AV T.U)} (hl:r.loc=some (k,c,sv)) (hD:D j=false) (hpre: ∀k,Tp ops j k->D k=true):
  simE c (hF D rs (base H0) k) (hF zh8 (rs.take j) (base H0) k):=by
 have hrl:=(h j r hr).lok _ _ _ hl;have e1:hF D rs (base H0) k=hF D (rs.drop (j+1)) (hF D (rs.take j) (base H0)) k:=by
  conv=>lhs;rw [yi6 hr]
  rw [zz1];show hF D (rs.drop (j+1)) (match D r.d.j with|true=>_|false=>_) k=_;rw [h.idx hr,hD]
 have e2:hF zh8 (rs.take j) (base H0) k=hF (fun _=>false) (rs.drop (j+1)) (hF zh8 (rs.take j) (base H0)) k:=(zp9 fun _ _ hq=>by cases hq).symm;rw [e1,e2];refine qs9 (qx4 (.inl rfl) fun i q hqt hu=>?_) fun q hq hu=>?_
 ·have hij:i<j:=by
   have:=(X2.1 hqt).1;rw [Y6] at this;omega
  have hqi:rs[i]?=some q:=by rwa [Z3,if_pos hij] at hqt
  have hq:=zp3 hij hqi;rcases hrl.chk q hq with hc|hc
  ·rw [h.idx hr,h.idx hqi] at hc;left;left;rw [h.idx hqi,hpre i hc];rfl
  ·rcases hu with hu|⟨c',v',hl'⟩
   ·obtain ⟨⟨hqs,hql⟩,hcc⟩:=zj7 hu;rcases hc.l3 k c sv hl with h3|⟨h3,h4⟩
    ·exfalso;have hw:=jh2 h3;rcases hcc with ⟨_,_,g3⟩|⟨g1,g2⟩
     ·exact hw.1 g3
     ·rw [((h i q hqi).take hqs hql).ne] at g2;exact hw.2 ⟨g1,g2⟩
    ·right;obtain ⟨_,_,x,y,m1,m2,m3,m4⟩:=(h i q hqi).kp k c h4;have htq:=(h i q hqi).take hqs hql;have hlt:k<q.d.nb:=by rw [<-htq.hlen];exact (X2.1 m1).1
     have hx:=htq.hm k hlt;rw [m1] at hx;simp only [X0] at hx;have hmem:k∈q.d.tch/\x=hF zh8 (rs.take i) (base H0) k:=by
      split at hx
      ·rename_i hm;exact ⟨hm,hx⟩
      ·subst hx;cases m3
     refine ⟨hql,rfl,y,?_,?_⟩
     ·rcases hcc with ⟨g1,g2,g3⟩|⟨g1,_⟩
      ·unfold upR;simp only [hqs,hql,if_pos hlt,if_pos (⟨g2,g3⟩:k∈q.d.tch/\k∈q.d.wr)];exact m2
      ·omega
     ·rw [List.take_take,V7 (Nat.le_of_lt hij),<-hmem.2];exact m4
   ·exact .inl (.inr ⟨c',v',hl',hc.l5 k c sv c' _ hl hl' (.inr rfl)⟩)
 ·obtain ⟨i,hi,hqi⟩:=yb6 hq;cases hDi:D q.d.j with
  |false=>exact .inl rfl
  |true=>
   rw [h.idx hqi] at hDi;obtain ⟨c',v',h1,h2⟩:=h.laterL hcl hr hD hl hqi hi hDi hu;exact .inr ⟨c',v',h1,Ne.symm h2⟩
def zh6 (D:Nat->Bool) (j:Nat):Nat->Bool:=fun i=>if i=j then true else D i
def TrOk.put (h:TrOk P C ops n B F0 H0 rs) {D:Nat->Bool} (hcl: ∀i k,D i=true->Tp ops i k->D k=true) {j:Nat} {r:Rec T} (hr:rs[j]?=some r) (hD:D j=false) (e:Nat):
  hF (zh6 D j) rs (base H0) e=upG r e (hF D rs (base H0) e):=by
 have hne: ∀(i:Nat) (q:Rec T),rs[i]?=some q->i≠j->zh6 D j q.d.j=D q.d.j:=fun i q hq hi=>by
  unfold zh6;rw [h.idx hq,if_neg hi]
 have hj:zh6 D j r.d.j=true:=by unfold zh6;rw [h.idx hr,if_pos rfl]
 have e1:hF (zh6 D j) (rs.take j) (base H0) e=hF D (rs.take j) (base H0) e:=zx8 rfl fun q hq _=>by
  obtain ⟨i,hi,hqi⟩:=zl3 hq;exact hne i q hqi (by omega)
 have lhs:hF (zh6 D j) rs (base H0) e=hF (zh6 D j) (rs.drop (j+1)) (fun e=>upG r e (hF (zh6 D j) (rs.take j) (base H0) e)) e:=by
  conv=>lhs;rw [yi6 hr]
  rw [zz1];show hF (zh6 D j) (rs.drop (j+1)) (match zh6 D j r.d.j with|true=>_|false=>_) e=_;rw [hj]
 have rhs:hF D rs (base H0) e=hF D (rs.drop (j+1)) (hF D (rs.take j) (base H0)) e:=by
  conv=>lhs;rw [yi6 hr]
  rw [zz1];show hF D (rs.drop (j+1)) (match D r.d.j with|true=>_|false=>_) e=_;rw [h.idx hr,hD]
 have hdr: ∀q∈rs.drop (j+1),zh6 D j q.d.j=D q.d.j:=fun q hq=>by
  obtain ⟨i,hi,hqi⟩:=yb6 hq;exact hne i q hqi (by omega)
 have lhs2:hF (zh6 D j) rs (base H0) e=hF D (rs.drop (j+1)) (fun e=>upG r e (hF (zh6 D j) (rs.take j) (base H0) e)) e:=by
  rw [lhs];exact zx8 rfl fun q hq _=>hdr q hq
 rw [lhs2,rhs];by_cases hu:yt8 r e
 ·rcases hu with hu|⟨c,v,hl⟩
  ·obtain ⟨⟨hs,hln⟩,hc⟩:=zj7 hu;have no: ∀q∈rs.drop (j+1),D q.d.j=true-> ¬yt8 q e:=fun q hq hDq hq2=>by
    obtain ⟨i,hi,hqi⟩:=yb6 hq;have hh:e∈r.d.tch/\e<r.d.nb\/r.d.nb<=e/\e<r.d.ne:=by
     rcases hc with ⟨g1,g2,_⟩|⟨g1,g2⟩
     ·exact .inl ⟨g2,g1⟩
     ·exact .inr ⟨g1,by rw [<-((h j r hr).take hs hln).ne];exact g2⟩
    have:=h.later hcl hr hD hh hqi hi hq2;rw [h.idx hqi,this] at hDq;cases hDq
   rw [zp9 no,zp9 no,e1]
  ·have up: ∀x,upG r e x=yn1 c v x:=fun x=>by unfold upG;rw [hl];simp only [if_true]
   rw [up];refine qx3 (by rw [up,e1]) fun q hq hDq hq2=>?_;obtain ⟨i,hi,hqi⟩:=yb6 hq;rw [h.idx hqi] at hDq;exact h.laterL hcl hr hD hl hqi hi hDq hq2
 ·rw [yn4 hu];exact zx8 (by rw [yn4 hu];exact e1) fun q hq _=>rfl
def jm6 {U:Nat->Type}:Ent U->Bool| .row _ _ _=>true|_=>false
def qr0 {c:Nat} {v:AV T.U} {x:Ent T.U}:jm6 (yn1 c v x)=jm6 x:=by
 cases x with
 |drow e d fe xs op=>cases op with
  |none=>rfl
  |some p=>obtain ⟨a,cs⟩:=p;rfl
 |_=>rfl
def TrOk.rowFrom (h:TrOk P C ops n B F0 H0 rs) {y:Nat} (hy:y<B): ∀(m:Nat) (D:Nat->Bool),jm6 (hF D (rs.take m) (base H0) y)=true->jm6 (base H0 y)=true
 |0,D,hr=>hr
 |m+1,D,hr=>by
  by_cases hm:m<rs.length
  ·rw [S9 hm,zz1] at hr;have hg:rs[m]?=some rs[m]:=Y0 hm;generalize rs[m]=r at hg hr;have hr:jm6 ((match D r.d.j with|true=>fun e=>upG r e (hF D (rs.take m) (base H0) e)|false=>hF D (rs.take m) (base H0)) y)=true:=hr;cases hD:D r.d.j with
   |false=>rw [hD] at hr;exact h.rowFrom hy m D hr
   |true=>
    rw [hD] at hr;have hr:jm6 (upG r y (hF D (rs.take m) (base H0) y))=true:=hr;unfold upG at hr;split at hr
    ·split at hr
     ·rw [qr0] at hr;exact h.rowFrom hy m D hr
     ·exact h.rowFrom hy m D hr
    ·cases hu:upR r y with
     |none=>rw [hu] at hr;exact h.rowFrom hy m D hr
     |some x=>
      rw [hu] at hr;have hrk:=h m r hg;obtain ⟨⟨hs,hln⟩,hc⟩:=zj7 (by rw [hu];simp:upR r y≠none);have htk:=hrk.take hs hln;have hle:=hrk.le.1;rcases hc with ⟨g1,g2,g3⟩|⟨g1,_⟩
      ·have hx:r.H1[y]?=some x:=by
        unfold upR at hu;rw [hs,hln] at hu;simp only at hu;rwa [if_pos g1,if_pos ⟨g2,g3⟩] at hu
       have hr:jm6 x=true:=hr;cases x with
       |row e t xs=>
        obtain ⟨ys,h1⟩:=htk.keeps.row y e t xs (by rw [htk.hlen];exact g1) hx;rw [htk.hm y g1,if_pos g2] at h1;refine h.rowFrom hy m zh8 ?_;rw [X5 h1];rfl
       |_=>cases hr
      ·omega
  ·rw [Q4 (by omega)] at hr;refine h.rowFrom hy m D ?_;rw [Q4 (by omega)];exact hr
def TrOk.free (h:TrOk P C ops n B F0 H0 rs) (hB:H0.length=B) {D:Nat->Bool} (hcl: ∀i k,D i=true->Tp ops i k->D k=true) {j:Nat} {r:Rec T} (hr:rs[j]?=some r) (hD:D j=false) {e:Nat} (h1:r.d.nb<=e) (h2:e<r.d.ne):hF D rs (base H0) e=.gone:=by
 have hle:=(h j r hr).le;rw [zp9 fun q hq hDq hu=>?_]
 ·unfold base;rw [Y5 (by omega)];rfl
 ·obtain ⟨i,hqi⟩:=Y9.1 hq;rw [h.idx hqi] at hDq;rcases M2 i j with hij|rfl|hij
  ·have ho:=h.ord hij hqi hr;have:=(h i q hqi).le.2;rcases hu with hu|⟨c,v,hl⟩
   ·obtain ⟨⟨hs,hln⟩,hc⟩:=zj7 hu;rcases hc with ⟨g1,_⟩|⟨_,g2⟩
    ·omega
    ·rw [((h i q hqi).take hs hln).ne] at g2;omega
   ·have:=((h i q hqi).lok _ _ _ hl).lt;omega
  ·rw [hD] at hDq;cases hDq
  ·have:=h.later hcl hr hD (.inr ⟨h1,h2⟩) hqi hij hu;rw [this] at hDq;cases hDq
def TrOk.okId (h:TrOk P C ops n B F0 H0 rs) {D:Nat->Bool} (hcl: ∀i k,D i=true->Tp ops i k->D k=true) {j:Nat} {r:Rec T} (hr:rs[j]?=some r) (hD:D j=false) {i:Nat} {q:Rec T} (hq:rs[i]?=some q) (hDi:D i=true) {x:Nat} (hx:kc8 B (rs.take i) ops q x):x<r.d.nb\/r.d.ne<=x:=by
 have hle:=(h j r hr).le;have key: ∀(i:Nat) (q:Rec T),rs[i]?=some q->D i=true->q.d.nb<=x->x<q.d.ne->x<r.d.nb\/r.d.ne<=x:=by
  intro i q hq hDi h1 h2;rcases M2 i j with hij|rfl|hij
  ·have:=h.ord hij hq hr;exact .inl (by omega)
  ·rw [hD] at hDi;cases hDi
  ·have:=h.ord hij hr hq;exact .inr (by omega)
 rcases hx with hx|⟨h1,h2⟩|⟨q',hq',h1,h2,t⟩
 ·exact .inl (by omega)
 ·exact key i q hq hDi h1 h2
 ·obtain ⟨k,hk,hqk⟩:=zl3 hq';rw [h.idx hq,h.idx hqk] at t;exact key k q' hqk (hcl i k hDi t) h1 h2
def TrOk.fid (hk:OkD ops n) (h:TrOk P C ops n B F0 H0 rs) (hF0: ∀t a,F0.get T t=some a-> ∀i∈a.ids,i<B) {D:Nat->Bool} (hcl: ∀i k,D i=true->Tp ops i k->D k=true) {j:Nat} {r:Rec T} (hr:rs[j]?=some r) (hD:D j=false) {t:Nat} {a:AV T.U} (ha:fF D rs (F0.get T) t=some a): ∀x∈a.ids,x<r.d.nb\/r.d.ne<=x:=by
 intro x hx;by_cases hw: ∃q∈rs,q.o.dst=some t
 ·obtain ⟨q,hq,hd⟩:=hw;rw [yg4 hq hd fun q' hq' hd'=>h.uniq hk hq' hq hd' hd] at ha;obtain ⟨i,hqi⟩:=Y9.1 hq;rw [h.idx hqi] at ha;cases hDi:D i with
  |false=>
   rw [hDi] at ha;have:=hF0 t a ha x hx;have hle:=(h j r hr).le;exact .inl (by omega)
  |true=>
   rw [hDi] at ha;simp only [X0] at ha;subst ha;cases hs:q.skip with
   |true=>rw [((h i q hqi).skip hs).1] at hx;cases hx
   |false=>
    cases hl:q.loc with
    |none=>exact h.okId hcl hr hD hqi hDi (((h i q hqi).take hs hl).ids x hx)
    |some p=>obtain ⟨k,c,sv⟩:=p;exact h.okId hcl hr hD hqi hDi (((h i q hqi).lok _ _ _ hl).ids x hx)
 ·rw [zj3 fun q hq hd=>hw ⟨q,hq,hd⟩] at ha;have:=hF0 t a ha x hx;have hle:=(h j r hr).le;exact .inl (by omega)
def vw8 {D:Nat->Bool} {e x:Nat}: ∀ {rs:List (Rec T)} {f:Nat->Ent T.U},x∈(hF D rs f e).cellIds->x∈(f e).cellIds\/ ∃r∈rs,D r.d.j=true/\((∃y,upR r e=some y/\x∈y.cellIds)\/ ∃c v,r.loc=some (e,c,some v)/\x∈v.ids)
 | [],f,h=>.inl h
 |r::rs,f,h=>by
  rcases vw8 (rs:=rs) (f:=match D r.d.j with|true=>fun e=>upG r e (f e)|false=>f) h with h1|⟨q,h1,h2,h3⟩
  ·cases hD:D r.d.j with
   |false=>rw [hD] at h1;exact .inl h1
   |true=>
    rw [hD] at h1;have h1:x∈(upG r e (f e)).cellIds:=h1;unfold upG at h1;split at h1
    ·rename_i k c v hl;split at h1
     ·rename_i he;subst he;rcases vu8 h1 with h1|h1
      ·exact .inl h1
      ·exact .inr ⟨r,U2 ..,hD,.inr ⟨c,v,hl,h1⟩⟩
     ·exact .inl h1
    ·cases hu:upR r e with
     |none=>rw [hu] at h1;exact .inl h1
     |some y=>rw [hu] at h1;exact .inr ⟨r,U2 ..,hD,.inl ⟨y,hu,h1⟩⟩
  ·exact .inr ⟨q,Z4 _ h1,h2,h3⟩
def kj2 {r:Rec T} {e:Nat} {x:Ent T.U} (h:upR r e=some x):(r.skip=false/\r.loc=none)/\x∈r.H1:=by
 obtain ⟨hs,_⟩:=zj7 (by rw [h];simp:upR r e≠none);refine ⟨hs,?_⟩;unfold upR at h;rw [hs.1,hs.2] at h;simp only at h;split at h
 ·split at h
  ·exact X6 h
  ·cases h
 ·exact X6 h
def TrOk.hid (h:TrOk P C ops n B F0 H0 rs) (hH0: ∀f∈H0,∀i∈f.cellIds,i<B) {D:Nat->Bool} (hcl: ∀i k,D i=true->Tp ops i k->D k=true) {j:Nat} {r:Rec T} (hr:rs[j]?=some r) (hD:D j=false) {e:Nat}: ∀x∈(hF D rs (base H0) e).cellIds,x<r.d.nb\/r.d.ne<=x:=by
 intro x hx;rcases vw8 hx with hx|⟨q,hq,hDq,h1⟩
 ·unfold base at hx;have hle:=(h j r hr).le;cases hg:H0[e]? with
  |none=>rw [hg] at hx;cases hx
  |some f=>
   rw [hg] at hx;have:=hH0 f (X6 hg) x hx;exact .inl (by omega)
 ·obtain ⟨i,hqi⟩:=Y9.1 hq;rw [h.idx hqi] at hDq;rcases h1 with ⟨y,h1,hx⟩|⟨c,v,hl,hx⟩
  ·obtain ⟨hs,hm⟩:=kj2 h1;exact h.okId hcl hr hD hqi hDq (((h i q hqi).take hs.1 hs.2).cids _ hm x hx)
  ·exact h.okId hcl hr hD hqi hDq (((h i q hqi).lok _ _ _ hl).vids v rfl x hx)
end
end Go.X
namespace Go.X
open Go.RowKit Go.V
section
variable {T:Tab} {P:Program} {C:Ctx T} {ops:Array Oper} {n B:Nat} {F0:AF T} {H0:List (Ent T.U)} {rs:List (Rec T)}
variable {w w':World} {S:List Nat} {φ:Nat->RA} {w0:World} {S0:Ow} {Q:Exit->Act->World->Prop} {ds:List Deferred}
def StD (rs:List (Rec T)) (F0:AF T) (H0:List (Ent T.U)) (n N:Nat) (D:Nat->Bool):St T:=⟨mkF (fF D rs (F0.get T)) n,mkH N (hF D rs (base H0))⟩
def TrOk.slotD (hk:OkD ops n) (h:TrOk P C ops n B F0 H0 rs) {D:Nat->Bool} {j:Nat} {r:Rec T} (hr:rs[j]?=some r) (hlen:rs.length=ops.size) (hpre: ∀k,Tp ops j k->D k=true) (hcl: ∀i k,D i=true->Tp ops i k->D k=true) (hD:D j=false) {t:Nat} (ht:t∈zm7 r.o++zp2 ops r.o):fF D rs (F0.get T) t=fF zh8 (rs.take j) (F0.get T) t:=by
 have hop:=(h j r hr).op;rw [h.idx hr] at hop;rcases hk.reads hop ht with ⟨k,hk1,hk2⟩|hno
 ·have hkj:=Tp.lt hk.back (.one hk1) (Y3.1 hop).1;have hkl:k<rs.length:=by have:=(X2.1 hr).1;omega
  have hg:=Y0 hkl;have hopk:=(h k _ hg).op;rw [h.idx hg] at hopk;have hd:rs[k].o.dst=some t:=by rw [<-zj5 hopk];exact hk2
  have hm:=X6 hg;rw [yg4 hm hd fun q hq hd'=>h.uniq hk hq hm hd' hd,yg4 (zp3 hkj hg) hd fun q hq hd'=>h.uniq hk (N0 hq) hm hd' hd,h.idx hg,hpre k (.one hk1)];rfl
 ·have late: ∀q∈rs,q.o.dst=some t-> ∃i,rs[i]?=some q/\i<ops.size/\Tp ops i j:=fun q hq hd=>by
   obtain ⟨i,hi⟩:=Y9.1 hq;have hopi:=(h i q hi).op;rw [h.idx hi] at hopi;have hlt:=(Y3.1 hopi).1;exact ⟨i,hi,hlt,hno i hlt (by rw [zj5 hopi];exact hd)⟩
  have htake:fF zh8 (rs.take j) (F0.get T) t=F0.get T t:=zj3 fun q hq hd=>by
   obtain ⟨k,hkj,hqk⟩:=zl3 hq;obtain ⟨i,hi,hlt,tp⟩:=late q (N0 hq) hd;have e:i=k:=by rw [<-h.idx hi,<-h.idx hqk]
   subst e;have:=Tp.lt hk.back tp hlt;omega
  rw [htake];by_cases hw: ∃q∈rs,q.o.dst=some t
  ·obtain ⟨q,hq,hd⟩:=hw;obtain ⟨i,hi,_,tp⟩:=late q hq hd;rw [yg4 hq hd fun q' hq' hd'=>h.uniq hk hq' hq hd' hd,h.idx hi];cases hDi:D i with
   |false=>rfl
   |true=>have:=hcl i j hDi tp;rw [hD] at this;cases this
  ·exact zj3 fun q hq hd=>hw ⟨q,hq,hd⟩
def TrOk.slotPut (hk:OkD ops n) (h:TrOk P C ops n B F0 H0 rs) {D:Nat->Bool} {j:Nat} {r:Rec T} (hr:rs[j]?=some r) (t:Nat):fF (zh6 D j) rs (F0.get T) t=if r.o.dst=some t then some r.a else fF D rs (F0.get T) t:=by
 by_cases hw: ∃q∈rs,q.o.dst=some t
 ·obtain ⟨q,hq,hd⟩:=hw;rw [yg4 hq hd fun q' hq' hd'=>h.uniq hk hq' hq hd' hd,yg4 hq hd fun q' hq' hd'=>h.uniq hk hq' hq hd' hd];obtain ⟨i,hqi⟩:=Y9.1 hq;by_cases hij:i=j
  ·subst hij;rw [hr] at hqi;have:=X5 hqi;subst this;rw [if_pos hd];unfold zh6;rw [h.idx hr,if_pos rfl]
  ·have:r.o.dst≠some t:=fun hd'=>hij (by
    have:=h.uniq hk hq (X6 hr) hd hd';subst this;rw [<-h.idx hqi,<-h.idx hr])
   rw [if_neg this];unfold zh6;rw [h.idx hqi,if_neg hij]
 ·have none: ∀q∈rs,q.o.dst≠some t:=fun q hq hd=>hw ⟨q,hq,hd⟩;rw [zj3 none,zj3 none,if_neg (none r (X6 hr))]
def jc0 {a:Act} {dst:Option Tmp} {v:Value} {n:Nat} (hs:a.tmps.size=n) (hd:zh5 n dst=true):(a.put dst v).tmps.size=n/\(a.put dst v).defers=a.defers/\ ∀t,t<n->(a.put dst v).tmps.getD t undef=if dst=some t then v else a.tmps.getD t undef:=by
 cases dst with
 |none=>exact ⟨hs,rfl,fun t _=>by rw [if_neg (by simp)];rfl⟩
 |some d=>
  have hdn:d<n:=by simpa [zh5,U8] using hd
  refine ⟨by simpa [Act.put] using hs,rfl,fun t ht=>?_⟩;simp only [Act.put];rw [Y7,Array.getElem?_setIfInBounds,Y7];by_cases hdt:d=t
  ·subst hdt;rw [if_pos rfl,if_pos (by omega),if_pos rfl];rfl
  ·rw [if_neg hdt,if_neg (by simpa using hdt)]
def ql2 (hk:OkD ops n) (h:TrOk P C ops n B F0 H0 rs) {D:Nat->Bool} {j N:Nat} {r:Rec T} (hr:rs[j]?=some r) {H2:List (Ent T.U)} {a:Act} {v:Value} (hsz:a.tmps.size=n) (hs:Sim T w0 S0 ⟨mkF (fF D rs (F0.get T)) n,H2⟩ (zu5 a n) w S φ)
  (hv:r.o.dst≠none->VR T w S φ r.a v/\okA H2 r.a):Sim T w0 S0 ⟨mkF (fF (zh6 D j) rs (F0.get T)) n,H2⟩ (zu5 (a.put r.o.dst v) n) w S φ:=by
 obtain ⟨_,_,hget⟩:=jc0 (v:=v) hsz (h j r hr).dst;refine ⟨fun t b hb=>?_,fun t b hb=>?_,hs.chg,hs.own,hs.ex,hs.lives,hs.pins,hs.ents,hs.eids,hs.apart⟩
 ·obtain ⟨ht,hb⟩:=ze2.1 hb;rw [h.slotPut hk hr] at hb;split at hb
  ·rename_i hd;simp only [X0] at hb;subst hb;exact ⟨v,zl1.2 ⟨ht,by rw [hget t ht,if_pos hd]⟩,(hv (by rw [hd];simp)).1⟩
  ·rename_i hd;obtain ⟨u,hu,hur⟩:=hs.fr t b (ze2.2 ⟨ht,hb⟩);exact ⟨u,zl1.2 ⟨ht,by rw [hget t ht,if_neg hd];exact (zl1.1 hu).2⟩,hur⟩
 ·obtain ⟨ht,hb⟩:=ze2.1 hb;rw [h.slotPut hk hr] at hb;split at hb
  ·rename_i hd;simp only [X0] at hb;subst hb;exact (hv (by rw [hd];simp)).2
  ·exact hs.ids t b (ze2.2 ⟨ht,hb⟩)
def gb6 (hk:OkD ops n) (hE:za0 T P C.E) (h:TrOk P C ops n B F0 H0 rs) (hlen:rs.length=ops.size) (hB:H0.length=B) (hF0: ∀t a,F0.get T t=some a->t<n/\ ∀i∈a.ids,i<B) (hH0: ∀f∈H0,∀i∈f.cellIds,i<B) (hpin:S0.pin.length<=B)
  {N:Nat} (hN: ∀q∈rs,q.d.ne<=N) {D:Nat->Bool} (hcl: ∀i k,D i=true->Tp ops i k->D k=true) {j:Nat} {r:Rec T} (hr:rs[j]?=some r) (hD:D j=false) (hpre: ∀k,Tp ops j k->D k=true) (hsk:r.skip=false) (hln:r.loc=none)
  {a:Act} (hsz:a.tmps.size=n) (hdf:a.defers=ds) (hs:Sim T w0 S0 (StD rs F0 H0 n N D) (zu5 a n) w S φ):
  r.o.wp P a w (fun a' w'=>a'.tmps.size=n/\a'.defers=ds/\ ∃S1 φ1,Sim T w0 S0 (StD rs F0 H0 n N (zh6 D j)) (zu5 a' n) w' S1 φ1) Q:=by
 have hrk:=h j r hr;have htk:=hrk.take hsk hln;have hnN:=hN r (X6 hr);have htch: ∀e∈r.d.tch,hF D rs (base H0) e=hF zh8 (rs.take j) (base H0) e:=fun e he=>h.touch hcl hr hsk hln hD hpre he;have hHm: ∀(e:Nat) (f:Ent T.U),r.Hm[e]?=some f->f=.gone\/(e∈r.d.tch/\(mkH N (hF D rs (base H0)))[e]?=some f):=by
  intro e f hf;have hlt:=(X2.1 hf).1;rw [htk.hlen] at hlt;rw [htk.hm e hlt] at hf;simp only [X0] at hf;split at hf
  ·rename_i he;exact .inr ⟨he,ze3.2 ⟨by have:=hrk.le.2;omega,by rw [htch e he];exact hf⟩⟩
  ·exact .inl hf.symm
 have hsub:Sim T w ⟨r.d.tch.flatMap fun e=>(φ e).all,S,(List.range r.d.nb).map φ⟩ ⟨r.F,r.Hm⟩ (zu5 a n) w S φ:=by
  have hfr: ∀t x,r.F.get T t=some x->(mkF (fF D rs (F0.get T)) n).get T t=some x:=by
   intro t x hx;obtain ⟨h1,h2⟩:=htk.fr t x hx;have h3:=h.slotD hk hr hlen hpre hcl hD (t:=t) (X4.2 (.inl h1));refine ze2.2 ⟨?_,by rw [h3];exact h2⟩;by_cases hw: ∃q∈rs.take j,q.o.dst=some t
   ·obtain ⟨q,hq,hd⟩:=hw;obtain ⟨i,_,hqi⟩:=zl3 hq;have hopi:=(h i q hqi).op;exact hk.dst q.d.j t (Y3.1 hopi).1 (by rw [zj5 hopi];exact hd)
   ·rw [zj3 fun q hq hd=>hw ⟨q,hq,hd⟩] at h2;exact (hF0 t x h2).1
  refine ⟨fun t x hx=>hs.fr t x (hfr t x hx),fun t x hx=>⟨fun i hi=>by simp only [htk.hlen];exact htk.fid t x hx i hi,?_⟩,Chg.refl _ _,fun b hb=>⟨.inl hb,(hs.own b hb).2⟩,fun b hb _ _=>hb,fun e f hf hl x hx=>?_,fun k q hq=>?_,fun e f hf=>?_,fun e f hf i hi=>by simp only [htk.hlen];exact htk.eids f (X6 hf) i hi,fun i k f f' hf hf' hl hl' hik x y hx hy=>?_⟩
  ·obtain ⟨_,h2⟩:=hs.ids t x (hfr t x hx);cases x with
   |eptr y sz k c=>
    intro e1 t1 xs hxs;rcases hHm y _ hxs with h3|⟨_,h3⟩
    ·cases h3
    ·exact h2 e1 t1 xs h3
   |_=>trivial
  ·rcases hHm e f hf with rfl|⟨h1,h2⟩
   ·cases hl
   ·exact ⟨(hs.lives e f h2 hl x hx).1,.inl (V8.2 ⟨e,h1,zn2.2 ⟨x,hx,rfl⟩⟩)⟩
  ·have hlt:=(X2.1 hq).1;simp at hlt;simp [hlt] at hq;exact ⟨.of hq,by simp only [htk.hlen];exact hlt⟩
  ·rcases hHm e f hf with rfl|⟨_,h2⟩
   ·trivial
   ·exact hs.ents e f h2
  ·rcases hHm i f hf with rfl|⟨_,h2⟩
   ·cases hl
   ·rcases hHm k f' hf' with rfl|⟨_,h2'⟩
    ·cases hl'
    ·exact hs.apart i k f f' h2 h2' hl hl' hik x y hx hy
 obtain ⟨Fz,hstep⟩:=htk.step;have hop:=jq6 (Q:=Q) (ds:=ds) hE hstep hrk.dst htk.ns htk.pre hsub (yh9 hsz hdf);refine Oper.wp_mono (fun a' w' hX=>?_) hop;obtain ⟨F1,⟨S1,φ1,hst⟩,hfr1,v,rfl⟩:=hX;obtain ⟨hsz',hdf',hget⟩:=jc0 (v:=v) hsz hrk.dst;refine ⟨hsz',by rw [hdf',hdf],?_⟩;have hup: ∀e,hF (zh6 D j) rs (base H0) e=(upR r e).getD (hF D rs (base H0) e):=fun e=>(h.put hcl hr hD e).trans (jj7 hln ..);have hnb:=hrk.le.2;obtain ⟨φ2,g1,g2⟩:=hs.frame2 (tch:=r.d.tch) (nb:=r.d.nb) hst (by rw [htk.ne];exact hnb) (by rw [zn3,htk.ne];exact hnN) (by have:=hrk.le.1;omega)
  (fun e he=>⟨(htk.live e he).1,_,ze3.2 ⟨by have:=(htk.live e he).1;omega,rfl⟩,by rw [htch e he];exact (htk.live e he).2⟩)
  (fun e h1 h2=>ze3.2 ⟨by rw [htk.ne] at h2;omega,h.free hB hcl hr hD h1 (by rw [<-htk.ne];exact h2)⟩) (H2:=mkH N (hF (zh6 D j) rs (base H0))) (by rw [zn3,zn3])
  (fun e f hf=>by
   obtain ⟨he,hf⟩:=ze3.1 hf;rw [hup] at hf;by_cases ht:e∈r.d.tch
   ·refine .inl ⟨ht,?_⟩;have hlt:=(htk.live e ht).1;have hg:r.H1[e]?=some (r.H1[e]'(by rw [htk.ne];omega)):=Y0 _;by_cases hw:e∈r.d.wr
    ·have:upR r e=r.H1[e]?:=by unfold upR;rw [hsk,hln];simp only;rw [if_pos hlt,if_pos ⟨ht,hw⟩]
     rw [this,hg,V2] at hf;rw [hg,hf]
    ·have:upR r e=none:=by unfold upR;rw [hsk,hln];simp only;rw [if_pos hlt,if_neg (fun q=>hw q.2)]
     rw [this,N5] at hf;rw [htk.keeps.same e (by rw [htk.hlen];exact hlt) hw,htk.hm e hlt,if_pos ht,<-htch e ht,hf]
   ·by_cases hin:r.d.nb<=e/\e<r.d.ne
    ·refine .inr (.inl ⟨hin.1,?_⟩);have hg:r.H1[e]?=some (r.H1[e]'(by rw [htk.ne];exact hin.2)):=Y0 _;have:upR r e=r.H1[e]?:=by unfold upR;rw [hsk,hln];simp only;rw [if_neg (by omega)]
     rw [this,hg,V2] at hf;rw [hg,hf]
    ·have:upR r e=none:=by
      unfold upR;rw [hsk,hln];simp only;by_cases hlt:e<r.d.nb
      ·rw [if_pos hlt,if_neg (fun q=>ht q.1)]
      ·rw [if_neg hlt,Y5 (by rw [htk.ne];omega)]
     rw [this,N5] at hf;exact .inr (.inr ⟨ht,by rw [htk.ne];omega,ze3.2 ⟨he,hf⟩⟩))
  (fun e ty t ys he hy=>by
   have hlt:=(htk.live e he).1;obtain ⟨xs,hx⟩:=htk.keeps.row e ty t ys (by rw [htk.hlen];exact hlt) hy;rcases hHm e _ hx with h3|⟨_,h3⟩
   ·cases h3
   ·exact ⟨xs,h3⟩)
  (fun t x hx=>by
   rw [htk.ne];exact h.fid hk (fun t a ha=>(hF0 t a ha).2) hcl hr hD (ze2.1 hx).2)
  (fun e f hf _=>by
   rw [htk.ne];obtain ⟨_,rfl⟩:=ze3.1 hf;exact h.hid hH0 hcl hr hD)
 refine ⟨S1,φ2,ql2 hk h (N:=N) hr hsz g1 fun hdn=>?_⟩;obtain ⟨d,hd⟩: ∃d,r.o.dst=some d:=by
  cases hd:r.o.dst with
  |none=>exact absurd hd hdn
  |some d=>exact ⟨d,rfl⟩
 have hslot:(za1 T Fz r.o.dst r.a).get T d=some r.a:=by rw [hd];simp only [za1,AF.get,J7]
 obtain ⟨u,hu1,hu2⟩:=hst.fr d r.a hslot;obtain ⟨ho1,ho2⟩:=hst.ids d r.a hslot;have hdn':d<n:=by have:=hrk.dst;rw [hd] at this;simpa [zh5,U8] using this
 have huv:u=v:=by
  have:=(hfr1.val d u hu1).1;rw [hget d hdn',if_pos hd] at this;exact this.symm
 subst huv;refine ⟨g2 r.a u hu2 ho1,fun i hi=>?_,?_⟩
 ·have h1:=ho1 i hi;simp only [htk.ne] at h1;rw [zn3];omega
 ·cases hra:r.a with
  |eptr y sz k c=>
   rw [hra] at ho1 ho2;intro e1 t1 xs hxs;have hy:y<r.H1.length:=ho1 y (by simp [AV.ids]);obtain ⟨_,hf⟩:=ze3.1 hxs;rw [hup] at hf;have hg:r.H1[y]?=some (r.H1[y]'hy):=Y0 _;by_cases hlt:y<r.d.nb
   ·by_cases ht:y∈r.d.tch
    ·refine ho2 e1 t1 xs ?_;by_cases hw:y∈r.d.wr
     ·have:upR r y=r.H1[y]?:=by unfold upR;rw [hsk,hln];simp only;rw [if_pos hlt,if_pos ⟨ht,hw⟩]
      rw [this,hg,V2] at hf;rw [<-hf];exact hg
     ·have:upR r y=none:=by unfold upR;rw [hsk,hln];simp only;rw [if_pos hlt,if_neg (fun q=>hw q.2)]
      rw [this,N5] at hf;show r.H1[y]?=_;rw [htk.keeps.same y (by rw [htk.hlen];exact hlt) hw,htk.hm y hlt,if_pos ht,<-htch y ht,hf]
    ·have:=htk.ep;rw [hra] at this;simp only [kk4,J3] at this;rcases this with h5|h5|h5
     ·exact absurd (za9.1 h5) ht
     ·have:=Y1 h5;omega
     ·exfalso;have hyB:y<B:=by
       unfold kl2 at h5;split at h5
       ·rename_i hx;have:=(X2.1 hx).1;omega
       ·cases h5
      have h6:=h.rowFrom hyB rs.length (zh6 D j) (by rw [T2,hup,hf];rfl);unfold kl2 at h5;unfold base at h6;split at h5
      ·rename_i hx;rw [hx] at h6;cases h6
      ·cases h5
   ·have:upR r y=r.H1[y]?:=by unfold upR;rw [hsk,hln];simp only;rw [if_neg hlt]
    rw [this,hg,V2] at hf;refine ho2 e1 t1 xs ?_;rw [<-hf];exact hg
  |_=>trivial
def qp7 {F F':AF T} (hF: ∀t a,F.get T t=some a->F'.get T t=some a) {o:Oper} (h:zs3 F o=true):zs3 F' o=true:=by
 unfold zs3 at h⊢;rw [Y8] at h⊢;intro x hx;obtain ⟨a,ha⟩:=N6.1 (h x hx);rw [zx6 hF ha];rfl
def gb7 (hk:OkD ops n) (hE:za0 T P C.E) (h:TrOk P C ops n B F0 H0 rs) (hlen:rs.length=ops.size) {N:Nat} (hN: ∀q∈rs,q.d.ne<=N) (hF0: ∀t a,F0.get T t=some a->t<n/\ ∀i∈a.ids,i<B)
  {D:Nat->Bool} (hcl: ∀i k,D i=true->Tp ops i k->D k=true) {j:Nat} {r:Rec T} (hr:rs[j]?=some r) {k c:Nat} {sv:Option (AV T.U)} (hl:r.loc=some (k,c,sv)) (hD:D j=false) (hpre: ∀k,Tp ops j k->D k=true)
  {a:Act} (hsz:a.tmps.size=n) (hdf:a.defers=ds) (hs:Sim T w0 S0 (StD rs F0 H0 n N D) (zu5 a n) w S φ):
  r.o.wp P a w (fun a' w'=>a'.tmps.size=n/\a'.defers=ds/\ ∃S1 φ1,Sim T w0 S0 (StD rs F0 H0 n N (zh6 D j)) (zu5 a' n) w' S1 φ1) Q:=by
 have hrk:=h j r hr;have hlk:=hrk.lok _ _ _ hl;have hkN:k<N:=by have:=hN r (X6 hr);have:=hlk.lt;have:=hrk.le.2;omega
 have hfr: ∀t x,r.F.get T t=some x->(mkF (fF D rs (F0.get T)) n).get T t=some x:=by
  intro t x hx;obtain ⟨h1,h2⟩:=hlk.fr t x hx;have h3:=h.slotD hk hr hlen hpre hcl hD (t:=t) (X4.2 (.inl h1));refine ze2.2 ⟨?_,by rw [h3];exact h2⟩;by_cases hw: ∃q∈rs.take j,q.o.dst=some t
  ·obtain ⟨q,hq,hd⟩:=hw;obtain ⟨i,_,hqi⟩:=zl3 hq;have hopi:=(h i q hqi).op;exact hk.dst q.d.j t (Y3.1 hopi).1 (by rw [zj5 hopi];exact hd)
  ·rw [zj3 fun q hq hd=>hw ⟨q,hq,hd⟩] at h2;exact (hF0 t x h2).1
 have hst:=hlk.step _ (mkH N (hF D rs (base H0))) _ hfr (ze3.2 ⟨hkN,rfl⟩) (h.touchL hcl hr hl hD hpre);have hop:=jq6 (Q:=Q) (ds:=ds) hE hst hrk.dst hlk.ns (qp7 hfr hlk.pre) hs (yh9 hsz hdf);refine Oper.wp_mono (fun a' w' hX=>?_) hop;obtain ⟨F1,⟨S1,φ1,hst1⟩,hfr1,v,rfl⟩:=hX;obtain ⟨hsz',hdf',_⟩:=jc0 (v:=v) hsz hrk.dst;refine ⟨hsz',by rw [hdf',hdf],S1,φ1,?_⟩;have hH:qg7 k c sv (hF D rs (base H0) k) (mkH N (hF D rs (base H0)))=mkH N (hF (zh6 D j) rs (base H0)):=by
  apply R9;intro e;by_cases he:e<N
  ·rw [ze3.2 ⟨he,rfl⟩,h.put hcl hr hD];cases sv with
   |none=>
    show (mkH N (hF D rs (base H0)))[e]?=_;rw [ze3.2 ⟨he,rfl⟩];have hup:upR r e=none:=by unfold upR;rw [hlk.skip,hl]
    unfold upG;rw [hl];simp only [hup,N5]
   |some u=>
    show ((mkH N (hF D rs (base H0))).set k _)[e]?=_;unfold upG;rw [hl];simp only;by_cases hek:e=k
    ·subst hek;rw [Q0 (by rw [zn3];exact he),if_pos rfl]
    ·rw [Z5 (Ne.symm hek),if_neg hek,ze3.2 ⟨he,rfl⟩]
  ·rw [Y5 (by cases sv<;>simp [qg7,zn3]<;>omega),Y5 (by rw [zn3];omega)]
 rw [hH] at hst1;have hget: ∀t b,(mkF (fF (zh6 D j) rs (F0.get T)) n).get T t=some b->t<n/\(za1 T (mkF (fF D rs (F0.get T)) n) r.o.dst r.a).get T t=some b:=by
  intro t b hb;obtain ⟨ht,hb⟩:=ze2.1 hb;refine ⟨ht,?_⟩;rw [h.slotPut hk hr] at hb;cases hd:r.o.dst with
  |none=>rw [hd,if_neg (by simp)] at hb;exact ze2.2 ⟨ht,hb⟩
  |some d=>
   rw [hd] at hb;simp only [za1,AF.get];cases hdt:Nat.beq d t with
   |true=>have:=X1 hdt;subst this;rw [if_pos rfl] at hb;exact hb
   |false=>
    rw [if_neg (fun e=>by cases e;simp at hdt)] at hb;exact ze2.2 ⟨ht,hb⟩
 refine ⟨fun t b hb=>?_,fun t b hb=>hst1.ids t b (hget t b hb).2,hst1.chg,hst1.own,hst1.ex,hst1.lives,hst1.pins,hst1.ents,hst1.eids,hst1.apart⟩;obtain ⟨ht,hb⟩:=hget t b hb;obtain ⟨u,h1,h2⟩:=hst1.fr t b hb;exact ⟨u,zl1.2 ⟨ht,(hfr1.val t u h1).1⟩,h2⟩
def Sim.sub2 {FF:AF T} {HH:List (Ent T.U)} {F':PF} (hs:Sim T w0 S0 ⟨FF,HH⟩ F' w S φ) {Fr:AF T} {Hm:List (Ent T.U)} {tch:List Nat} {nb:Nat} (hfr: ∀t x,Fr.get T t=some x->FF.get T t=some x) (hHm: ∀(e:Nat) (f:Ent T.U),Hm[e]?=some f->f=.gone\/(e∈tch/\HH[e]?=some f))
  (hlen:Hm.length=nb) (hfid: ∀t x,Fr.get T t=some x-> ∀i∈x.ids,i<nb) (heids: ∀f∈Hm,∀i∈f.cellIds,i<nb):Sim T w ⟨tch.flatMap fun e=>(φ e).all,S,(List.range nb).map φ⟩ ⟨Fr,Hm⟩ F' w S φ:=by
 refine ⟨fun t x hx=>hs.fr t x (hfr t x hx),fun t x hx=>⟨fun i hi=>by simp only [hlen];exact hfid t x hx i hi,?_⟩,Chg.refl _ _,fun b hb=>⟨.inl hb,(hs.own b hb).2⟩,fun b hb _ _=>hb,fun e f hf hl x hx=>?_,fun k q hq=>?_,fun e f hf=>?_,fun e f hf i hi=>by simp only [hlen];exact heids f (X6 hf) i hi,fun i k f f' hf hf' hl hl' hik x y hx hy=>?_⟩
 ·obtain ⟨_,h2⟩:=hs.ids t x (hfr t x hx);cases x with
  |eptr y sz k c=>
   intro e1 t1 xs hxs;rcases hHm y _ hxs with h3|⟨_,h3⟩
   ·cases h3
   ·exact h2 e1 t1 xs h3
  |_=>trivial
 ·rcases hHm e f hf with rfl|⟨h1,h2⟩
  ·cases hl
  ·exact ⟨(hs.lives e f h2 hl x hx).1,.inl (V8.2 ⟨e,h1,zn2.2 ⟨x,hx,rfl⟩⟩)⟩
 ·have hlt:=(X2.1 hq).1;simp at hlt;simp [hlt] at hq;exact ⟨.of hq,by simp only [hlen];exact hlt⟩
 ·rcases hHm e f hf with rfl|⟨_,h2⟩
  ·trivial
  ·exact hs.ents e f h2
 ·rcases hHm i f hf with rfl|⟨_,h2⟩
  ·cases hl
  ·rcases hHm k f' hf' with rfl|⟨_,h2'⟩
   ·cases hl'
   ·exact hs.apart i k f f' h2 h2' hl hl' hik x y hx hy
def Oper.wp_pan {o:Oper} {a:Act} {w:World} {K K':Act->World->Prop} {Q Q':Exit->Act->World->Prop} (hK: ∀a w,K a w->False) (hQ: ∀ch w',Q (.panic ch) a w'->Q' (.panic ch) a w') (hO: ∀a w,Q .outgrown a w->False)
  (h:o.wp P a w K Q):o.wp P a w K' Q':=by
 unfold Oper.wp at h⊢;generalize (execOp a.eval o).run P w=r at h⊢;unfold Oper.upon at h⊢;split at h
 ·exact (hK _ _ h).elim
 ·exact (hK _ _ h).elim
 ·exact (hK _ _ h).elim
 ·refine h.mono fun e w' hq=>?_;cases e with
  |returned v=>exact (hK _ _ hq).elim
  |panicked ch=>exact hQ _ _ hq
  |outgrown=>obtain ⟨a1,w1,h1⟩:=hq;exact (hO _ _ h1).elim
 ·exact h.mono fun v w' hq=>(hK _ _ hq).elim
 ·exact hQ _ _ h
 ·exact h.elim
def vg3 {o:Oper} {F:AF T} {H:List (Ent T.U)} {F':PF} (hE:za0 T P C.E) {a0:AV T.U} {Hp:List (Ent T.U)} (hs:zg1 P C o ⟨F,H⟩ (fun _=>none) (fun a st=>some (a,st.H))=some (a0,Hp)) (hdst:zh5 n o.dst=true) (hns:za6 o=true) (hpre:zs3 F o=true) (h:Sim T w0 S0 ⟨F,H⟩ F' w S φ) {a:Act} (ha:Fr n ds F' a)
  {K:Act->World->Prop} (HP: ∀v w' S1 φ1 F1 Fc,Sim T w0 S0 ⟨Fc,Hp⟩ F1 w' S1 φ1->VR T w' S1 φ1 a0 v->Q (.panic [{v:=v,recovered:=false}]) a w'):o.wp P a w K Q:=by
 let o':Oper:= {o with guard:=none}
 have hd:dec #[o'] 0 n F'=some o':=by
  unfold dec;have hw:zx4 #[o'] F' o'=some true:=rfl;have hp:zz9 F' o'=true:=yk7 (o:=o') h.fr hpre;have h1:zh5 n o'.dst=true:=hdst;have h2:za6 o'=true:=hns;simp only [List.getElem?_toArray,Y4,hw,hp,h1,h2,N7]
 have hs':zg1 P C o' ⟨F,H⟩ (fun _=>none) (fun a st=>some (a,st.H))=some (a0,Hp):=by
  cases o;exact hs
 have hwr:=yz7 (Q:=fun e _ w'=> ∃v S1 φ1 F1 Fc,e=.panic [{v:=v,recovered:=false}]/\Sim T w0 S0 ⟨Fc,Hp⟩ F1 w' S1 φ1/\VR T w' S1 φ1 a0 v) (ds:=ds) hE hd hs' h (fun st hst=>by cases hst) (fun a1 st hst=>by
  simp only [X0,X7] at hst;obtain ⟨rfl,rfl⟩:=hst;intro F1 w1 S1 φ1 v k1 k2 _ act _;exact ⟨v,S1,φ1,F1,st.F,rfl,k1,k2⟩)
 have hw:=hwr a ha;unfold wpList at hw;have hwant:Region.wanted o' (yielded #[o'] a.tmps)=true:=(zj4 hd).2.2.2.2 ha;have hcons:(#[o']:Array Oper).toList.drop 0= [o']:=rfl;rw [hcons] at hw;simp only [hwant,if_true] at hw;have bad: ∀ {a1:Act} {w1:World},wpList P #[o'] (fun e _ w'=> ∃v S1 φ1 F1 Fc,e=.panic [{v:=v,recovered:=false}]/\Sim T w0 S0 ⟨Fc,Hp⟩ F1 w' S1 φ1/\VR T w' S1 φ1 a0 v) [] a1 w1->False:=by
  intro a1 w1 h1;unfold wpList at h1;obtain ⟨v,_,_,_,_,he,_⟩:=h1;cases he
 rcases hw with hw|⟨_,a1,w1,h1⟩
 ·refine jj8 (g:=none) ?_;refine Oper.wp_pan (o:=o') (fun _ _ h=>bad h) (fun ch w' hq=>?_) (fun _ _ hq=>?_) hw
  ·obtain ⟨v,S1,φ1,F1,Fc,he,k1,k2⟩:=hq;cases he;exact HP v w' S1 φ1 F1 Fc k1 k2
  ·obtain ⟨v,_,_,_,_,he,_⟩:=hq;cases he
 ·obtain ⟨v,_,_,_,_,he,_⟩:=h1;cases he
def ys3 {l:List Nat} {t:Nat} {a:AV T.U}: ∀ {F:AF T},(qg4 T l F).get T t=some a->F.get T t=some a/\t∉l
 | [],h=>by simp [qg4,AF.get] at h
 |(q,b)::r,h=>by
  unfold qg4 at h;split at h
  ·rename_i hm;obtain ⟨h1,h2⟩:=ys3 h;refine ⟨?_,h2⟩;simp only [AF.get];split
   ·rename_i hb;have:=X1 hb;subst this;exact absurd (za9.1 hm) h2
   ·exact h1
  ·rename_i hm;simp only [AF.get] at h⊢;split at h
   ·rename_i hb;have:=X1 hb;subst this;refine ⟨h,fun hq=>?_⟩;rw [za9.2 hq] at hm;cases hm
   ·exact ys3 h
def ge7 (hk:OkD ops n) (hE:za0 T P C.E) (h:TrOk P C ops n B F0 H0 rs) (hlen:rs.length=ops.size) (hB:H0.length=B) (hF0: ∀t a,F0.get T t=some a->t<n/\ ∀i∈a.ids,i<B) (hH0: ∀f∈H0,∀i∈f.cellIds,i<B) (hpin:S0.pin.length<=B)
  {N:Nat} (hN: ∀q∈rs,q.d.ne<=N) {D:Nat->Bool} (hcl: ∀i k,D i=true->Tp ops i k->D k=true) {j:Nat} {r:Rec T} (hr:rs[j]?=some r) {a0:AV T.U} {core:List (Ent T.U)} (hp:PanI P C ops B F0 H0 rs j a0 core) (hD:D j=false) (hpre: ∀k,Tp ops j k->D k=true)
  {a:Act} (hsz:a.tmps.size=n) (hdf:a.defers=ds) (hs:Sim T w0 S0 (StD rs F0 H0 n N D) (zu5 a n) w S φ) (HP:yn5 Q n ds w0 S0 a0 (⟨qg4 T (ym5 ops ops.size) F0,core⟩:St T)) {K:Act->World->Prop}:
  r.o.wp P a w K Q:=by
 obtain ⟨⟨r0,tch,F,Hm,Hp,wr,p1,p2,p3,p4,p5,p6,p7,p8,p9,p10,p11,p12,p13,p14,p15,p16,p17⟩,q1,q2,q3,q4⟩:=hp;have:r0=r:=by rw [hr] at p1;exact (X5 p1).symm
 subst this;have hrk:=h j r0 hr;have hnN:=hN r0 (X6 hr);have same: ∀e,(∀q∈rs,yt8 q e->q.d.j<j/\D q.d.j=true)->hF D rs (base H0) e=hF zh8 (rs.take j) (base H0) e:=by
  intro e he
  conv=>lhs;rw [yi6 hr]
  rw [zz1];show hF D (rs.drop (j+1)) (match D r0.d.j with|true=>_|false=>hF D (rs.take j) (base H0)) e=_;rw [h.idx hr,hD];simp only;rw [zp9 fun q hq _ hu=>?_]
  ·refine zx8 rfl fun q hq hu=>?_;exact (he q (N0 hq) hu).2
  ·obtain ⟨i,hi,hqi⟩:=yb6 hq;have:=(he q (X6 hqi) hu).1;rw [h.idx hqi] at this;omega
 have htch: ∀e∈tch,hF D rs (base H0) e=hF zh8 (rs.take j) (base H0) e:=by
  intro e he;refine same e fun q hq hu=>?_;obtain ⟨i,hqi⟩:=Y9.1 hq;have henb:=(p10 e he).1;rw [h.idx hqi];rcases Classical.em (∃c1 v1,q.loc=some (e,c1,some v1)) with ⟨c1,v1,hl1⟩|hnl
  ·have hlk:=(h i q hqi).lok _ _ _ hl1;rcases M2 i j with hij|rfl|hij
   ·refine ⟨hij,?_⟩;rcases p15 q (zp3 hij hqi) with hc'|⟨_,h1⟩
    ·rw [h.idx hqi] at hc';exact hpre i hc'
    ·exact absurd he (h1 e c1 v1 hl1)
   ·rw [hr] at hqi;have:=X5 hqi;subst this;rw [(hrk.skip (hrk.dskip p2)).2] at hl1;cases hl1
   ·exfalso;have:=q2 q hq hlk.skip (.inr ⟨_,_,_,hl1⟩);rw [h.idx hqi] at this;have:=Tp.lt hk.back this (by have:=(X2.1 hr).1;omega);omega
  obtain ⟨⟨hqs,hql⟩,hc⟩:=zj7 (hu.resolve_right hnl);rcases M2 i j with hij|rfl|hij
  ·refine ⟨hij,?_⟩;rcases p15 q (zp3 hij hqi) with hc'|⟨h1,_⟩
   ·rw [h.idx hqi] at hc';exact hpre i hc'
   ·exfalso;have hw:=h1 e he;unfold DR.wrE at hw;simp only [Bool.or_eq_false_iff,Bool.and_eq_false_imp] at hw;rcases hc with ⟨_,_,g3⟩|⟨g1,g2⟩
    ·rw [za9.2 g3] at hw;cases hw.1
    ·have:=hw.2 (W5 g1);rw [((h i q hqi).take hqs hql).ne] at g2;rw [show Nat.blt e q.d.ne=true by rw [U8];exact g2] at this;cases this
  ·rw [hr] at hqi;have:=X5 hqi;subst this;rw [hrk.dskip p2] at hqs;cases hqs
  ·exfalso;have hord:=h.ord hij hr hqi;have hle:=hrk.le.2;rcases hc with ⟨_,_,g3⟩|⟨g1,_⟩
   ·have:=q2 q hq hqs (.inl fun e'=>by rw [e'] at g3;cases g3);rw [h.idx hqi] at this;have:=Tp.lt hk.back this (by have:=(X2.1 hr).1;omega);omega
   ·omega
 have hcore: ∀e,e<B->hF D rs (base H0) e=hF zh8 (rs.take j) (base H0) e:=by
  intro e he;refine same e fun q hq hu=>?_;obtain ⟨i,hqi⟩:=Y9.1 hq;rcases Classical.em (∃c1 v1,q.loc=some (e,c1,some v1)) with ⟨c1,v1,hl1⟩|hnl
  ·have htp:=q2 q hq ((h i q hqi).lok _ _ _ hl1).skip (.inr ⟨_,_,_,hl1⟩);refine ⟨Tp.lt hk.back htp (by have:=(X2.1 hr).1;omega),hpre _ htp⟩
  obtain ⟨⟨hqs,hql⟩,hc⟩:=zj7 (hu.resolve_right hnl);have hqb:=(h i q hqi).le.1;rcases hc with ⟨_,_,g3⟩|⟨g1,_⟩
  ·have htp:=q2 q hq hqs (.inl fun e'=>by rw [e'] at g3;cases g3);refine ⟨Tp.lt hk.back htp (by have:=(X2.1 hr).1;omega),hpre _ htp⟩
  ·omega
 have hHm: ∀(e:Nat) (f:Ent T.U),Hm[e]?=some f->f=.gone\/(e∈tch/\(mkH N (hF D rs (base H0)))[e]?=some f):=by
  intro e f hf;have hlt:=(X2.1 hf).1;rw [p8] at hlt;rw [p9 e hlt] at hf;simp only [X0] at hf;split at hf
  ·rename_i he;exact .inr ⟨he,ze3.2 ⟨by have:=hrk.le.2;omega,by rw [htch e he];exact hf⟩⟩
  ·exact .inl hf.symm
 have hsub:=hs.sub2 (Fr:=F) (Hm:=Hm) (tch:=tch) (nb:=r0.d.nb) (fun t x hx=>by
  obtain ⟨h1,h2⟩:=p12 t x hx;have h3:=h.slotD hk hr hlen hpre hcl hD (t:=t) (X4.2 (.inl h1));refine ze2.2 ⟨?_,by rw [h3];exact h2⟩;by_cases hw: ∃q∈rs.take j,q.o.dst=some t
  ·obtain ⟨q,hq,hd⟩:=hw;obtain ⟨i,_,hqi⟩:=zl3 hq;have hopi:=(h i q hqi).op;exact hk.dst q.d.j t (Y3.1 hopi).1 (by rw [zj5 hopi];exact hd)
  ·rw [zj3 fun q hq hd=>hw ⟨q,hq,hd⟩] at h2;exact (hF0 t x h2).1) hHm p8 p13 p14
 refine vg3 hE p6 hrk.dst p4 p5 hsub (yh9 hsz hdf) fun v w' S1 φ1 F1 Fc hst hv=>?_;have hnb:=hrk.le.2;obtain ⟨φ2,g1,g2⟩:=hs.frame2 (tch:=tch) (nb:=r0.d.nb) hst (by rw [p11];exact hnb) (by rw [zn3,p11];exact hnN) (by have:=hrk.le.1;omega)
  (fun e he=>⟨(p10 e he).1,_,ze3.2 ⟨by have:=(p10 e he).1;omega,rfl⟩,by rw [htch e he];exact (p10 e he).2⟩)
  (fun e h1 h2=>ze3.2 ⟨by rw [p11] at h2;omega,h.free hB hcl hr hD h1 (by rw [<-p11];exact h2)⟩)
  (H2:=mkH N fun e=>if e∈tch\/(r0.d.nb<=e/\e<r0.d.ne) then (Hp[e]?).getD .gone else hF D rs (base H0) e) (by rw [zn3,zn3])
  (fun e f hf=>by
   obtain ⟨he,hf⟩:=ze3.1 hf;by_cases ht:e∈tch
   ·rw [if_pos (.inl ht)] at hf;have hlt:=(p10 e ht).1;have hg:Hp[e]?=some (Hp[e]'(by rw [p11];omega)):=Y0 _;rw [hg,V2] at hf;exact .inl ⟨ht,by rw [hg,hf]⟩
   ·by_cases hn:r0.d.nb<=e/\e<r0.d.ne
    ·rw [if_pos (.inr hn)] at hf;have hg:Hp[e]?=some (Hp[e]'(by rw [p11];exact hn.2)):=Y0 _;rw [hg,V2] at hf;exact .inr (.inl ⟨hn.1,by rw [hg,hf]⟩)
    ·rw [if_neg (fun hh=>hh.elim ht hn)] at hf;exact .inr (.inr ⟨ht,by rw [p11];omega,ze3.2 ⟨he,hf⟩⟩))
  (fun e ty t ys he hy=>by
   have hlt:=(p10 e he).1;obtain ⟨xs,hx⟩:=p7.row e ty t ys (by rw [p8];exact hlt) hy;rcases hHm e _ hx with h3|⟨_,h3⟩
   ·cases h3
   ·exact ⟨xs,h3⟩)
  (fun t x hx=>by
   rw [p11];exact h.fid hk (fun t a ha=>(hF0 t a ha).2) hcl hr hD (ze2.1 hx).2)
  (fun e f hf _=>by
   rw [p11];obtain ⟨_,rfl⟩:=ze3.1 hf;exact h.hid hH0 hcl hr hD)
 have hv2:=g2 a0 v hv (by rw [q4];intro i hi;cases hi);have hcg: ∀(e:Nat) (f:Ent T.U),core[e]?=some f->(mkH N fun e=>if e∈tch\/(r0.d.nb<=e/\e<r0.d.ne) then (Hp[e]?).getD .gone else hF D rs (base H0) e)[e]?=some f:=by
  intro e f hf;have hlt:=(X2.1 hf).1;rw [p17] at hlt;rw [p16 e hlt] at hf;simp only [X0] at hf;have:=hrk.le.1;refine ze3.2 ⟨by omega,?_⟩;by_cases ht:e∈tch
  ·rw [if_pos ht] at hf;rw [if_pos (.inl ht)];exact hf
  ·rw [if_neg ht] at hf;rw [if_neg (fun hh=>hh.elim ht fun h2=>by omega),hcore e hlt];exact hf
 have hfin:Sim T w0 S0 ⟨qg4 T (ym5 ops ops.size) F0,core⟩ (zu5 a n) w' S1 φ2:=by
  have hget: ∀t x,(qg4 T (ym5 ops ops.size) F0).get T t=some x->(mkF (fF D rs (F0.get T)) n).get T t=some x:=by
   intro t x hx;obtain ⟨h1,h2⟩:=ys3 hx;refine ze2.2 ⟨(hF0 t x h1).1,?_⟩;rw [zj3 fun q hq hd=>?_]
   ·exact h1
   ·obtain ⟨i,hqi⟩:=Y9.1 hq;have hopi:=(h i q hqi).op;exact h2 (T1.2 ⟨q.d.j,U9.2 (Y3.1 hopi).1,by rw [hopi];exact hd⟩)
  refine ⟨fun t x hx=>g1.fr t x (hget t x hx),fun t x hx=>?_,g1.chg,g1.own,g1.ex,fun i e he=>g1.lives i e (hcg i e he),fun k r hk=>?_,fun i e he=>g1.ents i e (hcg i e he),fun i e he x hx=>?_,fun i k e e' he he'=>g1.apart i k e e' (hcg i e he) (hcg k e' he')⟩
  ·obtain ⟨k1,k2⟩:=g1.ids t x (hget t x hx);refine ⟨fun i hi=>by simp only [p17];exact (hF0 t x (ys3 hx).1).2 i hi,?_⟩;cases x with
   |eptr y sz k c=>intro e1 t1 xs hxs;exact k2 e1 t1 xs (hcg y _ hxs)
   |_=>trivial
  ·have:=(X2.1 hk).1;exact ⟨(g1.pins k r hk).1,by simp only [p17];omega⟩
  ·have:=q3 e (X6 he) x hx;simp only [p17];exact this
 exact HP _ _ _ _ v hfin hv2 (zm3 q4 fun i sz k c e=>by rw [e,AV.ids] at q4;cases q4) a (yh9 hsz hdf)
def Sim.pad {F:AF T} {F':PF} {H H':List (Ent T.U)} (h:Sim T w0 S0 ⟨F,H⟩ F' w S φ) (hl:H.length<=H'.length) (hg: ∀(e:Nat) (f:Ent T.U),H'[e]?=some f->f=.gone\/H[e]?=some f):Sim T w0 S0 ⟨F,H'⟩ F' w S φ:=by
 refine ⟨h.fr,fun t a ha=>?_,h.chg,h.own,h.ex,fun i e he hlv a ha=>?_,fun k r hk=>⟨(h.pins k r hk).1,V3 (h.pins k r hk).2 hl⟩,fun i e he=>?_,fun i e he j hj=>?_,fun i j e e' he he' hlv hlv' hij a b ha hb=>?_⟩
 ·obtain ⟨h1,h2⟩:=h.ids t a ha;refine ⟨fun i hi=>V3 (h1 i hi) hl,?_⟩;cases a with
  |eptr y sz k c=>
   intro e1 t1 xs hx;rcases hg y _ hx with h3|h3
   ·cases h3
   ·exact h2 e1 t1 xs h3
  |_=>trivial
 ·rcases hg i e he with rfl|h3
  ·cases hlv
  ·exact h.lives i e h3 hlv a ha
 ·rcases hg i e he with rfl|h3
  ·trivial
  ·exact h.ents i e h3
 ·rcases hg i e he with rfl|h3
  ·cases hj
  ·exact V3 (h.eids i e h3 j hj) hl
 ·rcases hg i e he with rfl|h3
  ·cases hlv
  ·rcases hg j e' he' with rfl|h3'
   ·cases hlv'
   ·exact h.apart i j e e' h3 h3' hlv hlv' hij a b ha hb
def kj9:Value->Option Bool| .bool c=>some c|_=>none
def qm3 {R:Type} (pz:Option (Nat×Option R)) (i:Nat):Prop:=match pz with|none=>False|some (j0,_)=>i=j0
def qk4 {F:AF T} {H:List (Ent T.U)} {F':PF} {R:Type} {r:R} (hE:za0 T P C.E) {pm:Bool} {Kp:AV T.U->St T->Option R} {K:St T->Option R} (HK: ∀st,K st=some r->vj5 Q n ds w0 S0 st) (HP: ∀a st,Kp a st=some r->yn5 Q n ds w0 S0 a st) (hr:ko0 T P C ops n pm Kp K ⟨F,H⟩=some r) (hs:Sim T w0 S0 ⟨F,H⟩ F' w S φ):
  ∀a,Fr n ds F' a->wpAny P .any ops Q ops.size (Array.replicate ops.size false) a {w with drawn:=w.drawn+1}:=by
 unfold ko0 at hr;split at hr<;>try (cases hr;done)
 rename_i hok;have hk:=vr6 hok;intro a ha;obtain ⟨rs,pz,FF,Hc,recs,hacc,hpz,hlen,hK⟩:=va6 (B:=H.length) (F0:=F) (H0:=H) rfl hk hE ops.toList [] none F H [] rfl
  ⟨fun j r hj=>by simp at hj,fun t=>rfl,fun e he=>by simp only [hF,base];rw [Y0 he];rfl,W8 _,fun r hr=>(by cases hr),rfl⟩ (by intro q hq;cases hq) hr
 have h:=hacc.tr;have hF0: ∀t x,F.get T t=some x->t<n/\ ∀i∈x.ids,i<H.length:=fun t x hx=>by
  obtain ⟨v,hv,_⟩:=hs.fr t x hx;exact ⟨(ha.val t v hv).2,(hs.ids t x hx).1⟩
 have hH0: ∀f∈H,∀i∈f.cellIds,i<H.length:=fun f hf i hi=>by
  obtain ⟨e,he⟩:=Y9.1 hf;exact hs.eids e f he i hi
 have hpin:S0.pin.length<=H.length:=by
  rcases M7 S0.pin.length with h0|h0
  ·omega
  ·have hlt:S0.pin.length-1<S0.pin.length:=by omega
   have:=(hs.pins _ _ (Y0 hlt)).2;simp only at this;omega
 have readyd: ∀(listed:Array Bool) i,i∈Region.ready .any ops listed->i<ops.size/\listed.getD i true=false/\ ∀j,(zf2 ops i).contains j=true->listed.getD j false=true:=by
  intro listed i hi;unfold Region.ready at hi;rw [W3] at hi;have hlt:i<ops.size:=by simpa using hi.1
  have h2:=hi.2;rw [X3] at h2;refine ⟨hlt,by simpa using h2.1,fun j hj=>?_⟩;unfold zf2 at hj;rw [Z6 hlt] at hj h2;simp only [R0,decide_eq_true_eq,U3,W3] at hj;obtain ⟨e,⟨he,hb⟩,rfl⟩:=hj;have h3:=h2.2;simp only [Z8,V2,Array.all_eq_true'] at h3;have:=h3 e (by simpa using he);rw [hb] at this;simpa using this
 have readyI: ∀(listed:Array Bool) i,i<ops.size->listed.getD i true=false->(∀j,(zf2 ops i).contains j=true->listed.getD j false=true)->i∈Region.ready .any ops listed:=by
  intro listed i hlt h1 h2;unfold Region.ready;rw [W3];refine ⟨by simpa using hlt,?_⟩;rw [Z6 hlt,h1];simp only [M3,Bool.true_and,Z8,V2,Array.all_eq_true'];intro e he;cases hb:Region.binds .any e with
  |false=>rfl
  |true=>
   have:=h2 e.on (by
    unfold zf2;rw [Z6 hlt];simp only [R0,decide_eq_true_eq,U3,W3];exact ⟨e,⟨by simpa using he,hb⟩,rfl⟩)
   rw [this];rfl
 let Dl:Array Bool->Nat->Bool:=fun listed i=>listed.getD i false
 let bad:Nat->Prop:=qm3 pz
 have hbad1: ∀(i:Nat) (q:Rec T),rs[i]?=some q->q.dead=true-> ∃k,bad k/\(i=k\/Tp ops i k):=by
  intro i q hq hqd;cases hpp:pz with
  |none=>rw [hpp] at hpz;have:=hpz q (X6 hq);rw [this] at hqd;cases hqd
  |some x=>
   obtain ⟨j0,kf⟩:=x;rw [hpp] at hpz;obtain ⟨a0,core,g1,_⟩:=hpz;refine ⟨j0,by show qm3 pz j0;rw [hpp];rfl,?_⟩;have:=g1.deads q (X6 hq) hqd;rw [h.idx hq] at this;exact this
 have hbad2: ∀k,bad k-> ∃(q:Rec T) (a0:AV T.U) (core:List (Ent T.U)) (_:Unit),rs[k]?=some q/\PanI P C ops H.length F H rs k a0 core/\Kp a0 ⟨qg4 T (ym5 ops ops.size) F,core⟩=some r:=by
  intro k hb;cases hpp:pz with
  |none=>have hb:qm3 pz k:=hb;rw [hpp] at hb;exact hb.elim
  |some x=>
   obtain ⟨j0,kf⟩:=x;have hb:k=j0:=by have hb:qm3 pz k:=hb;rw [hpp] at hb;exact hb
   subst hb;rw [hpp] at hpz hK;obtain ⟨a0,core,g1,rfl⟩:=hpz;obtain ⟨q,_,_,_,_,_,g2,_⟩:=g1.out;exact ⟨q,a0,core,(),g2,g1,hK⟩
 have hbad3:(∃k,bad k)\/K ⟨FF,Hc⟩=some r:=by
  cases hpp:pz with
  |none=>rw [hpp] at hK;exact .inr hK
  |some x=>
   obtain ⟨j0,kf⟩:=x;exact .inl ⟨j0,by show qm3 pz j0;rw [hpp];rfl⟩
 let I:Array Bool->Act->World->Prop:=fun listed a w=>listed.size=ops.size/\(∀i k,Dl listed i=true->(zf2 ops i).contains k=true->Dl listed k=true)/\a.tmps.size=n/\a.defers=ds/\(∀k,bad k->Dl listed k=false)/\
  ∃S φ,Sim T w0 S0 (StD rs F H n Hc.length (Dl listed)) (zu5 a n) w S φ
 refine yx7 I ?_ ?_ ops.size _ a _ ⟨by simp,by simp⟩ ⟨by simp,fun i k hi _=>?_,ha.size,ha.defers,fun k _=>?_,S,φ,?_⟩
 ·
  intro listed a w i hI hi;obtain ⟨hls,hcl1,hsz,hdf,hnb,S,φ,hsim⟩:=hI;obtain ⟨hilt,hil,hip⟩:=readyd listed i hi;have hDi:Dl listed i=false:=by
   show listed.getD i false=false;rw [Y7] at hil⊢;rw [Z6 (by omega)] at hil⊢;simpa using hil
  have hcl: ∀i k,Dl listed i=true->Tp ops i k->Dl listed k=true:=fun i k hi t=>by
   induction t with
   |one h=>exact hcl1 _ _ hi h
   |step h _ ih=>exact ih (hcl1 _ _ hi h)
  have hpre: ∀k,Tp ops i k->Dl listed k=true:=fun k t=>by
   cases t with
   |one h=>exact hip _ h
   |step h t=>exact hcl _ _ (hip _ h) t
  have hset:Dl (listed.setIfInBounds i true)=zh6 (Dl listed) i:=by
   funext j;show (listed.setIfInBounds i true).getD j false=if j=i then true else listed.getD j false
   rw [Y7,Array.getElem?_setIfInBounds];by_cases hji:j=i
   ·subst hji;simp [hls,hilt]
   ·rw [if_neg (fun e=>hji e.symm),if_neg hji,<-Array.getD_eq_getD_getElem?]
  have hri:rs[i]?=some rs[i]:=Y0 (by omega);generalize hrr:rs[i]=r at hri;have hrk:=h i r hri;have hop:=hrk.op;rw [h.idx hri] at hop;have keepI: ¬bad i-> ∀a' w',a'.tmps.size=n->a'.defers=ds->(∃S1 φ1,Sim T w0 S0 (StD rs F H n Hc.length (zh6 (Dl listed) i)) (zu5 a' n) w' S1 φ1)->I (listed.setIfInBounds i true) a' w':=by
   intro hnbi a' w' h1 h2 h3;refine ⟨by simpa using hls,fun x k hx hk=>?_,h1,h2,fun k hk=>by
    have hne:k≠i:=fun e=>hnbi (e▸hk);rw [hset];unfold zh6;rw [if_neg hne];exact hnb k hk,by rw [hset];exact h3⟩
   rw [hset] at hx⊢;unfold zh6 at hx⊢;by_cases hki:k=i
   ·rw [if_pos hki]
   ·rw [if_neg hki];by_cases hxi:x=i
    ·subst hxi;exact hip k hk
    ·rw [if_neg hxi] at hx;exact hcl1 x k hx hk
  have hguard: ∀b,(match r.o.guard with|none=>(some true:Option Bool)|some (g,b)=>(yielded ops a.tmps g).map fun c=>c==b)=b->(Region.wanted r.o (yielded ops a.tmps)=true↔b=some true):=by
   intro b hb;unfold Region.wanted;cases hg:r.o.guard with
   |none=>rw [hg] at hb;subst hb;simp
   |some gb=>
    obtain ⟨g,b'⟩:=gb;rw [hg] at hb;simp only at hb⊢;subst hb;cases yielded ops a.tmps g with
    |none=>simp
    |some c=>cases c<;>cases b'<;>simp
  have hwant:r.dead=false->Region.wanted r.o (yielded ops a.tmps)= !r.skip:=by
   intro hnd;have hg:=hrk.guard hnd;cases hgd:r.o.guard with
   |none=>
    rw [hgd] at hg;simp only at hg;rw [hg];exact (hguard (some true) (by rw [hgd])).2 rfl
   |some gb=>
    obtain ⟨g,b⟩:=gb;rw [hgd] at hg;simp only at hg;obtain ⟨rg,hm1,hm2,⟨d,hd⟩,hm3,hm4⟩:=hg;obtain ⟨k,hki,hrk'⟩:=zl3 hm1;have hkg:k=g:=by rw [<-h.idx hrk',hm2]
    subst hkg;have hopg:=(h k rg hrk').op;rw [h.idx hrk'] at hopg;have hdn:=hk.dst k d (Y3.1 hopg).1 (by rw [zj5 hopg];exact hd);have hsl:=h.slotD hk hri hlen hpre hcl hDi (t:=d) (X4.2 (.inr (by unfold zp2;rw [hgd];simp [zj5 hopg,hd])));rw [yg4 hm1 hd fun q hq hd'=>h.uniq hk (N0 hq) (N0 hm1) hd' hd] at hsl;have hsl:fF (Dl listed) rs (F.get T) d=some rg.a:=hsl;obtain ⟨v,hv,hvr⟩:=hsim.fr d rg.a (ze2.2 ⟨hdn,hsl⟩);have hv:=(zl1.1 hv).2;have hyv:yielded ops a.tmps k=kj9 v:=by
     unfold yielded;rw [hopg];simp only [R1,hd];rw [Y7,Z6 (by rw [hsz];exact hdn)] at hv;rw [Z6 (by rw [hsz];exact hdn)];simp only [V2] at hv;rw [hv];cases v<;>rfl
    cases hs:r.skip with
    |false=>
     have:=hm3 hs;rw [this] at hvr;have:=zd7 hvr;subst this;exact (hguard (some true) (by rw [hgd];simp only [hyv];cases b<;>rfl)).2 rfl
    |true=>
     rcases hm4 hs with h5|⟨u,h5⟩
     ·rw [h5] at hvr;have:=zd7 hvr;subst this;have:=hguard (some false) (by rw [hgd];simp only [hyv];cases b<;>rfl);cases hwd:Region.wanted r.o (yielded ops a.tmps) with
      |false=>rfl
      |true=>exact absurd (this.1 hwd) (by simp)
     ·rw [h5,VR] at hvr;subst hvr;have:=hguard none (by rw [hgd];simp only [hyv];rfl);cases hwd:Region.wanted r.o (yielded ops a.tmps) with
      |false=>rfl
      |true=>exact absurd (this.1 hwd) (by simp)
  have hlets:(match r.o.guard with|none=>True|some (g,b)=> ∃rg∈rs.take i,rg.d.j=g/\(∃d,rg.o.dst=some d)/\rg.a=cB T b)->Region.wanted r.o (yielded ops a.tmps)=true:=by
   intro hg;cases hgd:r.o.guard with
   |none=>exact (hguard (some true) (by rw [hgd])).2 rfl
   |some gb=>
    obtain ⟨g,b⟩:=gb;rw [hgd] at hg;simp only at hg;obtain ⟨rg,hm1,hm2,⟨d,hd⟩,hm3⟩:=hg;obtain ⟨k,hki,hrk'⟩:=zl3 hm1;have hkg:k=g:=by rw [<-h.idx hrk',hm2]
    subst hkg;have hopg:=(h k rg hrk').op;rw [h.idx hrk'] at hopg;have hdn:=hk.dst k d (Y3.1 hopg).1 (by rw [zj5 hopg];exact hd);have hsl:=h.slotD hk hri hlen hpre hcl hDi (t:=d) (X4.2 (.inr (by unfold zp2;rw [hgd];simp [zj5 hopg,hd])));rw [yg4 hm1 hd fun q hq hd'=>h.uniq hk (N0 hq) (N0 hm1) hd' hd] at hsl;have hsl:fF (Dl listed) rs (F.get T) d=some rg.a:=hsl;obtain ⟨v,hv,hvr⟩:=hsim.fr d rg.a (ze2.2 ⟨hdn,hsl⟩);have hv:=(zl1.1 hv).2;have hyv:yielded ops a.tmps k=kj9 v:=by
     unfold yielded;rw [hopg];simp only [R1,hd];rw [Y7,Z6 (by rw [hsz];exact hdn)] at hv;rw [Z6 (by rw [hsz];exact hdn)];simp only [V2] at hv;rw [hv];cases v<;>rfl
    rw [hm3] at hvr;have:=zd7 hvr;subst this;exact (hguard (some true) (by rw [hgd];simp only [hyv];cases b<;>rfl)).2 rfl
  unfold wpOp;rw [hop];cases hdd:r.dead with
  |true=>
   obtain ⟨k,hbk,hik⟩:=hbad1 i r hri hdd;rcases hik with rfl|hik
   ·obtain ⟨q,a0,core,_,g1,g2,g3⟩:=hbad2 i hbk;have:q=r:=by rw [hri] at g1;exact (X5 g1).symm
    subst this;obtain ⟨r0,tch,_,_,_,_,p1,_,p3,_⟩:=g2.out;have:r0=q:=by rw [hri] at p1;exact (X5 p1).symm
    subst this;simp only [hlets p3,if_true];left;exact ge7 hk hE h hlen rfl hF0 hH0 hpin hacc.mono hcl hri g2 hDi hpre hsz hdf hsim (HP a0 _ g3)
   ·have:=hnb k hbk;rw [hpre k hik] at this;cases this
  |false=>
  have hnbi: ¬bad i:=fun hb=>by
   obtain ⟨q,a0,core,_,g1,g2,g3⟩:=hbad2 i hb;obtain ⟨r0,tch,_,_,_,_,p1,p2,_⟩:=g2.out;have:r0=r:=by rw [hri] at p1;exact (X5 p1).symm
   subst this;rw [hdd] at p2;cases p2
  simp only [hwant hdd];cases hs:r.skip with
  |true=>
   simp only [U6];rw [if_neg (by simp)];obtain ⟨h1,h2,_⟩:=jc0 (v:=undef) hsz hrk.dst;refine keepI hnbi _ _ h1 (by rw [h2,hdf]) ⟨S,φ,ql2 hk h (N:=Hc.length) hri hsz ?_ fun _=>?_⟩
   ·have e1: ∀e,hF (zh6 (Dl listed) i) rs (base H) e=hF (Dl listed) rs (base H) e:=fun e=>by
     rw [h.put hcl hri hDi];have:upR r e=none:=by unfold upR;rw [hs]
     rw [jj7 (hrk.skip hs).2,this];rfl
    have e2:hF (zh6 (Dl listed) i) rs (base H)=hF (Dl listed) rs (base H):=funext e1;rw [e2];exact hsim
   ·rw [(hrk.skip hs).1];exact ⟨rfl,fun i hi=>(by cases hi),trivial⟩
  |false=>
   simp only [M3,if_true];left;cases hl:r.loc with
   |none=>exact Oper.wp_mono (fun a' w' hX=>keepI hnbi a' w' hX.1 hX.2.1 hX.2.2) (gb6 (Q:=Q) hk hE h hlen rfl hF0 hH0 hpin hacc.mono hcl hri hDi hpre hs hl hsz hdf hsim)
   |some p=>obtain ⟨k,c,sv⟩:=p;exact Oper.wp_mono (fun a' w' hX=>keepI hnbi a' w' hX.1 hX.2.1 hX.2.2) (gb7 (Q:=Q) hk hE h hlen hacc.mono hF0 hcl hri hl hDi hpre hsz hdf hsim)
 ·
  intro listed a w hI hready;obtain ⟨hls,hcl1,hsz,hdf,hnb,S,φ,hsim⟩:=hI;have hall: ∀i,i<ops.size->Dl listed i=true:=by
   intro i;induction i using Nat.strongRecOn with
   |_ i ih=>
    intro hi;cases hD:Dl listed i with
    |true=>rfl
    |false=>
     have:i∈Region.ready .any ops listed:=readyI listed i hi (by
      have hD:listed.getD i false=false:=hD;rw [Y7] at hD⊢;rw [Z6 (by omega)] at hD⊢;simpa using hD) fun j hj=>by
       have:=Tp.lt hk.back (.one hj) hi;exact ih j this (by omega)
     rw [hready] at this;cases this
  have hmem: ∀q∈rs,Dl listed q.d.j=true:=fun q hq=>by
   obtain ⟨k,hk'⟩:=Y9.1 hq;rw [h.idx hk'];exact hall k (by have:=(X2.1 hk').1;omega)
  have e1:hF (Dl listed) rs (base H)=hF zh8 rs (base H):=funext fun e=>zx8 rfl fun q hq _=>hmem q hq;have hHc:mkH Hc.length (hF (Dl listed) rs (base H))=Hc:=by
   apply R9;intro e;by_cases he:e<Hc.length
   ·rw [ze3.2 ⟨he,rfl⟩,e1,hacc.hc e he]
   ·rw [Y5 (by rw [zn3];omega),Y5 (by omega)]
  have hsim':Sim T w0 S0 ⟨mkF (fF (Dl listed) rs (F.get T)) n,Hc⟩ (zu5 a n) w S φ:=by
   have:=hsim;unfold StD at this;rw [hHc] at this;exact this
  have hfin:Sim T w0 S0 ⟨FF,Hc⟩ (zu5 a n) w S φ:=by
   have hget: ∀t x,FF.get T t=some x->(mkF (fF (Dl listed) rs (F.get T)) n).get T t=some x:=by
    intro t x hx;rw [hacc.ff] at hx;have e2:fF (Dl listed) rs (F.get T) t=fF zh8 rs (F.get T) t:=by
     by_cases hw: ∃q∈rs,q.o.dst=some t
     ·obtain ⟨q,hq,hd⟩:=hw;rw [yg4 hq hd fun q' hq' hd'=>h.uniq hk hq' hq hd' hd,yg4 hq hd fun q' hq' hd'=>h.uniq hk hq' hq hd' hd,hmem q hq];rfl
     ·rw [zj3 fun q hq hd=>hw ⟨q,hq,hd⟩,zj3 fun q hq hd=>hw ⟨q,hq,hd⟩]
    refine ze2.2 ⟨?_,by rw [e2];exact hx⟩;by_cases hw: ∃q∈rs,q.o.dst=some t
    ·obtain ⟨q,hq,hd⟩:=hw;obtain ⟨i,hqi⟩:=Y9.1 hq;have hopi:=(h i q hqi).op;exact hk.dst q.d.j t (Y3.1 hopi).1 (by rw [zj5 hopi];exact hd)
    ·rw [zj3 fun q hq hd=>hw ⟨q,hq,hd⟩] at hx;exact (hF0 t x hx).1
   exact ⟨fun t x hx=>hsim'.fr t x (hget t x hx),fun t x hx=>hsim'.ids t x (hget t x hx),hsim'.chg,hsim'.own,hsim'.ex,hsim'.lives,hsim'.pins,hsim'.ents,hsim'.eids,hsim'.apart⟩
  rcases hbad3 with ⟨k,hk3⟩|hK
  ·exfalso;obtain ⟨q,_,_,_,g1,_⟩:=hbad2 k hk3;have h1:=hall k (by have:=(X2.1 g1).1;omega);rw [hnb k hk3] at h1;cases h1
  ·exact HK _ hK _ _ ⟨S,φ,hfin⟩ a (yh9 hsz hdf)
 ·
  exfalso;have hi:(Array.replicate ops.size false).getD i false=true:=hi;rw [Y7,Array.getElem?_replicate] at hi;split at hi<;>cases hi
 ·show (Array.replicate ops.size false).getD k false=false;rw [Y7,Array.getElem?_replicate];split<;>rfl
 ·have hdr:Chg [] w {w with drawn:=w.drawn+1}:=⟨rfl,rfl,rfl,W8 _,fun k _ _=>rfl⟩;have h1:=hs.pure hdr;have hnoD: ∀k,Dl (Array.replicate ops.size false) k=false:=fun k=>by
   show (Array.replicate ops.size false).getD k false=false;rw [Y7,Array.getElem?_replicate];split<;>rfl
  have e1: ∀e,hF (Dl (Array.replicate ops.size false)) rs (base H) e=base H e:=fun e=>zp9 fun q _ hq=>by rw [hnoD] at hq;cases hq
  have h2:=h1.pad (H':=mkH Hc.length (hF (Dl (Array.replicate ops.size false)) rs (base H))) (by rw [zn3];exact hacc.le) fun e f hf=>by
   obtain ⟨_,rfl⟩:=ze3.1 hf;rw [e1];unfold base;cases hg:H[e]? with
   |none=>exact .inl rfl
   |some x=>exact .inr rfl
  have hget: ∀t x,(mkF (fF (Dl (Array.replicate ops.size false)) rs (F.get T)) n).get T t=some x->F.get T t=some x:=by
   intro t x hx;obtain ⟨_,hx⟩:=ze2.1 hx;by_cases hw: ∃q∈rs,q.o.dst=some t
   ·obtain ⟨q,hq,hd⟩:=hw;rw [yg4 hq hd fun q' hq' hd'=>h.uniq hk hq' hq hd' hd,hnoD] at hx;exact hx
   ·rw [zj3 fun q hq hd=>hw ⟨q,hq,hd⟩] at hx;exact hx
  refine ⟨fun t x hx=>?_,fun t x hx=>h2.ids t x (hget t x hx),h2.chg,h2.own,h2.ex,h2.lives,h2.pins,h2.ents,h2.eids,h2.apart⟩;obtain ⟨v,hv,hvr⟩:=h2.fr t x (hget t x hx);have:=ha.val t v hv;exact ⟨v,zl1.2 ⟨this.2,this.1⟩,hvr⟩
def qq5 {F:AF T} {H:List (Ent T.U)} {F':PF} {R:Type} {r:R} {rid:Nat} (hE:za0 T P C.E) (hm:P.follows .mixedOrders=true) {pm:Bool} {Kp:AV T.U->St T->Option R} {K:St T->Option R} (HK: ∀st,K st=some r->vj5 Q n ds w0 S0 st) (HP: ∀a st,Kp a st=some r->yn5 Q n ds w0 S0 a st) (hr:ko0 T P C ops n pm Kp K ⟨F,H⟩=some r) (hs:Sim T w0 S0 ⟨F,H⟩ F' w S φ):
  CW P (.region rid ops true) Q n ds F' w:=
 fun a ha=>wp_region_any hm (qk4 hE HK HP hr hs a ha)
end
end Go.X
