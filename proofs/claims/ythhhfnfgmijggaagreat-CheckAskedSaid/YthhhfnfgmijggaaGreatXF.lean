import Derived.Test.YthhhfnfgmijggaaGreatXL
namespace Go.X
open Go.RowKit Go.V
structure DR where
 j:Nat
 nb:Nat
 ne:Nat
 tch:List Nat
 wr:List Nat
 loc:Option (Nat×Nat×Bool)
def DR.isSt (r:DR):Bool:=match r.loc with|some (_,_,true)=>true|_=>false
def DR.wrE (r:DR) (e:Nat):Bool:=yb3 e r.wr||(Nat.ble r.nb e&&Nat.blt e r.ne)
section
variable (T:Tab) (P:Program) (C:Ctx T) {R:Type}
def ql6 (F:AF T) (x:Operand):List Nat:=match aev T F x with|some a=>a.ids|none=> []
def wg8 (F:AF T) (l:List Operand):List Nat:=match zu3 T F l with|some as=>w6 as|none=> []
def wd6 (H:List (Ent T.U)) (i:Nat):Bool:=match H[i]? with|some (.drow _ _ _ _ _)=>true|_=>false
def epX (F:AF T) (H:List (Ent T.U)) (x:Operand):List Nat:=match aev T F x with|some (.eptr i _ _ _)=>(match wd6 T H i with|true=> []|false=> [i])|_=> []
def wg5 (l:List Nat) (nb:Nat) (HB:List (Ent T.U)):AV T.U->Bool| .eptr i _ _ _=>yb3 i l||(Nat.ble nb i||wd6 T HB i)|_=>true
def kw6 (o:Oper) (F:AF T) (H:List (Ent T.U)):List Nat:=
 match o.op with
 | .move x=>epX T F H x
 | .assign x=>epX T F H x
 | .fieldAddr _ x _=>epX T F H x
 | .load _ x=>ql6 T F x
 | .store _ x _=>ql6 T F x
 | .indexAddr _ x _=>ql6 T F x
 | .slice _ x _ _ _=>ql6 T F x
 | .sliceToArrayPointer _ x=>ql6 T F x
 | .nilCheck x=>epX T F H x
 | .lookup _ m _ _=>ql6 T F m
 | .insert _ m _ v=>vq8 [] (ql6 T F m)
 | .mapUpdate _ m _ v=>vq8 [] (ql6 T F m)
 | .convert _ _ x=>ql6 T F x
 | .call c=>match c.callee with
  | .value f=>vh6 T H (H.length+1) (vq8 [] (ql6 T F f++wg8 T F c.args.toList))
  |_=>vq8 [] (wg8 T F c.args.toList)
 |_=> []
def qy0 (H:List (Ent T.U)) (l:List Nat):List Nat:=l.filter fun i=>match H[i]? with|some e=>e.live|none=>false
def zl2 (l:List Nat):List (Ent T.U)->Nat->List (Ent T.U)
 | [],_=> []
 |e::r,i=>(match yb3 i l with|true=>e|false=>.gone)::zl2 l r (i+1)
def yd2 (l:List Nat):List (Ent T.U)->List (Ent T.U)->Nat->List (Ent T.U)
 | [],s,_=>s
 |_::_,[],_=> []
 |e::r,f::s,i=>(match yb3 i l with|true=>f|false=>e)::yd2 l r s (i+1)
def qm1 (B nb ne:Nat) (clo:List Nat) (recs:List DR) (i:Nat):Bool:=Nat.blt i B||((Nat.ble nb i&&Nat.blt i ne)||recs.any fun r=>Nat.ble r.nb i&&(Nat.blt i r.ne&&yb3 r.j clo))
def yr5 (F:AF T) (dst:Option Tmp):AV T.U:=match dst with|some d=>(match F.get T d with|some a=>a|none=>.raw undef)|none=>.raw undef
def ut6 (r:DR) (tch wr:List Nat) (lc:Option (Nat×Nat×Bool)):Bool:=
 (match r.loc with|none=>true|some (k,_,st)=>(!st|| !yb3 k tch)&& !yb3 k wr)&&
 (match lc with|none=>true|some (k,c,st)=> !r.wrE k&&((!st|| !yb3 k r.tch)&&(match r.loc with|none=>true|some (k',c',st')=> !(Nat.beq k' k)||(!(st||st')|| !(Nat.beq c' c)))))
def kg7 (clo:List Nat) (recs:List DR) (tch wr:List Nat) (lc:Option (Nat×Nat×Bool)):Bool:=recs.all fun r=>yb3 r.j clo||((tch.all (fun e=> !r.wrE e)&&wr.all fun e=> !yb3 e r.tch)&&ut6 r tch wr lc)
def jr9 (n:Nat) (l:List Nat):Bool:=l.all fun i=>Nat.blt i n
def qt2 (l:List Nat):AF T->AF T
 | []=> []
 |(t,a)::r=>match yb3 t l with|true=>qt2 l r|false=>(t,a)::qt2 l r
def um6 {R:Type} (pz:Option (Nat×Option R)) (clo:List Nat):Bool:=match pz with|some (j,_)=>yb3 j clo|none=>false
def qe2 {R:Type} (pz:Option (Nat×Option R)) (wr:List Nat):Bool:=match pz with|some _=>wr.isEmpty|none=>true
def zy8 {R:Type} (pm:Bool) (pz:Option (Nat×Option R)):Bool:=match pz with|some _=>false|none=>pm
def ym8 (B:Nat) (tch:List Nat) (Hc Hp:List (Ent T.U)):List (Ent T.U):=(yd2 T tch Hc Hp 0).take B
def wh5 (B:Nat) (clo:List Nat) (recs:List DR) (tch wr:List Nat) (a:AV T.U) (core:List (Ent T.U)):Bool:=
 kg7 clo recs tch wr none&&(a.ids.isEmpty&&((recs.all fun r=>yb3 r.j clo||(r.wr.isEmpty&& !r.isSt))&&core.all fun e=>jr9 B e.cellIds))
def ve1 (ops:Array Oper) (n B:Nat) (HB:List (Ent T.U)) (Fp:AF T) (pm:Bool) (Kp:AV T.U->St T->Option R) (o:Oper) (j:Nat) (pz:Option (Nat×Option R)) (FF:AF T) (Hc:List (Ent T.U)) (recs:List DR) (G:Option (Nat×Option R)->AF T->List (Ent T.U)->List DR->Option R):Option R:=
 let F:=ya7 T FF (zu5 o)
 let tch:=qy0 T Hc (kw6 T o F Hc++jd8 C o F Hc)
 let Hm:=zl2 T tch Hc 0
 let clo:=(yr9 ops ops.size).getD j []
 match zi8 n o.dst&&(zd0 o&&(zq7 F o&&(jr9 Hc.length (vb5 T F)&&Hm.all fun e=>jr9 Hc.length e.cellIds))) with
 |true=>match wg6 P o F Hm with
  |some (k,c,sv)=>zh1 P C o ⟨F,Hm⟩ (fun st'=>
   match qe2 pz (match sv with|some _=> [k]|none=> [])&&(kg7 clo recs [] [] (some (k,c,sv.isSome))&&((yr5 T st'.F o.dst).ids.all (qm1 B Hc.length Hc.length clo recs)&&(match sv with|some v=>v.ids|none=> []).all (qm1 B Hc.length Hc.length clo recs))) with
   |true=>G pz (zb5 T FF o.dst (yr5 T st'.F o.dst)) (va3 k c sv (Hc.getD k .gone) Hc) (recs++ [⟨j,Hc.length,Hc.length,[],[],some (k,c,sv.isSome)⟩])
   |false=>none) (fun _ _=>none)
  |none=>zh1 P C o ⟨F,Hm⟩ (fun st'=>
   match qe2 pz (wrF C o ⟨F,Hm⟩)&&(kg7 clo recs tch (wrF C o ⟨F,Hm⟩) none&&(((yr5 T st'.F o.dst).ids.all (qm1 B Hc.length st'.H.length clo recs)&&wg5 T tch Hc.length HB (yr5 T st'.F o.dst))&&st'.H.all fun e=>e.cellIds.all (qm1 B Hc.length st'.H.length clo recs))) with
   |true=>G pz (zb5 T FF o.dst (yr5 T st'.F o.dst)) (yd2 T tch Hc st'.H 0) (recs++ [⟨j,Hc.length,st'.H.length,tch,wrF C o ⟨F,Hm⟩,none⟩])
   |false=>none) (fun a st'=>match zy8 pm pz&&wh5 T B clo recs tch (wrF C o ⟨F,Hm⟩) a (ym8 T B tch Hc st'.H) with
   |true=>G (some (j,Kp a ⟨Fp,ym8 T B tch Hc st'.H⟩)) (zb5 T FF o.dst (.raw undef)) (Hc++List.replicate (st'.H.length-Hc.length) .gone) (recs++ [⟨j,Hc.length,st'.H.length,[],[],none⟩])
   |false=>none)
 |false=>none
def jj7 (n:Nat) (o:Oper) (j:Nat) (pz:Option (Nat×Option R)) (FF:AF T) (Hc:List (Ent T.U)) (recs:List DR) (G:Option (Nat×Option R)->AF T->List (Ent T.U)->List DR->Option R):Option R:=
 match zi8 n o.dst with
 |true=>G pz (zb5 T FF o.dst (.raw undef)) Hc (recs++ [⟨j,Hc.length,Hc.length,[],[],none⟩])
 |false=>none
def zz9 (ops:Array Oper) (n B:Nat) (HB:List (Ent T.U)) (Fp:AF T) (pm:Bool) (Kp:AV T.U->St T->Option R) (K:St T->Option R):List Oper->Nat->Option (Nat×Option R)->AF T->List (Ent T.U)->List DR->Option R
 | [],_,pz,FF,Hc,_=>match pz with|none=>K ⟨FF,Hc⟩|some (_,kf)=>kf
 |o::r,j,pz,FF,Hc,recs=>
  let G:=fun pz FF Hc recs=>zz9 ops n B HB Fp pm Kp K r (j+1) pz FF Hc recs
  match um6 pz ((yr9 ops ops.size).getD j []) with
  |true=>jj7 T n o j pz FF Hc recs G
  |false=>match o.guard with
   |none=>ve1 T P C ops n B HB Fp pm Kp o j pz FF Hc recs G
   |some (g,b)=>match ke5 ops g with
    |none=>none
    |some d=>match FF.get T d with
     |some (.cell ⟨.bool,c⟩)=>q7 c (match b with|true=>ve1 T P C ops n B HB Fp pm Kp o j pz ((d,cB T true)::FF) Hc recs G|false=>jj7 T n o j pz ((d,cB T true)::FF) Hc recs G) (match b with|true=>jj7 T n o j pz ((d,cB T false)::FF) Hc recs G|false=>ve1 T P C ops n B HB Fp pm Kp o j pz ((d,cB T false)::FF) Hc recs G)
     |some (.raw (.tuple _))=>jj7 T n o j pz FF Hc recs G
     |_=>none
def vj1 (ops:Array Oper) (m:Nat):Bool:=(List.range m).all fun i=>match ops[i]? with
 |some o=>zd0 o&&((zu5 o++yj0 ops o).all fun t=>(zs7 ops i).any (fun j=>Nat.blt j m&&yt3 ops j==some t)||(List.range m).all fun j=>yt3 ops j != some t||((yr9 ops ops.size).getD j []).contains i)
 |none=>true
def okD (ops:Array Oper) (n:Nat):Bool:=vj1 ops ops.size&&(Go.V.zx3 (vd1 ops ops.size)&&(ym0 ops&&(yq1 ops ops.size&&(vd1 ops ops.size).all fun d=>Nat.blt d n)))
def wb4 (ops:Array Oper) (n:Nat) (pm:Bool) (Kp:AV T.U->St T->Option R) (K:St T->Option R) (st:St T):Option R:=
 match okD ops n with
 |true=>zz9 T P C ops n st.H.length st.H (qt2 T (vd1 ops ops.size) st.F) pm Kp K ops.toList 0 none st.F st.H []
 |false=>none
end
end Go.X
