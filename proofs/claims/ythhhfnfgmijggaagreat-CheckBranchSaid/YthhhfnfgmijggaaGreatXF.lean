import Derived.Test.YthhhfnfgmijggaaGreatXL
namespace Go.X
open Go.RowKit Go.V
structure DR where
 j:Nat
 nb:Nat
 ne:Nat
 tch:List Nat
 wr:List Nat
 loc:Option (Nat×Nat×Bool)
def DR.isSt (r:DR):Bool:=match r.loc with|some (_,_,true)=>true|_=>false
def DR.wrE (r:DR) (e:Nat):Bool:=yb5 e r.wr||(Nat.ble r.nb e&&Nat.blt e r.ne)
section
variable (T:Tab) (P:Program) (C:Ctx T) {R:Type}
def qo5 (F:AF T) (x:Operand):List Nat:=match aev T F x with|some a=>a.ids|none=> []
def wl0 (F:AF T) (l:List Operand):List Nat:=match zu7 T F l with|some as=>w9 as|none=> []
def wi8 (H:List (Ent T.U)) (i:Nat):Bool:=match H[i]? with|some (.drow _ _ _ _ _)=>true|_=>false
def epX (F:AF T) (H:List (Ent T.U)) (x:Operand):List Nat:=match aev T F x with|some (.eptr i _ _ _)=>(match wi8 T H i with|true=> []|false=> [i])|_=> []
def wj6 (l:List Nat) (nb:Nat) (HB:List (Ent T.U)):AV T.U->Bool| .eptr i _ _ _=>yb5 i l||(Nat.ble nb i||wi8 T HB i)|_=>true
def gd7 (o:Oper) (F:AF T) (H:List (Ent T.U)):List Nat:=
 match o.op with
 | .move x=>epX T F H x
 | .assign x=>epX T F H x
 | .fieldAddr _ x _=>epX T F H x
 | .load _ x=>qo5 T F x
 | .store _ x _=>qo5 T F x
 | .indexAddr _ x _=>qo5 T F x
 | .slice _ x _ _ _=>qo5 T F x
 | .sliceToArrayPointer _ x=>qo5 T F x
 | .nilCheck x=>epX T F H x
 | .lookup _ m _ _=>qo5 T F m
 | .insert _ m _ v=>vp5 [] (qo5 T F m)
 | .mapUpdate _ m _ v=>vp5 [] (qo5 T F m)
 | .convert _ _ x=>qo5 T F x
 | .call c=>match c.callee with
  | .value f=>vn1 T H (H.length+1) (vp5 [] (qo5 T F f++wl0 T F c.args.toList))
  |_=>vp5 [] (wl0 T F c.args.toList)
 |_=> []
def qu1 (H:List (Ent T.U)) (l:List Nat):List Nat:=l.filter fun i=>match H[i]? with|some e=>e.live|none=>false
def zl8 (l:List Nat):List (Ent T.U)->Nat->List (Ent T.U)
 | [],_=> []
 |e::r,i=>(match yb5 i l with|true=>e|false=>.gone)::zl8 l r (i+1)
def yd1 (l:List Nat):List (Ent T.U)->List (Ent T.U)->Nat->List (Ent T.U)
 | [],s,_=>s
 |_::_,[],_=> []
 |e::r,f::s,i=>(match yb5 i l with|true=>f|false=>e)::yd1 l r s (i+1)
def qs8 (B nb ne:Nat) (clo:List Nat) (recs:List DR) (i:Nat):Bool:=Nat.blt i B||((Nat.ble nb i&&Nat.blt i ne)||recs.any fun r=>Nat.ble r.nb i&&(Nat.blt i r.ne&&yb5 r.j clo))
def ys2 (F:AF T) (dst:Option Tmp):AV T.U:=match dst with|some d=>(match F.get T d with|some a=>a|none=>.raw undef)|none=>.raw undef
def uy5 (r:DR) (tch wr:List Nat) (lc:Option (Nat×Nat×Bool)):Bool:=
 (match r.loc with|none=>true|some (k,_,st)=>(!st|| !yb5 k tch)&& !yb5 k wr)&&
 (match lc with|none=>true|some (k,c,st)=> !r.wrE k&&((!st|| !yb5 k r.tch)&&(match r.loc with|none=>true|some (k',c',st')=> !(Nat.beq k' k)||(!(st||st')|| !(Nat.beq c' c)))))
def kj9 (clo:List Nat) (recs:List DR) (tch wr:List Nat) (lc:Option (Nat×Nat×Bool)):Bool:=recs.all fun r=>yb5 r.j clo||((tch.all (fun e=> !r.wrE e)&&wr.all fun e=> !yb5 e r.tch)&&uy5 r tch wr lc)
def jt6 (n:Nat) (l:List Nat):Bool:=l.all fun i=>Nat.blt i n
def qw9 (l:List Nat):AF T->AF T
 | []=> []
 |(t,a)::r=>match yb5 t l with|true=>qw9 l r|false=>(t,a)::qw9 l r
def ux7 {R:Type} (pz:Option (Nat×Option R)) (clo:List Nat):Bool:=match pz with|some (j,_)=>yb5 j clo|none=>false
def qg8 {R:Type} (pz:Option (Nat×Option R)) (wr:List Nat):Bool:=match pz with|some _=>wr.isEmpty|none=>true
def zt3 {R:Type} (pm:Bool) (pz:Option (Nat×Option R)):Bool:=match pz with|some _=>false|none=>pm
def yn6 (B:Nat) (tch:List Nat) (Hc Hp:List (Ent T.U)):List (Ent T.U):=(yd1 T tch Hc Hp 0).take B
def wl2 (B:Nat) (clo:List Nat) (recs:List DR) (tch wr:List Nat) (a:AV T.U) (core:List (Ent T.U)):Bool:=
 kj9 clo recs tch wr none&&(a.ids.isEmpty&&((recs.all fun r=>yb5 r.j clo||(r.wr.isEmpty&& !r.isSt))&&core.all fun e=>jt6 B e.cellIds))
def vh7 (ops:Array Oper) (n B:Nat) (HB:List (Ent T.U)) (Fp:AF T) (pm:Bool) (Kp:AV T.U->St T->Option R) (o:Oper) (j:Nat) (pz:Option (Nat×Option R)) (FF:AF T) (Hc:List (Ent T.U)) (recs:List DR) (G:Option (Nat×Option R)->AF T->List (Ent T.U)->List DR->Option R):Option R:=
 let F:=yb2 T FF (zv1 o)
 let tch:=qu1 T Hc (gd7 T o F Hc++jf8 C o F Hc)
 let Hm:=zl8 T tch Hc 0
 let clo:=(ys0 ops ops.size).getD j []
 match zj3 n o.dst&&(zd2 o&&(zr3 F o&&(jt6 Hc.length (ve9 T F)&&Hm.all fun e=>jt6 Hc.length e.cellIds))) with
 |true=>match wf4 P o F Hm with
  |some (k,c,sv)=>zh6 P C o ⟨F,Hm⟩ (fun st'=>
   match qg8 pz (match sv with|some _=> [k]|none=> [])&&(kj9 clo recs [] [] (some (k,c,sv.isSome))&&((ys2 T st'.F o.dst).ids.all (qs8 B Hc.length Hc.length clo recs)&&(match sv with|some v=>v.ids|none=> []).all (qs8 B Hc.length Hc.length clo recs))) with
   |true=>G pz (zb7 T FF o.dst (ys2 T st'.F o.dst)) (qq4 k c sv (Hc.getD k .gone) Hc) (recs++ [⟨j,Hc.length,Hc.length,[],[],some (k,c,sv.isSome)⟩])
   |false=>none) (fun _ _=>none)
  |none=>zh6 P C o ⟨F,Hm⟩ (fun st'=>
   match qg8 pz (wrF C o ⟨F,Hm⟩)&&(kj9 clo recs tch (wrF C o ⟨F,Hm⟩) none&&(((ys2 T st'.F o.dst).ids.all (qs8 B Hc.length st'.H.length clo recs)&&wj6 T tch Hc.length HB (ys2 T st'.F o.dst))&&st'.H.all fun e=>e.cellIds.all (qs8 B Hc.length st'.H.length clo recs))) with
   |true=>G pz (zb7 T FF o.dst (ys2 T st'.F o.dst)) (yd1 T tch Hc st'.H 0) (recs++ [⟨j,Hc.length,st'.H.length,tch,wrF C o ⟨F,Hm⟩,none⟩])
   |false=>none) (fun a st'=>match zt3 pm pz&&wl2 T B clo recs tch (wrF C o ⟨F,Hm⟩) a (yn6 T B tch Hc st'.H) with
   |true=>G (some (j,Kp a ⟨Fp,yn6 T B tch Hc st'.H⟩)) (zb7 T FF o.dst (.raw undef)) (Hc++List.replicate (st'.H.length-Hc.length) .gone) (recs++ [⟨j,Hc.length,st'.H.length,[],[],none⟩])
   |false=>none)
 |false=>none
def jg9 (n:Nat) (o:Oper) (j:Nat) (pz:Option (Nat×Option R)) (FF:AF T) (Hc:List (Ent T.U)) (recs:List DR) (G:Option (Nat×Option R)->AF T->List (Ent T.U)->List DR->Option R):Option R:=
 match zj3 n o.dst with
 |true=>G pz (zb7 T FF o.dst (.raw undef)) Hc (recs++ [⟨j,Hc.length,Hc.length,[],[],none⟩])
 |false=>none
def ya6 (ops:Array Oper) (n B:Nat) (HB:List (Ent T.U)) (Fp:AF T) (pm:Bool) (Kp:AV T.U->St T->Option R) (K:St T->Option R):List Oper->Nat->Option (Nat×Option R)->AF T->List (Ent T.U)->List DR->Option R
 | [],_,pz,FF,Hc,_=>match pz with|none=>K ⟨FF,Hc⟩|some (_,kf)=>kf
 |o::r,j,pz,FF,Hc,recs=>
  let G:=fun pz FF Hc recs=>ya6 ops n B HB Fp pm Kp K r (j+1) pz FF Hc recs
  match ux7 pz ((ys0 ops ops.size).getD j []) with
  |true=>jg9 T n o j pz FF Hc recs G
  |false=>match o.guard with
   |none=>vh7 T P C ops n B HB Fp pm Kp o j pz FF Hc recs G
   |some (g,b)=>match kf8 ops g with
    |none=>none
    |some d=>match FF.get T d with
     |some (.cell ⟨.bool,c⟩)=>q7 c (match b with|true=>vh7 T P C ops n B HB Fp pm Kp o j pz ((d,cB T true)::FF) Hc recs G|false=>jg9 T n o j pz ((d,cB T true)::FF) Hc recs G) (match b with|true=>jg9 T n o j pz ((d,cB T false)::FF) Hc recs G|false=>vh7 T P C ops n B HB Fp pm Kp o j pz ((d,cB T false)::FF) Hc recs G)
     |some (.raw (.tuple _))=>jg9 T n o j pz FF Hc recs G
     |_=>none
def vl5 (ops:Array Oper) (m:Nat):Bool:=(List.range m).all fun i=>match ops[i]? with
 |some o=>zd2 o&&((zv1 o++yk4 ops o).all fun t=>(zt6 ops i).any (fun j=>Nat.blt j m&&yw4 ops j==some t)||(List.range m).all fun j=>yw4 ops j != some t||((ys0 ops ops.size).getD j []).contains i)
 |none=>true
def okD (ops:Array Oper) (n:Nat):Bool:=vl5 ops ops.size&&(Go.V.zx5 (vf9 ops ops.size)&&(yk9 ops&&(yq5 ops ops.size&&(vf9 ops ops.size).all fun d=>Nat.blt d n)))
def wi4 (ops:Array Oper) (n:Nat) (pm:Bool) (Kp:AV T.U->St T->Option R) (K:St T->Option R) (st:St T):Option R:=
 match okD ops n with
 |true=>ya6 T P C ops n st.H.length st.H (qw9 T (vf9 ops ops.size) st.F) pm Kp K ops.toList 0 none st.F st.H []
 |false=>none
end
end Go.X
