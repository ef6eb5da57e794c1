import Derived.Test.YtampgjnliepkiaaGreatIm
import Derived.Test.YtampgjnliepkiaaGreatAw
import Derived.Test.YtampgjnliepkiaaGreatAt
import Derived.Test.YtampgjnliepkiaaGreatAE
set_option linter.defProp false
namespace Go.X
open Go.RowKit Go.V Go.Proofs Tryz
noncomputable section
def jp4 (h1:List Held) (y1:List Int) (h2:List Held) (y2:List Int):Bool:=(Nat.ble (h1.length+h2.length) 1048576&&(Nat.ble y1.length 1048576&&Nat.ble y2.length 1048576))&&(h1.all (fun x=>Nat.ble x.Data.length 1073741824)&&h2.all (fun x=>Nat.ble x.Data.length 1073741824))
def kz8 (h1:List Held) (_a1 _b1 _c1:Int) (y1:List Int) (_n1:Bool) (h2:List Held) (_a2 _b2 _c2:Int) (y2:List Int) (_n2:Bool):Option ((Unit×Unit×Unit×Unit×Unit×Unit×Unit×Unit)×(Bool×Unit)):=match jp4 h1 y1 h2 y2 with|true=>some (((),(),(),(),(),(),(),()),(true,()))|false=>none
def apR_sp:GSpec TT:=⟨[.asq 55 [.asq 31 [.dr 53 1 [0,5],.val (.int .i64),.val (.int .i64),.val (.int .i64),.row 3 (.int .i64),.val (.bool)] 0 6 1 0 1,.asq 31 [.dr 53 1 [0,5],.val (.int .i64),.val (.int .i64),.val (.int .i64),.row 3 (.int .i64),.val (.bool)] 0 6 1 0 1] 0 1 2 0 2],[.gone,.gone,.gone,.gone,.gone,.gone,.gone],[.val .bool],fun x=>kz8 x.1.1.1 x.1.1.2.1 x.1.1.2.2.1 x.1.1.2.2.2.1 x.1.1.2.2.2.2.1 x.1.1.2.2.2.2.2.1 x.1.2.1.1 x.1.2.1.2.1 x.1.2.1.2.2.1 x.1.2.1.2.2.2.1 x.1.2.1.2.2.2.2.1 x.1.2.1.2.2.2.2.2.1⟩
def ql0 {k:IntKind} {P:Program} {f:FuncId} {g:Int×Int->Option Int} (h:jy2 TT P f ⟨[.val (.int .i64),.val (.int .i64)],[.val (.int k)],g⟩) {x y z:Int} (hz:g (x,y)=some z) (w:World):Calls P f #[.int .i64 x,.int .i64 y] w (zp7 w (.int k z)):=by
 refine (h (x,y) z hz w [] (fun _=>⟨none,0,0,[]⟩) [.int .i64 x,.int .i64 y] ⟨CR.int _ _,CR.int _ _,trivial⟩ (fun b hb=>by cases hb) (fun k e he=>by cases he) (fun k hk=>by cases hk) (fun j k hj=>by cases hj)).mono ?_;intro e w' he;cases e with
 |returned v=>
  obtain ⟨F1,H1,F1',S1,φ1,as1,us,hs,hv,rfl,hr,_⟩:=he;have hr:jw4 TT H1 [.val (.int k)] as1=some z:=hr;have hu:=qa3 (T:=TT) (rs:= [.val (.int k)]) rfl hr hv;subst hu;exact ⟨hs.chg,rfl⟩
 |_=>exact he.elim
def qs7 {d:Nat} {P:Program} {f:FuncId} {g:TT.U d×TT.U d->Option Bool} (h:jy2 TT P f ⟨[.val (.user d),.val (.user d)],[.val .bool],g⟩) {x:TT.U d} (hz:g (x,x)=some true) {v:Value} (w:World) (hv: ∀φ,VR TT w [] φ (zo3 TT (.user d) x) v):Calls P f #[v,v] w (zp7 w (.bool true)):=by
 refine (h (x,x) true hz w [] (fun _=>⟨none,0,0,[]⟩) [v,v] ⟨hv _,hv _,trivial⟩ (fun b hb=>by cases hb) (fun k e he=>by cases he) (fun k hk=>by cases hk) (fun j k hj=>by cases hj)).mono ?_;intro e w' he;cases e with
 |returned v=>
  obtain ⟨F1,H1,F1',S1,φ1,as1,us,hs,hv,rfl,hr,_⟩:=he;have hr:jw4 TT H1 [.val .bool] as1=some true:=hr;have hu:=qa3 (T:=TT) (rs:= [.val .bool]) rfl hr hv;subst hu;exact ⟨hs.chg,rfl⟩
 |_=>exact he.elim
def mB (k q:Nat):Int:=(qag BIG (k:Int) (q:Int)).getD 0
def mI (k q:Nat):Int:=(qav BIG (k:Int) (q:Int)).getD 0
def kf9 (k q:Nat) (w:World):Calls prog 90 #[.int .i64 (k:Int),.int .i64 (q:Int)] w (zp7 w (.int .u8 (mB k q))):=
 ql0 (k:=.u8) (g:=fun x=>qag BIG x.1 x.2) qe6 (by show qag BIG (k:Int) (q:Int)=some ((qag BIG (k:Int) (q:Int)).getD 0);rw [vc3,qf2];rfl) w
def jl2 (k q:Nat) (w:World):Calls prog 50 #[.int .i64 (k:Int),.int .i64 (q:Int)] w (zp7 w (.int .i64 (mI k q))):=
 ql0 (k:=.i64) (g:=fun x=>qav BIG x.1 x.2) vc7 (by show qav BIG (k:Int) (q:Int)=some ((qav BIG (k:Int) (q:Int)).getD 0);rw [qf2];rfl) w
def km2:ql BIG [] []=some true:=by kernel_rfl
def km4:qw BIG [] []=some true:=by kernel_rfl
def km3:qda BIG [] []=some true:=by kernel_rfl
def vu0 (m:Int):qba BIG (⟨m,[]⟩:Held) (⟨m,[]⟩:Held)=some true:=by
 rw [kt2];simp only [km2,j9,q9,beq_self_eq_true,if_true]
def vu3 (m:Int):qbw BIG (⟨[],m,0,0,[],false⟩:Registry) (⟨[],m,0,0,[],false⟩:Registry)=some true:=by
 rw [wi6];simp only [km3,km4,j9,q9,beq_self_eq_true,if_true]
def vt9 (m:Int) (w:World):Calls prog 58 #[.agg #[.int .i64 m,.slice none 0 0],.agg #[.int .i64 m,.slice none 0 0]] w (zp7 w (.bool true)):=
 qs7 (d:=1) (x:=(⟨m,[]⟩:Held)) (g:=fun x=>qba BIG x.1 x.2) vc9 (by show qba BIG (⟨m,[]⟩:Held) (⟨m,[]⟩:Held)=some true;exact vu0 _) w fun φ=>⟨_,rfl,CR.int _ _,CR.nilS,trivial⟩
def vu2 (m:Int) (w:World):Calls prog 14 #[.agg #[.slice none 0 0,.int .i64 m,.int .i64 0,.int .i64 0,.slice none 0 0,.bool false],.agg #[.slice none 0 0,.int .i64 m,.int .i64 0,.int .i64 0,.slice none 0 0,.bool false]] w (zp7 w (.bool true)):=
 qs7 (d:=2) (x:=(⟨[],m,0,0,[],false⟩:Registry)) (g:=fun x=>qbw BIG x.1 x.2) wi7 (by show qbw BIG (⟨[],m,0,0,[],false⟩:Registry) (⟨[],m,0,0,[],false⟩:Registry)=some true;exact vu3 _) w fun φ=>⟨_,rfl,CR.nilS,CR.int _ _,CR.int _ _,CR.int _ _,CR.nilS,CR.bool _,trivial⟩
def qi3 (mI:Nat->Nat->Int) (hm: ∀(k q:Nat) (w:World),Calls prog 50 #[.int .i64 (k:Int),.int .i64 (q:Int)] w (zp7 w (.int .i64 (mI k q)))) (k q:Nat) (w:World):Calls prog 109 #[.int .i64 (k:Int),.int .i64 (q:Int)] w (zp7 w (.agg #[.int .i64 (mI (k) (q)),.slice none 0 0])):=by
 have key:CW prog (zm4 f109) (bodyPost prog f109 (zp7 w (.agg #[.int .i64 (mI (k) (q)),.slice none 0 0]))) 9 [] [(0,.int .i64 ((k:Nat):Int)),(1,.int .i64 ((q:Nat):Int))] w:=by
  refine CW.seq fun K1 hK1=>CW.region ?_;refine WR.alloc (dst:=some 4) (e:=53) (by kernel_rfl) (#[.int .i64 0,.slice none 0 0]) (by kernel_rfl) fun g w1 hn=>?_;refine WR.sub [(0,.int .i64 ((k:Nat):Int)),(1,.int .i64 ((q:Nat):Int)),(4,.pointer (some ⟨g,0,none⟩))] (by kernel_rfl) (WR.fin (by kernel_rfl) fun a ha=>go hK1 ?_ a ha);refine CW.seq fun K2 hK2=>CW.region (WR.batch 2 [(0,.int .i64 ((k:Nat):Int)),(1,.int .i64 ((q:Nat):Int)),(4,.pointer (some ⟨g,0,none⟩)),(5,.int .i64 ((k:Nat):Int)),(6,.int .i64 ((q:Nat):Int))] (by kernel_rfl) ?_);refine WR.call (dst:=some 7) (f:=50) (args:= #[.int .i64 ((k:Nat):Int),.int .i64 ((q:Nat):Int)]) (by kernel_rfl) (hm k q w1) ?_
  rintro v w2 hw2 rfl
  refine WR.batch 1 [(4,.pointer (some ⟨g,0,none⟩)),(8,.agg #[.int .i64 (mI (k) (q)),.slice none 0 0])] (by kernel_rfl) ?_;refine WR.storeW (t:=53) (g:=g) (c:= #[.int .i64 0,.slice none 0 0]) (e:=53) (vs:= [.int .i64 (mI (k) (q)),.slice none 0 0]) (hn.blk.pure hw2) (by kernel_rfl) (by kernel_rfl) rfl (by simp [Value.oneCell']) fun w3 hb3 hw3=>?_;refine WR.sub [(4,.pointer (some ⟨g,0,none⟩))] (by kernel_rfl) (WR.fin (by kernel_rfl) fun a ha=>go hK2 ?_ a ha);exact CW.ret (um6 [.agg #[.int .i64 (mI (k) (q)),.slice none 0 0]] _ rfl ⟨vl0 (o:=0) hb3 (by kernel_rfl) (by kernel_rfl),trivial⟩ ⟨(hn.chg.pure hw2).step1 hw3 hn.fresh,rfl⟩)
 exact zd0 func109 (show f109.body=some (zm4 f109) by kernel_rfl) Tryz.ntmps109 (by kernel_rfl) [0,1] (by kernel_rfl) key
def qi4 (mI:Nat->Nat->Int) (hm: ∀(k q:Nat) (w:World),Calls prog 50 #[.int .i64 (k:Int),.int .i64 (q:Int)] w (zp7 w (.int .i64 (mI k q)))) (k q:Nat) (w:World):Calls prog 110 #[.int .i64 (k:Int),.int .i64 (q:Int)] w (zp7 w (.agg #[.slice none 0 0,.int .i64 (mI (k) (q)),.int .i64 0,.int .i64 0,.slice none 0 0,.bool false])):=by
 have key:CW prog (zm4 f110) (bodyPost prog f110 (zp7 w (.agg #[.slice none 0 0,.int .i64 (mI (k) (q)),.int .i64 0,.int .i64 0,.slice none 0 0,.bool false]))) 9 [] [(0,.int .i64 ((k:Nat):Int)),(1,.int .i64 ((q:Nat):Int))] w:=by
  refine CW.seq fun K1 hK1=>CW.region ?_;refine WR.alloc (dst:=some 4) (e:=31) (by kernel_rfl) (#[.slice none 0 0,.int .i64 0,.int .i64 0,.int .i64 0,.slice none 0 0,.bool false]) (by kernel_rfl) fun g w1 hn=>?_;refine WR.sub [(0,.int .i64 ((k:Nat):Int)),(1,.int .i64 ((q:Nat):Int)),(4,.pointer (some ⟨g,0,none⟩))] (by kernel_rfl) (WR.fin (by kernel_rfl) fun a ha=>go hK1 ?_ a ha);refine CW.seq fun K2 hK2=>CW.region (WR.batch 2 [(0,.int .i64 ((k:Nat):Int)),(1,.int .i64 ((q:Nat):Int)),(4,.pointer (some ⟨g,0,none⟩)),(5,.int .i64 ((k:Nat):Int)),(6,.int .i64 ((q:Nat):Int))] (by kernel_rfl) ?_);refine WR.call (dst:=some 7) (f:=50) (args:= #[.int .i64 ((k:Nat):Int),.int .i64 ((q:Nat):Int)]) (by kernel_rfl) (hm k q w1) ?_
  rintro v w2 hw2 rfl
  refine WR.batch 1 [(4,.pointer (some ⟨g,0,none⟩)),(8,.agg #[.slice none 0 0,.int .i64 (mI (k) (q)),.int .i64 0,.int .i64 0,.slice none 0 0,.bool false])] (by kernel_rfl) ?_;refine WR.storeW (t:=31) (g:=g) (c:= #[.slice none 0 0,.int .i64 0,.int .i64 0,.int .i64 0,.slice none 0 0,.bool false]) (e:=31) (vs:= [.slice none 0 0,.int .i64 (mI (k) (q)),.int .i64 0,.int .i64 0,.slice none 0 0,.bool false]) (hn.blk.pure hw2) (by kernel_rfl) (by kernel_rfl) rfl (by simp [Value.oneCell']) fun w3 hb3 hw3=>?_;refine WR.sub [(4,.pointer (some ⟨g,0,none⟩))] (by kernel_rfl) (WR.fin (by kernel_rfl) fun a ha=>go hK2 ?_ a ha);exact CW.ret (um6 [.agg #[.slice none 0 0,.int .i64 (mI (k) (q)),.int .i64 0,.int .i64 0,.slice none 0 0,.bool false]] _ rfl ⟨vl0 (o:=0) hb3 (by kernel_rfl) (by kernel_rfl),trivial⟩ ⟨(hn.chg.pure hw2).step1 hw3 hn.fresh,rfl⟩)
 exact zd0 func110 (show f110.body=some (zm4 f110) by kernel_rfl) Tryz.ntmps110 (by kernel_rfl) [0,1] (by kernel_rfl) key
section
variable {w:World} {S:List Nat} {φ:Nat->RA} {w0:World} {S0:Ow} {F:AF TT} {H:List (Ent TT.U)} {F':PF}
def qk7: ∀(h:List Held) (q:Nat) (x:Held),h[q]?=some x->(h.flatMap (TT.cells 1))[q*2+1]?=some ⟨.list (.int .u8),x.Data⟩
 | [],q,x,hx=>by simp at hx
 |z::r,0,x,hx=>by
  have e:z=x:=by simpa using hx
  subst e;rfl
 |z::r,q+1,x,hx=>by
  have h1:=qk7 r q x (by simpa using hx);rw [show (q+1)*2+1=q*2+1+2 by omega];exact h1
structure RegS (w:World) (φ:Nat->RA) (k i j g:Nat) (u:RegV) (h:List Held) (y:List Int):Prop where
 ad:(φ k).ad=some ⟨g,0,none⟩
 own:Own w 0 31 6 (some ⟨g,0,none⟩) 1 1 u.cells
 rg:Rg w (some ⟨g,0,none⟩) u.cells
 had:(φ i).ad=u.had
 hl:u.ds.length=h.length
 hown:Own w 0 53 2 u.had u.ds.length u.hcap (yw4 u.ds)
 yad:(φ j).ad=u.y.ad
 yl:u.y.len=y.length
 yown: ∃c,Own w 0 3 1 u.y.ad u.y.len u.y.cap c
 rows:RowsA w 5 (m1 fun k q=>.int .u8 (mB k q)) (fun _ _=>False) (u.ds.map Prod.snd)
 rl: ∀r∈u.ds.map Prod.snd,∃x∈h,r.len=x.Data.length
 rx: ∀b∈rb (u.ds.map Prod.snd),b∈(φ i).xs/\ ∀a,(φ i).ad=some a->a.block≠b
def gy7 (hs:Sim TT w0 S0 ⟨F,H⟩ F' w S φ) {k i j:Nat} {a b c:Int} {n:Bool} {h:List Held} {y:List Int} (hk:H[k]?=some (.blk 31 [.own i,.cell ⟨.int .i64,a⟩,.cell ⟨.int .i64,b⟩,.cell ⟨.int .i64,c⟩,.own j,.cell ⟨.bool,n⟩]))
  (hi:H[i]?=some (.drow 53 1 [0,5] h none)) (hj:H[j]?=some (.row 3 (.int .i64) y)): ∃g u,RegS w φ k i j g u h y:=by
 obtain ⟨g,cc,b1,b2,b3,b4⟩:=hs.ents k _ hk;obtain ⟨B1,vals,o1,o2,o3,o4,o5⟩:=hs.ents i _ hi;obtain ⟨B2,v2,p1,p2,p3,p4,p5⟩:=hs.ents j _ hj;have o1:Own w B1 53 2 (φ i).ad (φ i).n (φ i).cap vals:=o1;have p1:Own w B2 3 1 (φ j).ad (φ j).n (φ j).cap v2:=p1;have hvl:vals.length=(φ i).n*2:=o1.len;have o2:(φ i).n=h.length:=o2;have p2:(φ j).n=y.length:=p2;have hno: ∀j,¬jz1 TT (TT.size 1) (none:Option (Nat×List (AV TT.U))) j:=fun j h=>h;have hcell:=fun (q:Nat) (x:Held)=>qk7 h q x;have hdat: ∀(q:Nat) (x:Held) (v:Value),h[q]?=some x->vals[q*2+1]?=some v-> ∃(B':Nat) (ad:Option Addr) (cap:Nat) (us:List Value),v=.slice ad x.Data.length cap/\Own w B' 5 1 ad x.Data.length cap us/\ ∀b∈zc7 ad,b∈(φ i).xs/\ ∀a,(φ i).ad=some a->a.block≠b:=by
  intro q x v hx hv;obtain ⟨q1,q2⟩:=o5.cl (q*2+1) _ v (hcell q x hx) hv (hno _);rw [show [0,5].getD ((q*2+1)%TT.size 1) 0=5 by show [0,5].getD ((q*2+1)%2) 0=_;rw [show (q*2+1)%2=1 by omega];rfl] at q1 q2;obtain ⟨B',ad,cap,us,e1,e2,e3,e4⟩:=q1.2 (by decide);subst e1;exact ⟨B',ad,cap,us,rfl,e2,fun b hb=>q2 b hb⟩
 obtain ⟨ds,d1,d2⟩:=vh2 (n:=h.length) (vals:=vals) (by omega) (fun q hq=>by
  have hv:q*2+1<vals.length:=by omega
  obtain ⟨B',ad,cap,us,e1,_⟩:=hdat q _ _ (Y0 hq) (Y0 hv);exact ⟨⟨ad,(h[q]).Data.length,cap⟩,by rw [Y0 hv,e1];rfl⟩)
 have hds: ∀(q:Nat) (p:Value×RowA),ds[q]?=some p-> ∃(x:Held) (us:List Value),h[q]?=some x/\p.2.len=x.Data.length/\Own w 0 5 1 p.2.ad p.2.len p.2.cap us/\ ∀b∈zc7 p.2.ad,b∈(φ i).xs/\ ∀a,(φ i).ad=some a->a.block≠b:=by
  intro q p hp;have hq:q<h.length:=by have:=(X2.1 hp).1;omega
  have hv:=jz8 hp;rw [d2] at hv;obtain ⟨B',ad,cap,us,e1,e2,e3⟩:=hdat q _ _ (Y0 hq) hv;have e1:RowA.val p.2=.slice ad (h[q]).Data.length cap:=e1;unfold RowA.val at e1;simp only [Value.slice.injEq] at e1;obtain ⟨e4,e5,e6⟩:=e1;exact ⟨h[q],us,Y0 hq,e5,by rw [e4,e5,e6];exact e2.zero,by rw [e4];exact e3⟩
 have hcc: ∃(va vb vc vn:Value),cc.toList= [.slice (φ i).ad (φ i).n (φ i).cap,va,vb,vc,.slice (φ j).ad (φ j).n (φ j).cap,vn]:=by
  have hh:=b4.vrl TT rfl
  match hcl:cc.toList,hh with
  | [a,b,c,d,e,f],hh=>exact ⟨b,c,d,f,by rw [show a=_ from hh.1,show e=_ from hh.2.2.2.2.1]⟩
  | [],hh=>exact hh.elim
  | [_],hh=>exact hh.2.elim
  | [_,_],hh=>exact hh.2.2.elim
  | [_,_,_],hh=>exact hh.2.2.2.elim
  | [_,_,_,_],hh=>exact hh.2.2.2.2.elim
  | [_,_,_,_,_],hh=>exact hh.2.2.2.2.2.elim
  |_::_::_::_::_::_::_::_,hh=>exact hh.2.2.2.2.2.2.elim
 obtain ⟨va,vb,vc,vn,hcc⟩:=hcc;have hn:(φ i).n=ds.length:=by rw [o2,d1]
 refine ⟨g,⟨(φ i).ad,(φ i).cap,ds,va,vb,vc,⟨(φ j).ad,(φ j).n,(φ j).cap⟩,vn⟩,b1,?_,?_,rfl,d1,?_,rfl,p2,⟨v2,p1.zero⟩,⟨fun q r hq=>?_,fun q q' r r' hne hq hq'=>?_⟩,fun r hr=>?_,fun b hb=>?_⟩
 ·refine Own.ofBlk b2 (U3 _) (W6 _) (by decide) (by have:=congrArg List.length hcc;simp at this;omega) _ ?_;rw [hcc,hn];rfl
 ·exact b2.rg _ (by rw [hcc,hn];rfl)
 ·rw [d2];show Own w 0 53 2 (φ i).ad ds.length (φ i).cap vals;rw [<-hn];exact o1.zero
 ·rw [W2] at hq;obtain ⟨p,hp,rfl⟩:=T4.1 hq;obtain ⟨x,us,_,_,e3,_⟩:=hds q p hp;exact ⟨us,e3,fun q h=>h.elim⟩
 ·rw [W2] at hq hq';obtain ⟨p,hp,rfl⟩:=T4.1 hq;obtain ⟨p',hp',rfl⟩:=T4.1 hq';obtain ⟨x,us,hx,_,_,_⟩:=hds q p hp;obtain ⟨x',us',hx',_,_,_⟩:=hds q' p' hp';cases had:p.2.ad with
  |none=>exact .inl rfl
  |some a=>
   cases had':p'.2.ad with
   |none=>exact .inr (.inl rfl)
   |some a'=>
    refine .inr (.inr fun e=>?_);have hv:=jz8 hp;have hv':=jz8 hp';rw [d2] at hv hv';have hq2: ∀q:Nat,[0,5].getD ((q*2+1)%TT.size 1) 0=5:=fun q=>by show [0,5].getD ((q*2+1)%2) 0=_;rw [show (q*2+1)%2=1 by omega];rfl
    have:=o5.ap (q*2+1) (q'*2+1) _ _ _ _ (by omega) (hcell q x hx) hv (hno _) (hcell q' x' hx') hv' (hno _) a.block (by rw [hq2];show a.block∈zc7 p.2.ad;rw [had];exact Q5.2 rfl);rw [hq2] at this;exact this (by show a.block∈zc7 p'.2.ad;rw [had'];exact Q5.2 e)
 ·obtain ⟨p,hp,rfl⟩:=U0.1 hr;obtain ⟨q,hq⟩:=List.getElem?_of_mem hp;obtain ⟨x,us,hx,e2,_,_⟩:=hds q p hq;exact ⟨x,X6 hx,e2⟩
 ·obtain ⟨r,hr,hb⟩:=V6.1 hb;obtain ⟨p,hp,rfl⟩:=U0.1 hr;obtain ⟨q,hq⟩:=List.getElem?_of_mem hp;obtain ⟨x,us,hx,_,_,e4⟩:=hds q p hq;exact e4 b hb
end
def wa7:GOk TT prog 20 apR_sp:=by
 intro x y hy w S φ hs vs hv hok;obtain ⟨⟨⟨h1,a1,b1,c1,y1,n1,_⟩,⟨h2,a2,b2,c2,y2,n2,_⟩,_⟩,_⟩:=x;have hy:kz8 h1 a1 b1 c1 y1 n1 h2 a2 b2 c2 y2 n2=some y:=hy;unfold kz8 at hy;cases hb:jp4 h1 y1 h2 y2 with
 |false=>rw [hb] at hy;cases hy
 |true=>
 rw [hb] at hy;obtain rfl:=X5 hy;unfold jp4 at hb;simp only [X3,Y8] at hb;obtain ⟨⟨k1,k2,k3⟩,k4,k5⟩:=hb;have k1:=Y1 k1;have k2:=Y1 k2;have k3:=Y1 k3;have hs:Sim TT w ⟨zc4 φ 7,S,[φ 0,φ 1,φ 2,φ 3,φ 4,φ 5,φ 6]⟩ ⟨[],[.blk 55 [.asl 1 0 6 1 0 1,.asl 4 0 6 1 0 1],.blk 31 [.own 2,.cell ⟨.int .i64,a1⟩,.cell ⟨.int .i64,b1⟩,.cell ⟨.int .i64,c1⟩,.own 3,.cell ⟨.bool,n1⟩],.drow 53 1 [0,5] h1 none,.row 3 (.int .i64) y1,.blk 31 [.own 5,.cell ⟨.int .i64,a2⟩,.cell ⟨.int .i64,b2⟩,.cell ⟨.int .i64,c2⟩,.own 6,.cell ⟨.bool,n2⟩],.drow 53 1 [0,5] h2 none,.row 3 (.int .i64) y2]⟩ [] w S φ:=hs;have hv:VRL TT w S φ [.asl 0 0 1 2 0 2] vs:=hv;obtain ⟨g1,u1,r1⟩:=gy7 hs (k:=1) (i:=2) (j:=3) rfl rfl rfl;obtain ⟨g2,u2,r2⟩:=gy7 hs (k:=4) (i:=5) (j:=6) rfl rfl rfl;obtain ⟨g0,cc,z1,z2,z3,z4⟩:=hs.ents 0 _ rfl;have dj: ∀ {i j:Nat} {a b:Addr},i≠j->i<7->j<7->At (φ i) a->At (φ j) b->a.block≠b.block:=fun {i j a b} hij hi hj ha hb=>by
  have hl: ∀i,i<7-> ∃e:Ent TT.U,([.blk 55 [.asl 1 0 6 1 0 1,.asl 4 0 6 1 0 1],.blk 31 [.own 2,.cell ⟨.int .i64,a1⟩,.cell ⟨.int .i64,b1⟩,.cell ⟨.int .i64,c1⟩,.own 3,.cell ⟨.bool,n1⟩],.drow 53 1 [0,5] h1 none,.row 3 (.int .i64) y1,.blk 31 [.own 5,.cell ⟨.int .i64,a2⟩,.cell ⟨.int .i64,b2⟩,.cell ⟨.int .i64,c2⟩,.own 6,.cell ⟨.bool,n2⟩],.drow 53 1 [0,5] h2 none,.row 3 (.int .i64) y2]:List (Ent TT.U))[i]?=some e/\e.live=true:=fun i hi=>by
   match i,hi with
   |0,_=>exact ⟨_,rfl,rfl⟩
   |1,_=>exact ⟨_,rfl,rfl⟩
   |2,_=>exact ⟨_,rfl,rfl⟩
   |3,_=>exact ⟨_,rfl,rfl⟩
   |4,_=>exact ⟨_,rfl,rfl⟩
   |5,_=>exact ⟨_,rfl,rfl⟩
   |6,_=>exact ⟨_,rfl,rfl⟩
   |i+7,h=>omega
  obtain ⟨e,he,hel⟩:=hl i hi;obtain ⟨f,hf,hfl⟩:=hl j hj;exact hs.apart i j e f he hf hel hfl hij a b ha hb
 let V:List RV:= [((some ⟨g1,0,none⟩,1),u1),((some ⟨g2,0,none⟩,1),u2)]
 have oI: ∀b∈rb (V.map fun p=>p.2.y),(∃a,(φ 3).ad=some a/\a.block=b)\/ ∃a,(φ 6).ad=some a/\a.block=b:=fun b hb=>by
  obtain ⟨r,hr,hb⟩:=V6.1 hb;have hr:r∈ [u1.y,u2.y]:=hr;simp only [Z0,T0,or_false] at hr;rcases hr with rfl|rfl
  ·left;rw [r1.yad];cases ha:u1.y.ad with
   |none=>rw [ha] at hb;cases hb
   |some a=>rw [ha] at hb;exact ⟨a,rfl,(Q5.1 hb).symm⟩
  ·right;rw [r2.yad];cases ha:u2.y.ad with
   |none=>rw [ha] at hb;cases hb
   |some a=>rw [ha] at hb;exact ⟨a,rfl,(Q5.1 hb).symm⟩
 have hLY:V.flatMap rvD=u1.ds.map Prod.snd++u2.ds.map Prod.snd:=by show rvD _++(rvD _++ [])=_;rw [J7];rfl
 have oY: ∀b∈rb (V.flatMap rvD),(b∈(φ 2).xs/\ ∀a,(φ 2).ad=some a->a.block≠b)\/(b∈(φ 5).xs/\ ∀a,(φ 5).ad=some a->a.block≠b):=fun b hb=>by
  rw [hLY] at hb;unfold rb at hb;rw [J0] at hb;rcases X4.1 hb with hb|hb
  ·exact .inl (r1.rx b hb)
  ·exact .inr (r2.rx b hb)
 have oH: ∀b∈rb (V.map rvH),(∃a,(φ 2).ad=some a/\a.block=b)\/ ∃a,(φ 5).ad=some a/\a.block=b:=fun b hb=>by
  obtain ⟨r,hr,hb⟩:=V6.1 hb;have hr:r∈ [(⟨u1.had,u1.ds.length,u1.hcap⟩:RowA),⟨u2.had,u2.ds.length,u2.hcap⟩]:=hr;simp only [Z0,T0,or_false] at hr;rcases hr with rfl|rfl
  ·left;rw [r1.had];cases ha:u1.had with
   |none=>rw [ha] at hb;cases hb
   |some a=>rw [ha] at hb;exact ⟨a,rfl,(Q5.1 hb).symm⟩
  ·right;rw [r2.had];cases ha:u2.had with
   |none=>rw [ha] at hb;cases hb
   |some a=>rw [ha] at hb;exact ⟨a,rfl,(Q5.1 hb).symm⟩
 have oR: ∀b∈rb (V.map fun p=>(⟨p.1.1,1,p.1.2⟩:RowA)),b=g1\/b=g2:=fun b hb=>by
  obtain ⟨r,hr,hb⟩:=V6.1 hb;have hr:r∈ [(⟨some ⟨g1,0,none⟩,1,1⟩:RowA),⟨some ⟨g2,0,none⟩,1,1⟩]:=hr;simp only [Z0,T0,or_false] at hr;rcases hr with rfl|rfl
  ·exact .inl (Q5.1 hb)
  ·exact .inr (Q5.1 hb)
 have one: ∀(r s:RowA),(∀b∈zc7 r.ad,b∉zc7 s.ad)-> ∀b∈rb [r],b∉rb [s]:=fun r s h b hb hb'=>h b (by simpa [rb] using hb) (by simpa [rb] using hb');have two: ∀ {i j:Nat} {a b:Option Addr},i≠j->i<7->j<7->(φ i).ad=a->(φ j).ad=b-> ∀x∈zc7 a,x∉zc7 b:=fun {i j a b} hij hi hj ha hb x hx hx'=>by
  cases a with
  |none=>cases hx
  |some a=>
   cases b with
   |none=>cases hx'
   |some b=>
    have e1:=Q5.1 hx;have e2:=Q5.1 hx';exact dj hij hi hj (.inl ha) (.inl hb) (e1.symm.trans e2)
 obtain ⟨cy1,hy1⟩:=r1.yown;obtain ⟨cy2,hy2⟩:=r2.yown;have rI:RowsA w 3 (m1 fun k q=>.int .i64 (mI k q)) (fun _ _=>False) (V.map fun p=>p.2.y):=(RowsA.one hy1).app (RowsA.one hy2) (one _ _ (two (i:=3) (j:=6) (by decide) (by decide) (by decide) r1.yad r2.yad));have rH:RowsA w 53 (mzG 2 fun k q=> [.int .i64 (mI (k) (q)),.slice none 0 0]) (fun _ _=>False) (V.map rvH):=(RowsA.one (r:=rvH ((some ⟨g1,0,none⟩,1),u1)) r1.hown).app (RowsA.one (r:=rvH ((some ⟨g2,0,none⟩,1),u2)) r2.hown) (one _ _ (two (i:=2) (j:=5) (by decide) (by decide) (by decide) r1.had r2.had));have rR:RowsA w 31 (mzG 6 fun k q=> [.slice none 0 0,.int .i64 (mI (k) (q)),.int .i64 0,.int .i64 0,.slice none 0 0,.bool false]) (fun _ _=>False) (V.map fun p=>(⟨p.1.1,1,p.1.2⟩:RowA)):=(RowsA.one (r:=⟨some ⟨g1,0,none⟩,1,1⟩) r1.own).app (RowsA.one (r:=⟨some ⟨g2,0,none⟩,1,1⟩) r2.own) (one _ _ (two (i:=1) (j:=4) (by decide) (by decide) (by decide) r1.ad r2.ad));have rY:RowsA w 5 (m1 fun k q=>.int .u8 (mB k q)) (fun _ _=>False) (V.flatMap rvD):=by
  rw [hLY];exact r1.rows.app r2.rows fun b hb hb'=>dj (i:=2) (j:=5) (a:=⟨b,0,none⟩) (b:=⟨b,0,none⟩) (by decide) (by decide) (by decide) (.inr (r1.rx b hb).1) (.inr (r2.rx b hb').1) rfl
 have iI: ∀b∈rb (V.map fun p=>p.2.y),∃i,(i=3\/i=6)/\ ∃a,At (φ i) a/\a.block=b:=fun b hb=>(oI b hb).elim (fun h=>⟨3,.inl rfl,h.imp fun a h=>⟨.inl h.1,h.2⟩⟩) fun h=>⟨6,.inr rfl,h.imp fun a h=>⟨.inl h.1,h.2⟩⟩;have iY: ∀b∈rb (V.flatMap rvD),∃i,(i=2\/i=5)/\ ∃a,At (φ i) a/\a.block=b:=fun b hb=>(oY b hb).elim (fun h=>⟨2,.inl rfl,⟨b,0,none⟩,.inr h.1,rfl⟩) fun h=>⟨5,.inr rfl,⟨b,0,none⟩,.inr h.1,rfl⟩;have iH: ∀b∈rb (V.map rvH),∃i,(i=2\/i=5)/\ ∃a,At (φ i) a/\a.block=b:=fun b hb=>(oH b hb).elim (fun h=>⟨2,.inl rfl,h.imp fun a h=>⟨.inl h.1,h.2⟩⟩) fun h=>⟨5,.inr rfl,h.imp fun a h=>⟨.inl h.1,h.2⟩⟩;have iR: ∀b∈rb (V.map fun p=>(⟨p.1.1,1,p.1.2⟩:RowA)),∃i,(i=1\/i=4)/\ ∃a,At (φ i) a/\a.block=b:=fun b hb=>(oR b hb).elim (fun h=>⟨1,.inl rfl,_,.inl r1.ad,h.symm⟩) fun h=>⟨4,.inr rfl,_,.inl r2.ad,h.symm⟩;have far: ∀ {b i j:Nat},i≠j->i<7->j<7->(∃a,At (φ i) a/\a.block=b)->(∃a,At (φ j) a/\a.block=b)->False:=fun {b i j} hij hi hj ⟨a,h1,h2⟩ ⟨a',h3,h4⟩=>dj hij hi hj h1 h3 (h2.trans h4.symm);have dY: ∀b∈rb (V.flatMap rvD),b∉rb (V.map fun p=>p.2.y):=fun b hb hb'=>by
  obtain ⟨i,hi,h⟩:=iY b hb;obtain ⟨j,hj,h'⟩:=iI b hb';exact far (by omega) (by omega) (by omega) h h'
 have dH: ∀b∈rb (V.map rvH),b∉rb (V.map fun p=>p.2.y)++rb (V.flatMap rvD):=fun b hb hb'=>by
  obtain ⟨i,hi,h⟩:=iH b hb;rcases X4.1 hb' with hb'|hb'
  ·obtain ⟨j,hj,h'⟩:=iI b hb';exact far (by omega) (by omega) (by omega) h h'
  ·rcases oH b hb with ⟨a,h1,h2⟩|⟨a,h1,h2⟩<;>rcases oY b hb' with ⟨q1,q2⟩|⟨q1,q2⟩
   ·exact q2 a h1 h2
   ·exact dj (i:=2) (j:=5) (b:=⟨b,0,none⟩) (by decide) (by decide) (by decide) (.inl h1) (.inr q1) h2
   ·exact dj (i:=5) (j:=2) (b:=⟨b,0,none⟩) (by decide) (by decide) (by decide) (.inl h1) (.inr q1) h2
   ·exact q2 a h1 h2
 have dR: ∀b∈rb (V.map fun p=>(⟨p.1.1,1,p.1.2⟩:RowA)),b∉rb (V.map fun p=>p.2.y)++rb (V.flatMap rvD)++rb (V.map rvH):=fun b hb hb'=>by
  obtain ⟨i,hi,h⟩:=iR b hb;rcases X4.1 hb' with hb'|hb'
  ·rcases X4.1 hb' with hb'|hb'
   ·obtain ⟨j,hj,h'⟩:=iI b hb';exact far (by omega) (by omega) (by omega) h h'
   ·obtain ⟨j,hj,h'⟩:=iY b hb';exact far (by omega) (by omega) (by omega) h h'
  ·obtain ⟨j,hj,h'⟩:=iH b hb';exact far (by omega) (by omega) (by omega) h h'
 match vs,hv with
 | [v],hv=>
 obtain ⟨g0',ad,e1,e2,e3,e4⟩:=hv.1;rw [z1] at e1;simp only [X0,Addr.mk.injEq,and_true] at e1;subst e1;have had:ad=⟨g0,0,none⟩:=by rcases e4 with e4|e4;omega;rw [e4]
 subst had;subst e2;have hc:cc.toList= [.slice (some ⟨g1,0,none⟩) 1 1,.slice (some ⟨g2,0,none⟩) 1 1]:=by
  have h:=z4.vrl TT rfl;have key: ∀ {k g:Nat} {v:Value},(φ k).ad=some ⟨g,0,none⟩->VR TT w S φ (.asl k 0 6 1 0 1) v->v=.slice (some ⟨g,0,none⟩) 1 1:=fun {k g v} hk h=>by
   obtain ⟨g',ad,q1,q2,q3,q4⟩:=h;rw [hk] at q1;simp only [X0,Addr.mk.injEq,and_true] at q1;subst q1;have:ad=⟨g,0,none⟩:=by rcases q4 with q4|q4;omega;rw [q4]
   rw [q2,this]
  match hcl:cc.toList,h with
  | [a,b],h=>rw [key r1.ad h.1,key r2.ad h.2.1]
  | [],h=>exact h.elim
  | [_],h=>exact h.2.elim
  |_::_::_::_,h=>exact h.2.2.elim
 have hcall:=vm7 (V:=V) (lad:=some ⟨g0,0,none⟩) (lcap:=2) (z2.rg _ hc) (W6 2) (fun hr hl hc hla hb hn=>kp1 false mI jl2 hr hl hc hla hb hn) rI (fun hr hl hc hla hb hn=>kp1 true mB kf9 hr hl hc hla hb hn) rY (fun hr hl hc hla hb hn=>kp2 true mI (qi3 mI jl2) (fun k q w=>vt9 (mI k q) w) hr hl hc hla hb hn) rH (fun hr hl hc hla hb hn=>kp2 false mI (qi4 mI jl2) (fun k q w=>vu2 (mI k q) w) hr hl hc hla hb hn) rR dY dH dR (by show 2<=_;omega)
  (by rw [hLY,X9,W9,W9,r1.hl,r2.hl];exact k1)
  (fun p hp=>by
   have hp:p∈ [((some ⟨g1,0,none⟩,1),u1),((some ⟨g2,0,none⟩,1),u2)]:=hp;simp only [Z0,T0,or_false] at hp;rcases hp with rfl|rfl
   ·show u1.y.len<=_;rw [r1.yl];omega
   ·show u2.y.len<=_;rw [r2.yl];omega)
  (fun r hr=>by
   rw [hLY] at hr;rcases X4.1 hr with hr|hr
   ·obtain ⟨x,hx,e⟩:=r1.rl r hr;rw [e];exact Y1 (Y8.1 k4 x hx)
   ·obtain ⟨x,hx,e⟩:=r2.rl r hr;rw [e];exact Y1 (Y8.1 k5 x hx))
  (fun p hp=>by
   have hp:p∈ [((some ⟨g1,0,none⟩,1),u1),((some ⟨g2,0,none⟩,1),u2)]:=hp;simp only [Z0,T0,or_false] at hp;rcases hp with rfl|rfl
   ·exact r1.rg
   ·exact r2.rg)
  (fun p hp=>by
   have hp:p∈ [((some ⟨g1,0,none⟩,1),u1),((some ⟨g2,0,none⟩,1),u2)]:=hp;simp only [Z0,T0,or_false] at hp;rcases hp with rfl|rfl
   ·exact r1.hown.rg
   ·exact r2.hown.rg)
 refine hcall.mono fun e w' hr=>?_;cases e with
 |panicked ch=>exact hr.elim
 |outgrown=>exact hr.elim
 |returned v=>
  obtain ⟨hch,rfl⟩:=hr;refine ⟨[],S,φ,[.bool true],km8 hs hch (fun b hb=>?_) (fun i e h=>?_) rfl,⟨CR.bool true,trivial⟩,rfl,fun i hi=>by cases hi⟩
  ·have key: ∀i,i<7->(∃a,At (φ i) a/\a.block=b)->b∈zc4 φ 7:=fun i hi h=>V6.2 ⟨i,V0.2 hi,zr4.2 h⟩;rcases X4.1 hb with hb|hb
   ·rcases X4.1 hb with hb|hb
    ·rcases X4.1 hb with hb|hb
     ·obtain ⟨i,hi,h⟩:=iI b hb;exact key i (by omega) h
     ·obtain ⟨i,hi,h⟩:=iY b hb;exact key i (by omega) h
    ·obtain ⟨i,hi,h⟩:=iH b hb;exact key i (by omega) h
   ·obtain ⟨i,hi,h⟩:=iR b hb;exact key i (by omega) h
  ·match i,h with
   |0,h=>exact (X5 h).symm
   |1,h=>exact (X5 h).symm
   |2,h=>exact (X5 h).symm
   |3,h=>exact (X5 h).symm
   |4,h=>exact (X5 h).symm
   |5,h=>exact (X5 h).symm
   |6,h=>exact (X5 h).symm
   |i+7,h=>cases h
end
end Go.X
