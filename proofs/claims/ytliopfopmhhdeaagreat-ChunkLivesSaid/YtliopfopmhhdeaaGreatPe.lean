import Derived.Test.YtliopfopmhhdeaaGreatRl
set_option linter.defProp false
namespace Go.Y
open Go.RowKit Go.V Go.X
def kr2 {m:Tbl} (hm:yr0 m) {v i n:Int} {b row:List Int} {o q:Nat} (hle:o+q<=row.length) (hbe:List.take q (List.drop o row)=b) (hb:ze1 b=true):
  qab BIG m v i n row o q=some ((((),()),(zt2 m v i n b).1,row,()),((zt2 m v i n b).2.1,(zt2 m v i n b).2.2,())):=by
 rw [kr8];simp only [hle,hbe,if_true];rw [yu6,z6];dsimp only;rw [U6,z1,jx8,z6];cases hr:zg9 v i n b with
 |false=>unfold zt2;rw [hr];rfl
 |true=>
  have hr':=za5.1 hr;have hbp:zv8 b:=⟨by omega,hb⟩;have hbn:b≠ []:=fun e=>by rw [e] at hr';simp at hr'
  rw [U6,z1];unfold zt2;rw [hr];simp only [R7,if_false];cases ht:zf1 m v with
  |true=>
   have hu:UpOk (zo1 m v):=hm _ (zy0 ht);have hse:k8 m v (zo1 m v)=m:=zp4 ht;have hfx:=qs7 hu;rw [z2];simp only [if_true];have hq0:(zb7 TT (.user 3) m v:Upload)=zo1 m v:=rfl;rw [hq0];generalize zo1 m v=u at hu hse hfx⊢;rw [if_pos (by omega),hfx];by_cases hw:u.whole=n
   ·have hw':(u.whole != n)=false:=by simp [hw]
    rw [hw',z1];have hg:=ju7 hu i.toNat;have hU:=hu.set hbp i.toNat;have key:(z7 (k7 (u.pieces.set i.toNat b) u.whole)
      (j7 (qk (u.pieces.set i.toNat b) u.whole) fun y4=>some ((((),()),k8 m v (⟨y4.1.1.1,y4.1.1.2.1⟩:Upload),row,()),(([]:List Int),(0:Int),())))
      (j7 (ql (u.pieces.set i.toNat b) u.whole) fun y5=>yo5 y5.2.1.isEmpty
       (some ((((),()),k8 m v (⟨y5.1.1.1,y5.1.1.2.1⟩:Upload),row,()),(y5.2.1,(0:Int),())))
       (some ((((),()),zc9 m v,row,()),(y5.2.1,(0:Int),())))))
      =some ((((),()),(zg7 m v ⟨u.pieces.set i.toNat b,u.whole⟩).1,row,()),((zg7 m v ⟨u.pieces.set i.toNat b,u.whole⟩).2.1,(zg7 m v ⟨u.pieces.set i.toNat b,u.whole⟩).2.2,())):=by
     unfold zg7;cases hmi:k7 (u.pieces.set i.toNat b) u.whole with
     |true=>rw [z2,ym3 hU hmi,z6];rfl
     |false=>
      rw [z1,ym4 hU hmi,z6];dsimp only;rw [ym9 hU hmi,zq8];rfl
    cases hp:(u.pieces.getD i.toNat ([]:List Int)).isEmpty with
    |true=>
     have hp':u.pieces.getD i.toNat ([]:List Int)= []:=by simpa using hp
     rw [z2,zw0 hbn hbp.1,z6];rw [if_pos (by omega),if_pos (by omega),key,if_neg (by rw [hp'];simp [hw])]
    |false=>
     have hp':u.pieces.getD i.toNat ([]:List Int)≠ []:=fun e=>by rw [e] at hp;cases hp
     rw [z1,ju3 hg.2 hb,z6];by_cases he:u.pieces.getD i.toNat ([]:List Int)=b
     ·rw [W6 he,U6,z1,zw0 hbn hbp.1,z6];rw [if_pos (by omega),if_pos (by omega),key,if_neg (fun h=>h.elim (fun h=>h hw) fun h=>h.2 he)]
     ·rw [W7 he,M3,z2,if_pos (.inr ⟨hp',he⟩)];show some ((((),()),k8 m v u,row,()),(([]:List Int),(7:Int),()))=_;rw [hse]
   ·have hw':(u.whole != n)=true:=by simp [hw]
    rw [hw',z2,if_pos (.inl hw)];show some ((((),()),k8 m v u,row,()),(([]:List Int),(7:Int),()))=_;rw [hse]
  |false=>
   rw [z1];simp only [R6,if_false];have hu:UpOk ⟨List.replicate 40 [],n⟩:=qp1 (by omega);have hU:UpOk ⟨(List.replicate 40 []).set i.toNat b,n⟩:=hu.set hbp i.toNat;have hd:(List.replicate 40 ([]:List Int)).getD i.toNat ([]:List Int)= []:=by
    rw [Y2,List.getElem?_replicate];split<;>rfl
   have hn:(n != n)=false:=by simp
   rw [if_pos (by omega),hn,z1,hd];rw [show ([]:List Int).isEmpty=true from rfl,z2];rw [zw0 hbn hbp.1,z6];rw [if_pos (by omega),if_pos (by omega),if_neg (fun h=>h.elim (fun h=>h rfl) fun h=>h.1 rfl)];unfold zg7;cases hmi:k7 ((List.replicate 40 ([]:List Int)).set i.toNat b) n with
   |true=>
    rw [z2,ym3 hU hmi,z6];dsimp only;rw [yl4];rfl
   |false=>
    rw [z1,ym4 hU hmi,z6];dsimp only;rw [ym9 hU hmi,zq8,yb4];rfl
def kr0 (x:Int) (n:Nat) (hn:1<=n) (hb:n<=1000): ∃p:Nat,p<n/\qy BIG x (n:Int)=some (p:Int)/\ ∀k:Nat,x=(k:Int)->k<n->p=k:=by
 have hn0:(0:Int)<(n:Int):=by omega
 rw [gb1,W7 (by omega),z1,if_neg (by omega)];rcases Int.le_total 0 x with hx|hx
 ·have h1:=Int.tmod_nonneg (n:Int) hx;have h2:=Int.tmod_lt_of_pos x hn0;rw [W7 (by omega),z1];refine ⟨(x.tmod n).toNat,by omega,by rw [Int.toNat_of_nonneg h1],fun k hk hkn=>?_⟩;subst hk;rw [Int.tmod_eq_of_lt hx (by omega),Z1]
 ·have h1:=Int.tmod_nonneg (n:Int) (a:= -x) (by omega);have h2:=Int.tmod_lt_of_pos (-x) hn0;have h3:x.tmod n= -((-x).tmod n):=by rw [<-Int.neg_tmod,Int.neg_neg]
  rw [h3];by_cases hz:(-x).tmod n=0
  ·rw [hz,W7 (by omega),z1];refine ⟨0,by omega,rfl,fun k hk hkn=>by omega⟩
  ·rw [W6 (by omega),z2,yh0 (by omega)];exact ⟨(-((-x).tmod n)+n).toNat,by omega,by rw [Int.toNat_of_nonneg (by omega)],fun k hk hkn=>by
    have:x=0:=by omega
    subst this;simp at hz⟩
def vu6 (a:List Int) (h:a.length<=400000000):qi BIG a a=some true:=by
 rw [kn0];rw [show (((a.length:Nat):Int) != ((a.length:Nat):Int))=false by simp,z1];refine je1 (fun n k=>jn4 n a a (k:Int)) 1 a.length _ (fun n k hk=>?_) (fun n=>?_) BIG (by unfold BIG;omega)
 ·show jn4 (n+1) a a (k:Int)=jn4 n a a ((k+1:Nat):Int);rw [yt1,W6 (by omega),z2,if_pos (by omega),if_pos (by omega),nx hk (by omega)];simp [z1]
 ·show jn4 (n+1) a a ((a.length:Nat):Int)=some true;rw [yt1,W7 (by omega),z1]
def ke1 {m:Tbl} (v:Int):qaa BIG m v=some ((((),()),(if zf1 m v=true then zc9 m v else m),()),((if zf1 m v=true then 0 else 6:Int),())):=by
 rw [kr6,yu6,z6];dsimp only;rw [U6,z1,zd2];split
 ·first|rfl|rw [if_pos rfl]
 ·rfl
def ke2 (r:List Come) (v:Int) (hr:r.length<=900):qad BIG r v=some (((((if zb1 r v=0 then r else zp0 r v),()),(),()),((if zb1 r v=0 then 6 else 0:Int),()))):=by
 rw [ks2,vc1 r v (by omega),z6];dsimp only;rw [zd2];by_cases h:zb1 r v=0
 ·rw [if_pos (vw1 h),if_pos h,if_pos h]
 ·rw [if_neg (by rw [vw2 h];simp),qs6 r v (by omega),z6,if_neg h,if_neg h]
def yq7 (d:Do):List Int:=if d.Full=true then List.replicate (1024-d.Piece.length) 0++d.Piece else d.Piece
def jt0 (d:Do) (h:d.Piece.length<=3000):qac BIG d=some (yq7 d):=by
 rw [ks0,zd2];unfold yq7;split
 ·have hg:IntKind.i64.wrap ((1024:Int)-(jp1 ((d.Piece.length:Nat):Int) (1024:Int)))=((1024-d.Piece.length:Nat):Int):=by
   have hm:jp1 ((d.Piece.length:Nat):Int) (1024:Int)=((min d.Piece.length 1024:Nat):Int):=by unfold jp1;split<;>omega
   rw [hm,yh0 (by omega)];omega
  rw [hg,Z1,if_pos (by omega),if_pos (by rw [Z9];omega)]
 ·rfl
def qc5 (d:Do) (h:d.Piece.length<=3000):(yq7 d).length<=3000:=by
 unfold yq7;split
 ·rw [X9,Z9];omega
 ·exact h
def vg9 (d:Do) (h:ze1 d.Piece=true):ze1 (yq7 d)=true:=by
 unfold yq7;split
 ·unfold ze1 at h⊢;rw [List.all_append,h,Bool.and_true,Y8];intro x hx;rw [R4 hx];rfl
 ·exact h
def kf7 (k:Nat): ∃y,zb6 BIG 2 (k:Int)=some y:=by
 rw [zs1,zy6];exact ⟨_,rfl⟩
def kq7 (b:List Int) (h:b.length<=1000000): ∃y,qp BIG (b++marksB) 0 b.length=some y:=by
 have hm:marksB.length=12:=rfl;rw [ga3,yh0 (by omega),if_pos (by rw [X9,hm];omega)];rw [show (((b.length:Nat):Int)+12).toNat-0=b.length+12 by omega];obtain ⟨n1,s1,h1,h2,h3⟩:=vk5 (fun n (s:List Int) k=>qa3 n 0 (b.length+12) (k:Int) s) (fun _ s=>s.length=b.length+12) 1 (b.length+12) (fun n s k hk hc hs=>by
  obtain ⟨n,rfl⟩: ∃m,n=m+1:=⟨n-1,by omega⟩;obtain ⟨y,hy⟩:=kf7 k;refine ⟨n,s.set (0+(k:Int).toNat) y,by omega,by rw [Q1,hs],(qj2 n 0 (b.length+12) (k:Int) s).trans ?_⟩;rw [W6 (by omega),z2,hy,z6,if_pos (by omega),if_pos (by omega),nx hk (by omega)]) (b.length+12) 0 BIG (b++marksB) (by omega) (by unfold BIG;omega) (by rw [X9,hm])
 have h3:qa3 BIG 0 (b.length+12) 0 (b++marksB)=_:=h3;show ∃y,qa3 BIG (0+0) (b.length+12) 0 (b++marksB)=some y;rw [U0,h3];obtain ⟨n,rfl⟩: ∃m,n1=m+1:=⟨n1-1,by unfold BIG at h1;omega⟩;rw [qj2,W7 (by omega),z1];exact ⟨_,rfl⟩
structure St2 (i:Nat) (told:List Row8) (m:Tbl) (r:List Come):Prop where
 rel:Rel m r
 rl:r.length<=i
 ml:m.length<=i
 tl:told.length<=i
 tk: ∀x∈told,x.l.length<=40960
def Rel.keysOk {m:Tbl} {r:List Come} (h:Rel m r) (hl:m.length<=1000):Go.X.keysOk m=true:=by
 unfold Go.X.keysOk;rw [X3,Y8];refine ⟨fun p hp=>?_,W5 (by omega)⟩;have:=h.rng p.1 (U3.2 ⟨p,hp,rfl⟩);rw [X3,decide_eq_true_eq,decide_eq_true_eq];omega
def vv4 (m:Tbl) (v:Int) (a:Upload):(k8 m v a).length<=m.length+1:=by
 have h:=congrArg List.length (yk1 m v a);unfold zg0 at h;rw [U7] at h;rw [h];split<;>simp
def ql3 (m:Tbl) (v:Int):(zc9 m v).length<=m.length:=by
 have h:=congrArg List.length (ya5 m v);unfold zg0 at h;rw [U7] at h;rw [h];have:=(List.erase_sublist (a:=v) (l:=m.map Prod.fst)).length_le;rwa [U7] at this
def ql9 (m:Tbl) (v:Int) (u:Upload):(zg7 m v u).1.length<=m.length+1:=by
 unfold zg7;split
 ·exact vv4 _ _ _
 ·exact Nat.le_succ_of_le (ql3 m v)
def vs6 (m:Tbl) (v i n:Int) (b:List Int):(zt2 m v i n b).1.length<=m.length+1:=by
 unfold zt2;split
 ·exact Nat.le_succ _
 ·dsimp only;generalize (if zf1 m v=true then zo1 m v else (⟨List.replicate 40 [],n⟩:Upload))=u;split
  ·exact Nat.le_succ _
  ·exact ql9 _ _ _
section
variable {l:List Do} {i:Nat} {told:List Row8} {m:Tbl} {r:List Come}
def vl3 (h:St2 (i+1) told m r) (hi:i<120) (hil:i<l.length) (n:Nat) (hn:5<=n):
  ∃n',n<=n'+5/\qq1 n l (i:Int) told m r=ja8 n' l ((i+1:Nat):Int) told m r:=by
 obtain ⟨n,rfl⟩: ∃k,n=k+1+1:=⟨n-2,by omega⟩;have h1:=h.rl;have h2:=h.ml;have hk:=h.rel.keysOk (by omega);have hs:(zk0 (zg0 m)).length<=1000:=by rw [(zm4 _).length_eq];unfold zg0;rw [U7];omega
 have ha:kd1 (zk0 (zg0 m)) (zk0 (zg0 m))=some (((),(),(),()),(true,())):=by
  unfold kd1;have:zq3 List.length [zk0 (zg0 m),zk0 (zg0 m)]=true:=by
   unfold zq3;rw [X3,Y8];refine ⟨rfl,fun x hx=>W5 ?_⟩;rcases Z0.1 hx with rfl|hx
   ·omega
   ·rw [Q5.1 hx];omega
  rw [this]
 refine ⟨n,by omega,?_⟩;rw [vt3,jz5 hk,z6];dsimp only;rw [kg3 r (by omega),z6];dsimp only;rw [h.rel.opn];show j7 (qi BIG (zk0 (zg0 m)) (zk0 (zg0 m))) _=_;rw [vu6 _ (by omega),z6,U6,z1,jz5 hk,z6];dsimp only;show j7 (kd1 (zk0 (zg0 m)) (zk0 (zg0 m))) _=_;rw [ha,z6];dsimp only;rw [U6,vt5,z1,nx (len:=120) hi (by omega)]
def qo4 (hb: ∀d∈l,ze1 d.Piece=true) (h:St2 i told m r) (hil:i<l.length) (n:Nat) (hn:20<=n) (hi:i<120):
  ja8 n l (i:Int) told m r=some true\/ ∃n' told' m' r',n<=n'+20/\St2 (i+1) told' m' r'/\ja8 n l (i:Int) told m r=ja8 n' l ((i+1:Nat):Int) told' m' r':=by
 obtain ⟨n,rfl⟩: ∃k,n=k+1+1:=⟨n-2,by omega⟩;have h1:=h.rl;have h2:=h.ml;have h3:=h.tl;rw [qi2,W6 (by omega),z2,W6 (by omega),qi1,z2,if_pos (by omega),Z1];have hd:l.getD i dDo∈l:=by rw [Y2,Y0 hil];exact List.getElem_mem hil
 have hbd:=hb _ hd;generalize l.getD i dDo=d at hbd;by_cases hp:3000<d.Piece.length
 ·left;rw [W6 (by omega),z2,jc2,z6]
 right;obtain ⟨p,_,hpk,_⟩:=kr0 d.Op 5 (by omega) (by omega);have hpk:qy BIG d.Op 5=some (p:Int):=hpk;rw [W7 (by omega),z1,hpk,z6,zd2];by_cases h4:(p:Int)=4
 ·rw [if_pos (vw1 h4),ke1,z6];dsimp only;rw [ke2 r _ (by omega),z6];dsimp only;have hw:=h.rel.whole1 d.Version;by_cases ht:zf1 m d.Version=true
  ·have hw:=hw.2 ht;rw [if_pos ht,if_pos ht,if_neg (by omega),if_neg (by omega)];have hS:St2 (i+1) told (zc9 m d.Version) (zp0 r d.Version):=⟨h.rel.drop _,by have:=yw2 r d.Version;omega,by have:=ql3 m d.Version;omega,by omega,h.tk⟩;obtain ⟨n',g1,g2⟩:=vl3 (l:=l) hS hi hil n (by omega);exact ⟨n',_,_,_,by omega,hS,g2⟩
  ·have hw:zb1 r d.Version=0:=by
    have h0:=h.rel.whole d.Version;rwa [if_neg ht] at h0
   rw [if_neg ht,if_neg ht,if_pos hw,if_pos hw];have hS:St2 (i+1) told m r:=⟨h.rel,by omega,by omega,by omega,h.tk⟩;obtain ⟨n',g1,g2⟩:=vl3 (l:=l) hS hi hil n (by omega);exact ⟨n',_,_,_,by omega,hS,g2⟩
 ·rw [if_neg (by rw [vw2 h4];simp),jt0 d (by omega),z6];have hpl:=qc5 d (by omega);have hpb:=vg9 d hbd;generalize yq7 d=b at hpl hpb;have hm12:marksB.length=12:=rfl;rw [ve9 b (by omega),z6];dsimp only;rw [kr2 h.rel.ok (b:=b) (row:=b++marksB) (o:=0) (q:=b.length) (by rw [X9];omega) (by rw [N2];exact List.take_left' rfl) hpb,z6];dsimp only;rw [kr3 r _ _ _ b (by omega) (fun c hc=>(h.rel.small c hc).1),z6];dsimp only;obtain ⟨e1,e2⟩:=h.rel.step d.Version d.At d.Whole b hpb;have e3:=vs7 r d.Version d.At d.Whole b;have e4:=vs6 m d.Version d.At d.Whole b;have e5:=vs8 r d.Version d.At d.Whole b (fun c hc=>(h.rel.small c hc).1);rw [e1];have hne:((ya0 r d.Version d.At d.Whole b).2.2 != (ya0 r d.Version d.At d.Whole b).2.2)=false:=bne_self_eq_false _;rw [hne,z1,vb3 (by omega),W6 rfl,z6,U6,z1];have hk:=ve4 b (by omega);obtain ⟨y,hy⟩:=kq7 b (by omega);generalize (ya0 r d.Version d.At d.Whole b).2.1=out at e5⊢;generalize (ya0 r d.Version d.At d.Whole b).1=r2 at e2 e3⊢;generalize (zt2 m d.Version d.At d.Whole b).1=m2 at e2 e4⊢;simp only [hk,z6,U6];obtain ⟨n,rfl⟩: ∃k,n=k+1:=⟨n-1,by omega⟩;rw [vt4,z1];simp only [hy,z6];rw [zd2];by_cases ho:((out.length:Nat):Int)>0
  ·rw [W6 ho,if_pos rfl,if_pos (by simp;omega)];have hS:St2 (i+1) (told++(([vj8]:List Row8).set 0 (⟨out⟩:Row8))) m2 r2:=⟨e2,by omega,by omega,by simp;omega,fun x hx=>by
    rcases X4.1 hx with hx|hx
    ·exact h.tk x hx
    ·have:x=⟨out⟩:=Q5.1 hx;rw [this];exact e5⟩
   obtain ⟨n',g1,g2⟩:=vl3 (l:=l) hS hi hil n (by omega);exact ⟨n',_,_,_,by omega,hS,g2⟩
  ·rw [W7 ho,if_neg (by simp)];have hS:St2 (i+1) told m2 r2:=⟨e2,by omega,by omega,by omega,h.tk⟩;obtain ⟨n',g1,g2⟩:=vl3 (l:=l) hS hi hil n (by omega);exact ⟨n',_,_,_,by omega,hS,g2⟩
def vf1 (h:St2 i told m r) (hi:i<=120) (hil:i=l.length\/i=120) (n:Nat):ja8 (n+1+1) l (i:Int) told m r=some true:=by
 have hj: ∀n,vl6 (n+1) l (i:Int) false told m r=some true:=fun n=>by
  have h3:=h.tl;rw [qi1,z1,ge2 told (by omega) (fun x hx=>by have:=h.tk x hx;omega),z6];dsimp only;rw [z2,jc2,z6]
 rw [qi2];by_cases hl:i<l.length
 ·rw [W6 (by omega),z2,W7 (by omega),hj]
 ·rw [W7 (by omega),z1,hj]
end
def jd7 {l:List Do} (hb: ∀d∈l,ze1 d.Piece=true): ∀(k i n:Nat) (told:List Row8) (m:Tbl) (r:List Come),i+k=min l.length 120->20*k+2<=n->St2 i told m r->ja8 n l (i:Int) told m r=some true
 |0,i,n,told,m,r,hk,hn,h=>by
  obtain ⟨n,rfl⟩: ∃k,n=k+1+1:=⟨n-2,by omega⟩;exact vf1 h (by omega) (by omega) n
 |k+1,i,n,told,m,r,hk,hn,h=>by
  rcases qo4 hb h (by omega) n (by omega) (by omega) with h1|⟨n',told',m',r',g1,g2,g3⟩
  ·exact h1
  ·rw [g3];exact jd7 hb k (i+1) n' told' m' r' (by omega) (by omega) g2
def chunkLives_true (l:List Do) (hb: ∀d∈l,ze1 d.Piece=true):qd BIG l=some true:=by
 rw [ky8,kn6,z6,ks8,z6];exact jd7 hb (min l.length 120) 0 BIG [] [] [] (by omega) (by unfold BIG;omega) ⟨Rel.nil,by simp,by simp,by simp,fun x h=>(T8 h).elim⟩
def ve0 {b:List Int} (h:Go.X.Good TT (.list (.int .u8)) b):ze1 b=true:=by
 unfold ze1;rw [Y8];intro x hx;have:IntKind.has .u8 x:=Go.X.Good.int (T:=TT) (k:=.u8) ((Go.X.Good.list (T:=TT) (e:=.int .u8) h).2 x hx);unfold IntKind.has at this;simp [IntKind.min,IntKind.max,IntKind.signed,IntKind.bits] at this;simp;omega
def goodDos {l:List Do} (h:Go.X.Good TT (.list (.user 0)) l): ∀d∈l,ze1 d.Piece=true:=fun d hd=>by
 have h1:=(Go.X.Good.list (T:=TT) (e:=.user 0) h).2 d hd;refine ve0 fun c hc=>?_;have hc:c=⟨.list (.int .u8),d.Piece⟩:=Q5.1 hc;rw [hc];exact h1 ⟨.list (.int .u8),d.Piece⟩ (Z4 _ (Z4 _ (Z4 _ (Z4 _ (Z4 _ (Q5.2 rfl))))))
end Go.Y
