import Derived.Test.YtliopfopmhhdeaaGreatRl
set_option linter.defProp false
namespace Go.Y
open Go.RowKit Go.V Go.X
def kx8 {m:Tbl} (hm:yt3 m) {v i n:Int} {b row:List Int} {o q:Nat} (hle:o+q<=row.length) (hbe:List.take q (List.drop o row)=b) (hb:zd1 b=true):
  qaf BIG m v i n row o q=some ((((),()),(zu1 m v i n b).1,row,()),((zu1 m v i n b).2.1,(zu1 m v i n b).2.2,())):=by
 rw [kz0];simp only [hle,hbe,if_true];rw [yw7,z7];dsimp only;rw [U5,z2,qa6,z7];cases hr:zh6 v i n b with
 |false=>unfold zu1;rw [hr];rfl
 |true=>
  have hr':=za8.1 hr;have hbp:zw7 b:=⟨by omega,hb⟩;have hbn:b≠ []:=fun e=>by rw [e] at hr';simp at hr'
  rw [U5,z2];unfold zu1;rw [hr];simp only [S7,if_false];cases ht:zg0 m v with
  |true=>
   have hu:UpOk (zp6 m v):=hm _ (zy8 ht);have hse:k9 m v (zp6 m v)=m:=zq7 ht;have hfx:=qw9 hu;rw [z6];simp only [if_true];have hq0:(zc2 TT (.user 3) m v:Upload)=zp6 m v:=rfl;rw [hq0];generalize zp6 m v=u at hu hse hfx⊢;rw [if_pos (by omega),hfx];by_cases hw:u.whole=n
   ·have hw':(u.whole != n)=false:=by simp [hw]
    rw [hw',z2];have hg:=jx2 hu i.toNat;have hU:=hu.set hbp i.toNat;have key:(z8 (k8 (u.pieces.set i.toNat b) u.whole)
      (j5 (qm (u.pieces.set i.toNat b) u.whole) fun y4=>some ((((),()),k9 m v (⟨y4.1.1.1,y4.1.1.2.1⟩:Upload),row,()),(([]:List Int),(0:Int),())))
      (j5 (qn (u.pieces.set i.toNat b) u.whole) fun y5=>yq7 y5.2.1.isEmpty
       (some ((((),()),k9 m v (⟨y5.1.1.1,y5.1.1.2.1⟩:Upload),row,()),(y5.2.1,(0:Int),())))
       (some ((((),()),ze0 m v,row,()),(y5.2.1,(0:Int),())))))
      =some ((((),()),(zh5 m v ⟨u.pieces.set i.toNat b,u.whole⟩).1,row,()),((zh5 m v ⟨u.pieces.set i.toNat b,u.whole⟩).2.1,(zh5 m v ⟨u.pieces.set i.toNat b,u.whole⟩).2.2,())):=by
     unfold zh5;cases hmi:k8 (u.pieces.set i.toNat b) u.whole with
     |true=>rw [z6,yn8 hU hmi,z7];rfl
     |false=>
      rw [z2,yn9 hU hmi,z7];dsimp only;rw [yo4 hU hmi,zr8];rfl
    cases hp:(u.pieces.getD i.toNat ([]:List Int)).isEmpty with
    |true=>
     have hp':u.pieces.getD i.toNat ([]:List Int)= []:=by simpa using hp
     rw [z6,zt7 hbn hbp.1,z7];rw [if_pos (by omega),if_pos (by omega),key,if_neg (by rw [hp'];simp [hw])]
    |false=>
     have hp':u.pieces.getD i.toNat ([]:List Int)≠ []:=fun e=>by rw [e] at hp;cases hp
     rw [z2,jw7 hg.2 hb,z7];by_cases he:u.pieces.getD i.toNat ([]:List Int)=b
     ·rw [W6 he,U5,z2,zt7 hbn hbp.1,z7];rw [if_pos (by omega),if_pos (by omega),key,if_neg (fun h=>h.elim (fun h=>h hw) fun h=>h.2 he)]
     ·rw [W7 he,M5,z6,if_pos (.inr ⟨hp',he⟩)];show some ((((),()),k9 m v u,row,()),(([]:List Int),(7:Int),()))=_;rw [hse]
   ·have hw':(u.whole != n)=true:=by simp [hw]
    rw [hw',z6,if_pos (.inl hw)];show some ((((),()),k9 m v u,row,()),(([]:List Int),(7:Int),()))=_;rw [hse]
  |false=>
   rw [z2];simp only [R9,if_false];have hu:UpOk ⟨List.replicate 40 [],n⟩:=qt2 (by omega);have hU:UpOk ⟨(List.replicate 40 []).set i.toNat b,n⟩:=hu.set hbp i.toNat;have hd:(List.replicate 40 ([]:List Int)).getD i.toNat ([]:List Int)= []:=by
    rw [Y2,List.getElem?_replicate];split<;>rfl
   have hn:(n != n)=false:=by simp
   rw [if_pos (by omega),hn,z2,hd];rw [show ([]:List Int).isEmpty=true from rfl,z6];rw [zt7 hbn hbp.1,z7];rw [if_pos (by omega),if_pos (by omega),if_neg (fun h=>h.elim (fun h=>h rfl) fun h=>h.1 rfl)];unfold zh5;cases hmi:k8 ((List.replicate 40 ([]:List Int)).set i.toNat b) n with
   |true=>
    rw [z6,yn8 hU hmi,z7];dsimp only;rw [ym9];rfl
   |false=>
    rw [z2,yn9 hU hmi,z7];dsimp only;rw [yo4 hU hmi,zr8,yc7];rfl
def kx6 (x:Int) (n:Nat) (hn:1<=n) (hb:n<=1000): ∃p:Nat,p<n/\qad BIG x (n:Int)=some (p:Int)/\ ∀k:Nat,x=(k:Int)->k<n->p=k:=by
 have hn0:(0:Int)<(n:Int):=by omega
 rw [ky6,W7 (by omega),z2,if_neg (by omega)];rcases Int.le_total 0 x with hx|hx
 ·have h1:=Int.tmod_nonneg (n:Int) hx;have h2:=Int.tmod_lt_of_pos x hn0;rw [W7 (by omega),z2];refine ⟨(x.tmod n).toNat,by omega,by rw [Int.toNat_of_nonneg h1],fun k hk hkn=>?_⟩;subst hk;rw [Int.tmod_eq_of_lt hx (by omega),Z1]
 ·have h1:=Int.tmod_nonneg (n:Int) (a:= -x) (by omega);have h2:=Int.tmod_lt_of_pos (-x) hn0;have h3:x.tmod n= -((-x).tmod n):=by rw [<-Int.neg_tmod,Int.neg_neg]
  rw [h3];by_cases hz:(-x).tmod n=0
  ·rw [hz,W7 (by omega),z2];refine ⟨0,by omega,rfl,fun k hk hkn=>by omega⟩
  ·rw [W6 (by omega),z6,zp9 (by omega)];exact ⟨(-((-x).tmod n)+n).toNat,by omega,by rw [Int.toNat_of_nonneg (by omega)],fun k hk hkn=>by
    have:x=0:=by omega
    subst this;simp at hz⟩
def vz1 (a:List Int) (h:a.length<=400000000):qk BIG a a=some true:=by
 rw [kt6];rw [show (((a.length:Nat):Int) != ((a.length:Nat):Int))=false by simp,z2];refine yq4 (fun n k=>jp7 n a a (k:Int)) 1 a.length _ (fun n k hk=>?_) (fun n=>?_) BIG (by unfold BIG;omega)
 ·show jp7 (n+1) a a (k:Int)=jp7 n a a ((k+1:Nat):Int);rw [yv4,W6 (by omega),z6,if_pos (by omega),if_pos (by omega),nx hk (by omega)];simp [z2]
 ·show jp7 (n+1) a a ((a.length:Nat):Int)=some true;rw [yv4,W7 (by omega),z2]
def kj8 {m:Tbl} (v:Int):qae BIG m v=some ((((),()),(if zg0 m v=true then ze0 m v else m),()),((if zg0 m v=true then 0 else 6:Int),())):=by
 rw [ky8,yw7,z7];dsimp only;rw [U5,z2,ze5];split
 ·first|rfl|rw [if_pos rfl]
 ·rfl
def kj9 (r:List Come) (v:Int) (hr:r.length<=900):qah BIG r v=some (((((if zb6 r v=0 then r else zq3 r v),()),(),()),((if zb6 r v=0 then 6 else 0:Int),()))):=by
 rw [kz4,vg0 r v (by omega),z7];dsimp only;rw [ze5];by_cases h:zb6 r v=0
 ·rw [if_pos (ka9 h),if_pos h,if_pos h]
 ·rw [if_neg (by rw [kb0 h];simp),qw8 r v (by omega),z7,if_neg h,if_neg h]
def yt0 (d:Do):List Int:=if d.Full=true then List.replicate (1024-d.Piece.length) 0++d.Piece else d.Piece
def jv3 (d:Do) (h:d.Piece.length<=3000):qag BIG d=some (yt0 d):=by
 rw [kz2,ze5];unfold yt0;split
 ·have hg:IntKind.i64.wrap ((1024:Int)-(yp7 ((d.Piece.length:Nat):Int) (1024:Int)))=((1024-d.Piece.length:Nat):Int):=by
   have hm:yp7 ((d.Piece.length:Nat):Int) (1024:Int)=((min d.Piece.length 1024:Nat):Int):=by unfold yp7;split<;>omega
   rw [hm,zp9 (by omega)];omega
  rw [hg,Z1,if_pos (by omega),if_pos (by rw [Z9];omega)]
 ·rfl
def qf4 (d:Do) (h:d.Piece.length<=3000):(yt0 d).length<=3000:=by
 unfold yt0;split
 ·rw [X9,Z9];omega
 ·exact h
def vk5 (d:Do) (h:zd1 d.Piece=true):zd1 (yt0 d)=true:=by
 unfold yt0;split
 ·unfold zd1 at h⊢;rw [List.all_append,h,Bool.and_true,Y8];intro x hx;rw [T8 hx];rfl
 ·exact h
def kl4 (k:Nat): ∃y,zc0 BIG 2 (k:Int)=some y:=by
 rw [zs9,zz5];exact ⟨_,rfl⟩
def kx2 (b:List Int) (h:b.length<=1000000): ∃y,qt BIG (b++marksB) 0 b.length=some y:=by
 have hm:marksB.length=12:=rfl;rw [gi0,zp9 (by omega),if_pos (by rw [X9,hm];omega)];rw [show (((b.length:Nat):Int)+12).toNat-0=b.length+12 by omega];obtain ⟨n1,s1,h1,h2,h3⟩:=jf6 (fun n (s:List Int) k=>qd3 n 0 (b.length+12) (k:Int) s) (fun _ s=>s.length=b.length+12) 1 (b.length+12) (fun n s k hk hc hs=>by
  obtain ⟨n,rfl⟩: ∃m,n=m+1:=⟨n-1,by omega⟩;obtain ⟨y,hy⟩:=kl4 k;refine ⟨n,s.set (0+(k:Int).toNat) y,by omega,by rw [Q1,hs],(qn1 n 0 (b.length+12) (k:Int) s).trans ?_⟩;rw [W6 (by omega),z6,hy,z7,if_pos (by omega),if_pos (by omega),nx hk (by omega)]) (b.length+12) 0 BIG (b++marksB) (by omega) (by unfold BIG;omega) (by rw [X9,hm])
 have h3:qd3 BIG 0 (b.length+12) 0 (b++marksB)=_:=h3;show ∃y,qd3 BIG (0+0) (b.length+12) 0 (b++marksB)=some y;rw [U0,h3];obtain ⟨n,rfl⟩: ∃m,n1=m+1:=⟨n1-1,by unfold BIG at h1;omega⟩;rw [qn1,W7 (by omega),z2];exact ⟨_,rfl⟩
structure St2 (i:Nat) (told:List Row8) (m:Tbl) (r:List Come):Prop where
 rel:Rel m r
 rl:r.length<=i
 ml:m.length<=i
 tl:told.length<=i
 tk: ∀x∈told,x.l.length<=40960
def Rel.keysOk {m:Tbl} {r:List Come} (h:Rel m r) (hl:m.length<=1000):Go.X.keysOk m=true:=by
 unfold Go.X.keysOk;rw [X3,Y8];refine ⟨fun p hp=>?_,W5 (by omega)⟩;have:=h.rng p.1 (U2.2 ⟨p,hp,rfl⟩);rw [X3,decide_eq_true_eq,decide_eq_true_eq];omega
def ka0 (m:Tbl) (v:Int) (a:Upload):(k9 m v a).length<=m.length+1:=by
 have h:=congrArg List.length (yl5 m v a);unfold zg7 at h;rw [U6] at h;rw [h];split<;>simp
def qp4 (m:Tbl) (v:Int):(ze0 m v).length<=m.length:=by
 have h:=congrArg List.length (yb8 m v);unfold zg7 at h;rw [U6] at h;rw [h];have:=(List.erase_sublist (a:=v) (l:=m.map Prod.fst)).length_le;rwa [U6] at this
def qq1 (m:Tbl) (v:Int) (u:Upload):(zh5 m v u).1.length<=m.length+1:=by
 unfold zh5;split
 ·exact ka0 _ _ _
 ·exact Nat.le_succ_of_le (qp4 m v)
def vw9 (m:Tbl) (v i n:Int) (b:List Int):(zu1 m v i n b).1.length<=m.length+1:=by
 unfold zu1;split
 ·exact Nat.le_succ _
 ·dsimp only;generalize (if zg0 m v=true then zp6 m v else (⟨List.replicate 40 [],n⟩:Upload))=u;split
  ·exact Nat.le_succ _
  ·exact qq1 _ _ _
section
variable {l:List Do} {i:Nat} {told:List Row8} {m:Tbl} {r:List Come}
def vo8 (h:St2 (i+1) told m r) (hi:i<120) (hil:i<l.length) (n:Nat) (hn:5<=n):
  ∃n',n<=n'+5/\qu1 n l (i:Int) told m r=jd0 n' l ((i+1:Nat):Int) told m r:=by
 obtain ⟨n,rfl⟩: ∃k,n=k+1+1:=⟨n-2,by omega⟩;have h1:=h.rl;have h2:=h.ml;have hk:=h.rel.keysOk (by omega);have hs:(zk8 (zg7 m)).length<=1000:=by rw [(zn6 _).length_eq];unfold zg7;rw [U6];omega
 have ha:ki6 (zk8 (zg7 m)) (zk8 (zg7 m))=some (((),(),(),()),(true,())):=by
  unfold ki6;have:zr5 List.length [zk8 (zg7 m),zk8 (zg7 m)]=true:=by
   unfold zr5;rw [X3,Y8];refine ⟨rfl,fun x hx=>W5 ?_⟩;rcases Z0.1 hx with rfl|hx
   ·omega
   ·rw [Q5.1 hx];omega
  rw [this]
 refine ⟨n,by omega,?_⟩;rw [vx7,qc3 hk,z7];dsimp only;rw [km0 r (by omega),z7];dsimp only;rw [h.rel.opn];show j5 (qk BIG (zk8 (zg7 m)) (zk8 (zg7 m))) _=_;rw [vz1 _ (by omega),z7,U5,z2,qc3 hk,z7];dsimp only;show j5 (ki6 (zk8 (zg7 m)) (zk8 (zg7 m))) _=_;rw [ha,z7];dsimp only;rw [U5,vx9,z2,nx (len:=120) hi (by omega)]
def qs6 (hb: ∀d∈l,zd1 d.Piece=true) (h:St2 i told m r) (hil:i<l.length) (n:Nat) (hn:20<=n) (hi:i<120):
  jd0 n l (i:Int) told m r=some true\/ ∃n' told' m' r',n<=n'+20/\St2 (i+1) told' m' r'/\jd0 n l (i:Int) told m r=jd0 n' l ((i+1:Nat):Int) told' m' r':=by
 obtain ⟨n,rfl⟩: ∃k,n=k+1+1:=⟨n-2,by omega⟩;have h1:=h.rl;have h2:=h.ml;have h3:=h.tl;rw [qm0,W6 (by omega),z6,W6 (by omega),ql9,z6,if_pos (by omega),Z1];have hd:l.getD i dDo∈l:=by rw [Y2,Y0 hil];exact List.getElem_mem hil
 have hbd:=hb _ hd;generalize l.getD i dDo=d at hbd;by_cases hp:3000<d.Piece.length
 ·left;rw [W6 (by omega),z6,yf4,z7]
 right;obtain ⟨p,_,hpk,_⟩:=kx6 d.Op 5 (by omega) (by omega);have hpk:qad BIG d.Op 5=some (p:Int):=hpk;rw [W7 (by omega),z2,hpk,z7,ze5];by_cases h4:(p:Int)=4
 ·rw [if_pos (ka9 h4),kj8,z7];dsimp only;rw [kj9 r _ (by omega),z7];dsimp only;have hw:=h.rel.whole1 d.Version;by_cases ht:zg0 m d.Version=true
  ·have hw:=hw.2 ht;rw [if_pos ht,if_pos ht,if_neg (by omega),if_neg (by omega)];have hS:St2 (i+1) told (ze0 m d.Version) (zq3 r d.Version):=⟨h.rel.drop _,by have:=yy4 r d.Version;omega,by have:=qp4 m d.Version;omega,by omega,h.tk⟩;obtain ⟨n',g1,g2⟩:=vo8 (l:=l) hS hi hil n (by omega);exact ⟨n',_,_,_,by omega,hS,g2⟩
  ·have hw:zb6 r d.Version=0:=by
    have h0:=h.rel.whole d.Version;rwa [if_neg ht] at h0
   rw [if_neg ht,if_neg ht,if_pos hw,if_pos hw];have hS:St2 (i+1) told m r:=⟨h.rel,by omega,by omega,by omega,h.tk⟩;obtain ⟨n',g1,g2⟩:=vo8 (l:=l) hS hi hil n (by omega);exact ⟨n',_,_,_,by omega,hS,g2⟩
 ·rw [if_neg (by rw [kb0 h4];simp),jv3 d (by omega),z7];have hpl:=qf4 d (by omega);have hpb:=vk5 d hbd;generalize yt0 d=b at hpl hpb;have hm12:marksB.length=12:=rfl;rw [js5 b (by omega),z7];dsimp only;rw [kx8 h.rel.ok (b:=b) (row:=b++marksB) (o:=0) (q:=b.length) (by rw [X9];omega) (by rw [N0];exact List.take_left' rfl) hpb,z7];dsimp only;rw [kx9 r _ _ _ b (by omega) (fun c hc=>(h.rel.small c hc).1),z7];dsimp only;obtain ⟨e1,e2⟩:=h.rel.step d.Version d.At d.Whole b hpb;have e3:=vx0 r d.Version d.At d.Whole b;have e4:=vw9 m d.Version d.At d.Whole b;have e5:=vx1 r d.Version d.At d.Whole b (fun c hc=>(h.rel.small c hc).1);rw [e1];have hne:((yb2 r d.Version d.At d.Whole b).2.2 != (yb2 r d.Version d.At d.Whole b).2.2)=false:=bne_self_eq_false _;rw [hne,z2,vf1 (by omega),W6 rfl,z7,U5,z2];have hk:=js3 b (by omega);obtain ⟨y,hy⟩:=kx2 b (by omega);generalize (yb2 r d.Version d.At d.Whole b).2.1=out at e5⊢;generalize (yb2 r d.Version d.At d.Whole b).1=r2 at e2 e3⊢;generalize (zu1 m d.Version d.At d.Whole b).1=m2 at e2 e4⊢;simp only [hk,z7,U5];obtain ⟨n,rfl⟩: ∃k,n=k+1:=⟨n-1,by omega⟩;rw [vx8,z2];simp only [hy,z7];rw [ze5];by_cases ho:((out.length:Nat):Int)>0
  ·rw [W6 ho,if_pos rfl,if_pos (by simp;omega)];have hS:St2 (i+1) (told++(([zz0]:List Row8).set 0 (⟨out⟩:Row8))) m2 r2:=⟨e2,by omega,by omega,by simp;omega,fun x hx=>by
    rcases X4.1 hx with hx|hx
    ·exact h.tk x hx
    ·have:x=⟨out⟩:=Q5.1 hx;rw [this];exact e5⟩
   obtain ⟨n',g1,g2⟩:=vo8 (l:=l) hS hi hil n (by omega);exact ⟨n',_,_,_,by omega,hS,g2⟩
  ·rw [W7 ho,if_neg (by simp)];have hS:St2 (i+1) told m2 r2:=⟨e2,by omega,by omega,by omega,h.tk⟩;obtain ⟨n',g1,g2⟩:=vo8 (l:=l) hS hi hil n (by omega);exact ⟨n',_,_,_,by omega,hS,g2⟩
def vi8 (h:St2 i told m r) (hi:i<=120) (hil:i=l.length\/i=120) (n:Nat):jd0 (n+1+1) l (i:Int) told m r=some true:=by
 have hj: ∀n,vp1 (n+1) l (i:Int) false told m r=some true:=fun n=>by
  have h3:=h.tl;rw [ql9,z2,gj2 told (by omega) (fun x hx=>by have:=h.tk x hx;omega),z7];dsimp only;rw [z6,yf4,z7]
 rw [qm0];by_cases hl:i<l.length
 ·rw [W6 (by omega),z6,W7 (by omega),hj]
 ·rw [W7 (by omega),z2,hj]
end
def jf8 {l:List Do} (hb: ∀d∈l,zd1 d.Piece=true): ∀(k i n:Nat) (told:List Row8) (m:Tbl) (r:List Come),i+k=min l.length 120->20*k+2<=n->St2 i told m r->jd0 n l (i:Int) told m r=some true
 |0,i,n,told,m,r,hk,hn,h=>by
  obtain ⟨n,rfl⟩: ∃k,n=k+1+1:=⟨n-2,by omega⟩;exact vi8 h (by omega) (by omega) n
 |k+1,i,n,told,m,r,hk,hn,h=>by
  rcases qs6 hb h (by omega) n (by omega) (by omega) with h1|⟨n',told',m',r',g1,g2,g3⟩
  ·exact h1
  ·rw [g3];exact jf8 hb k (i+1) n' told' m' r' (by omega) (by omega) g2
def zs8 (l:List Do) (hb: ∀d∈l,zd1 d.Piece=true):qe BIG l=some true:=by
 rw [gg3,ku3,z7,ga0,z7];exact jf8 hb (min l.length 120) 0 BIG [] [] [] (by omega) (by unfold BIG;omega) ⟨Rel.nil,by simp,by simp,by simp,fun x h=>(N5 h).elim⟩
end Go.Y
