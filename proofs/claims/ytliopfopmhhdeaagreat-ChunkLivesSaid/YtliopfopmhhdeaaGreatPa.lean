import Derived.Test.YtliopfopmhhdeaaGreatIa
import Derived.Test.YtliopfopmhhdeaaGreatP0
set_option linter.defProp false
namespace Go.Y
open Go.RowKit Go.V Go.X
abbrev Tbl:=List (Int×Upload)
def ja0 (a:ByteArray): ∀m i r,a.size-i=m->ByteArray.toList.loop a i r=r.reverse++a.data.toList.drop i
 |0,i,r,h=>by
  rw [ByteArray.toList.loop.eq_1,if_neg (by omega),M4 (by show a.data.toList.length<=i;rw [J9];exact Nat.sub_eq_zero_iff_le.1 h),J4]
 |m+1,i,r,h=>by
  have hi:i<a.data.size:=by show i<a.size;omega
  rw [ByteArray.toList.loop.eq_1,if_pos (by show i<a.size;omega),ja0 a m (i+1) _ (by omega),N4,Q2];congr 1;rw [M5 (by rw [J9];exact hi:i<a.data.toList.length)];show [a.get! i]++_=_;rw [List.singleton_append];congr 1;show a.data[i]! =_;rw [getElem!_pos a.data i hi,Array.getElem_toList]
def qd3 (a:ByteArray):a.toList=a.data.toList:=by
 unfold ByteArray.toList;rw [ja0 a _ 0 [] rfl];rfl
def yl6: ∀(l:List Int) (a:ByteArray),(l.foldl (fun r n=>r.push (UInt8.ofNat n.toNat)) a).data.toList=a.data.toList++u8s l
 | [],a=>by simp [u8s]
 |x::l,a=>by
  rw [List.foldl_cons,yl6 l];show (a.data.push _).toList++_=_;rw [Array.toList_push,Q2];rfl
def ye0 (l:List Int):ByteArray.toList (zs7 l)=u8s l:=by
 rw [qd3];unfold zs7;rw [yl6];rfl
def vb8: ∀ {a b:List Int},ze1 a=true->ze1 b=true->u8s a=u8s b->a=b
 | [],[],_,_,_=>rfl
 | [],_::_,_,_,h=>by cases h
 |_::_,[],_,_,h=>by cases h
 |x::a,y::b,ha,hb,h=>by
  unfold ze1 at ha hb;rw [J1,X3] at ha hb;have h1:UInt8.ofNat x.toNat=UInt8.ofNat y.toNat:=(List.cons.inj h).1;have h2:u8s a=u8s b:=(List.cons.inj h).2;have hx:0<=x/\x<=255:=by simpa using ha.1
  have hy:0<=y/\y<=255:=by simpa using hb.1
  have:=vz4 hx;rw [h1,vz4 hy] at this;rw [this,vb8 ha.2 hb.2 h2]
def ju3 {a b:List Int} (ha:ze1 a=true) (hb:ze1 b=true):qr BIG a b=some (decide (a=b)):=by
 rw [ga6,ye0,ye0];congr 1;rw [Bool.eq_iff_iff,beq_iff_eq,decide_eq_true_iff];exact ⟨vb8 ha hb,fun h=>by rw [h]⟩
def zw0 {b:List Int} (h:b≠ []) (hl:b.length<=1024):qn BIG b=some b:=by
 rw [ga0];cases b with
 |nil=>exact absurd rfl h
 |cons x b=>
  show (if (0+(x::b).length)*1<=140737488355328 then some ([]++x::b) else none)=_;rw [if_pos (by omega)];rfl
def zo1 (m:Tbl) (v:Int):Upload:=zb7 TT (.user 3) m v
def zf3 (y:Int) (b:Upload) (r:Tbl) (v:Int):zo1 ((y,b)::r) v=if v=y then b else zo1 r v:=rfl
def zg6 {α:Type} (y:Int) (b:α) (r:List (Int×α)) (v:Int):zf1 ((y,b)::r) v=if v=y then true else zf1 r v:=rfl
def zv7 {α:Type} (y:Int) (b:α) (r:List (Int×α)) (v:Int) (a:α):k8 ((y,b)::r) v a=if v=y then (v,a)::r else (y,b)::k8 r v a:=rfl
def zp4: ∀ {m:Tbl} {v:Int},zf1 m v=true->k8 m v (zo1 m v)=m
 | [],v,h=>by cases h
 |(y,b)::r,v,h=>by
  rw [zv7,zf3];rw [zg6] at h;by_cases e:v=y
  ·subst e;rw [if_pos rfl,if_pos rfl]
  ·rw [if_neg e] at h;rw [if_neg e,if_neg e,zp4 h]
def yl4 {α:Type}: ∀(m:List (Int×α)) (v:Int) (a b:α),k8 (k8 m v a) v b=k8 m v b
 | [],v,a,b=>by simp [k8]
 |(y,c)::r,v,a,b=>by
  by_cases e:v=y
  ·simp [k8,e]
  ·simp [k8,e,yl4 r]
def yb4 {α:Type}: ∀(m:List (Int×α)) (v:Int) (a:α),zc9 (k8 m v a) v=zc9 m v
 | [],v,a=>by simp [k8,zc9]
 |(y,c)::r,v,a=>by
  by_cases e:v=y
  ·simp [k8,zc9,e]
  ·simp [k8,zc9,e,yb4 r]
def zy0: ∀ {m:Tbl} {v:Int},zf1 m v=true->(v,zo1 m v)∈m
 | [],v,h=>by cases h
 |(y,b)::r,v,h=>by
  rw [zf3];by_cases e:v=y
  ·subst e;rw [if_pos rfl];exact U2
  ·have h:zf1 r v=true:=by unfold zf1 at h;rwa [if_neg e] at h
   rw [if_neg e];exact Z4 _ (zy0 h)
def jj6 {α:Type}: ∀ {m:List (Int×α)} {v:Int} {a:α} {x:Int×α},x∈k8 m v a->x=(v,a)\/x∈m
 | [],v,a,x,h=>by simp [k8] at h;exact .inl h
 |(y,c)::r,v,a,x,h=>by
  unfold k8 at h;split at h
  ·rcases Z0.1 h with h|h
   ·exact .inl h
   ·exact .inr (Z4 _ h)
  ·rcases Z0.1 h with h|h
   ·exact .inr (h▸U2)
   ·rcases jj6 h with h|h
    ·exact .inl h
    ·exact .inr (Z4 _ h)
def jj5 {α:Type}: ∀ {m:List (Int×α)} {v:Int} {x:Int×α},x∈zc9 m v->x∈m
 | [],v,x,h=>h
 |(y,c)::r,v,x,h=>by
  unfold zc9 at h;split at h
  ·exact Z4 _ h
  ·rcases Z0.1 h with h|h
   ·exact h▸U2
   ·exact Z4 _ (jj5 h)
def zg9 (v i n:Int) (b:List Int):Bool:=decide (1<=v/\v<=1073741824/\1<=n/\n<=40/\0<=i/\i<n/\1<=b.length/\b.length<=1024/\(b.length=1024\/i=n-1))
def jx8 (v i n:Int) (b:List Int):qe BIG v i n b=some (zg9 v i n b):=by
 have e:(BIG:Nat)=999999999+1:=rfl;have e2:(BIG:Nat)=999999998+1+1:=rfl;have hJ1: ∀n i k c,qa2 (n+1) i k c true=some false:=fun n i k c=>by rw [qi4];rfl
 have hJ0: ∀n i k c,qa1 (n+1) i k c true=some false:=fun n i k c=>by rw [qi3];rfl
 rw [kz0,e2,hJ0];by_cases h1:1<=v/\v<=1073741824/\1<=n/\n<=40
 ·rw [W7 (by omega),z1,W7 (by omega),z1,W7 (by omega),z1,W7 (by omega),qi3,z1,hJ1];by_cases h2:0<=i/\i<n/\1<=b.length/\b.length<=1024
  ·rw [W7 (by omega),z1,W7 (by omega),z1,W7 (by omega),z1,W7 (by omega),qi4,z1,vp4,yh0 (by omega)];congr 1;unfold zg9;rw [Bool.eq_iff_iff,J3,beq_iff_eq,beq_iff_eq,decide_eq_true_iff];omega
  ·have:zg9 v i n b=false:=by unfold zg9;rw [decide_eq_false_iff_not];omega
   rw [this,zd2];split
   ·rfl
   rw [zd2];split
   ·rfl
   rw [zd2];split
   ·rfl
   rename_i a1 a2 a3;simp only [decide_eq_true_eq] at a1 a2 a3;rw [W6 (by omega),hJ1]
 ·have:zg9 v i n b=false:=by unfold zg9;rw [decide_eq_false_iff_not];omega
  rw [this,zd2];split
  ·rfl
  rw [zd2];split
  ·rfl
  rw [zd2];split
  ·rfl
  rename_i a1 a2 a3;simp only [decide_eq_true_eq] at a1 a2 a3;rw [W6 (by omega),hJ0]
def zv8 (p:List Int):Prop:=p.length<=1024/\ze1 p=true
structure UpOk (u:Upload):Prop where
 len:u.pieces.length=40
 whole:1<=u.whole/\u.whole<=40
 ok: ∀p∈u.pieces,zv8 p
def yr0 (m:Tbl):Prop:= ∀x∈m,UpOk x.2
def qg6:zv8 []:=⟨U4 _,rfl⟩
def qp1 {n:Int} (h:1<=n/\n<=40):UpOk ⟨List.replicate 40 [],n⟩:=⟨rfl,h,fun p hp=>by rw [R4 hp];exact qg6⟩
def UpOk.set {u:Upload} (h:UpOk u) {b:List Int} (hb:zv8 b) (i:Nat):UpOk ⟨u.pieces.set i b,u.whole⟩:=
 ⟨by show (u.pieces.set i b).length=40;rw [Q1,h.len],h.whole,fun p hp=>by
  rcases M0 hp with hp|hp
  ·exact h.ok p hp
  ·exact hp▸hb⟩
def qs7 {u:Upload} (h:UpOk u):zp7 40 ([]:List Int) u.pieces=u.pieces:=qv2 h.len
def vz2: ∀(l:List (List Int)),(∀p∈l,p.length<=1024)->l.flatten.length<=1024*l.length
 | [],_=>U4 _
 |p::l,h=>by
  rw [List.flatten_cons,X9,U5];have:=vz2 l fun p hp=>h p (Z4 _ hp);have:=h p U2;omega
def vm8 (u:Upload):List Int:=if k7 u.pieces u.whole=true then [] else (u.pieces.take u.whole.toNat).flatten
def vy0 {ps:List (List Int)} {n:Int}:qw BIG ps n=some (((ps,n,()),()),(((),(((),()),())),())):=ga9 BIG ps n
def ym3 {u:Upload} (h:UpOk u) (hm:k7 u.pieces u.whole=true):qk u.pieces u.whole=some (((u.pieces,u.whole,()),()),((),())):=by
 have:=h.whole;rw [kz7,vy0,z6];dsimp only;rw [if_pos (by unfold yq6;simp;omega),hm];rfl
def ym4 {u:Upload} (h:UpOk u) (hm:k7 u.pieces u.whole=false):ql u.pieces u.whole=some (((u.pieces,u.whole,()),()),(vm8 u,())):=by
 have hw:=h.whole;rw [kz8,vy0,z6];dsimp only;rw [if_pos (by unfold yq6;simp;omega),hm,z1,if_pos (by omega)];have e:jm7 u.pieces u.whole 0 (u.whole.toNat-0)=some (((u.pieces,u.whole,()),()),((u.pieces.take u.whole.toNat).flatten,())):=by
  unfold jm7;have hj:jy9 ((u.pieces.drop 0).take (u.whole.toNat-0))=true:=by
   rw [N2,J5];unfold jy9;have hl:(u.pieces.take u.whole.toNat).length=u.whole.toNat:=by rw [Y6,h.len];omega
   have hin: ∀p∈u.pieces.take u.whole.toNat,p∈u.pieces:=fun p hp=>N0 hp;have:=vz2 _ fun p hp=>(h.ok p (hin p hp)).1;rw [X3,X3];refine ⟨?_,?_,?_⟩
   ·cases hq:u.pieces.take u.whole.toNat with
    |nil=>rw [hq] at hl;simp at hl;omega
    |cons a b=>rfl
   ·rw [Y8];intro p hp;rw [X3];refine ⟨?_,(h.ok p (hin p hp)).2⟩;unfold k7 at hm;rw [List.any_eq_false] at hm;simpa using hm p hp
   ·rw [hl] at this;exact W5 (by omega)
  rw [hj];simp
 rw [e,z6];unfold vm8;rw [hm];simp
def ym9 {u:Upload} (h:UpOk u) (hm:k7 u.pieces u.whole=false):(vm8 u).isEmpty=false:=by
 have hw:=h.whole;unfold vm8;rw [hm];simp only [R6,if_false];have hl:(u.pieces.take u.whole.toNat).length=u.whole.toNat:=by rw [Y6,h.len];omega
 unfold k7 at hm;rw [List.any_eq_false] at hm;cases hq:u.pieces.take u.whole.toNat with
 |nil=>rw [hq] at hl;simp at hl;omega
 |cons a b=>
  have:=hm a (by rw [hq];exact U2);cases a with
  |nil=>simp at this
  |cons x a=>rfl
def zg7 (m:Tbl) (v:Int) (u:Upload):Tbl×List Int×Int:=if k7 u.pieces u.whole=true then (k8 m v u,[],0) else (zc9 m v,vm8 u,0)
def zt2 (m:Tbl) (v i n:Int) (b:List Int):Tbl×List Int×Int:=
 if zg9 v i n b=false then (m,[],2) else
 let u:Upload:=if zf1 m v=true then zo1 m v else ⟨List.replicate 40 [],n⟩
 if u.whole≠n\/(u.pieces.getD i.toNat []≠ []/\u.pieces.getD i.toNat []≠b) then (m,[],7) else zg7 m v ⟨u.pieces.set i.toNat b,u.whole⟩
def ju7 {u:Upload} (h:UpOk u) (i:Nat):zv8 (u.pieces.getD i []):=by
 rw [Y2];cases e:u.pieces[i]? with
 |none=>exact qg6
 |some p=>exact h.ok p (X6 e)
def za5 {v i n:Int} {b:List Int}:zg9 v i n b=true↔1<=v/\v<=1073741824/\1<=n/\n<=40/\0<=i/\i<n/\1<=b.length/\b.length<=1024/\(b.length=1024\/i=n-1):=by unfold zg9;exact decide_eq_true_iff
def zq8 {R:Type} (a b:Option R):yo5 false a b=b:=rfl
def yu6 (m:Tbl):qq BIG m=some ((((),()),m,()),(true,())):=ga5 BIG m
def vl5 {m:Tbl} (hm:yr0 m) {v i n:Int} {b:List Int} (hb:ze1 b=true):
  qu BIG m v i n b=some ((((),()),(zt2 m v i n b).1,()),((zt2 m v i n b).2.1,(zt2 m v i n b).2.2,())):=by
 rw [ga8,yu6,z6];dsimp only;rw [U6,z1,jx8,z6];cases hr:zg9 v i n b with
 |false=>unfold zt2;rw [hr];rfl
 |true=>
  have hr':=za5.1 hr;have hbp:zv8 b:=⟨by omega,hb⟩;have hbn:b≠ []:=fun e=>by rw [e] at hr';simp at hr'
  rw [U6,z1];unfold zt2;rw [hr];simp only [R7,if_false];cases ht:zf1 m v with
  |true=>
   have hu:UpOk (zo1 m v):=hm _ (zy0 ht);have hse:k8 m v (zo1 m v)=m:=zp4 ht;have hfx:=qs7 hu;rw [z2];simp only [if_true];have hq0:(zb7 TT (.user 3) m v:Upload)=zo1 m v:=rfl;rw [hq0];generalize zo1 m v=u at hu hse hfx⊢;rw [if_pos (by omega),hfx];by_cases hw:u.whole=n
   ·have hw':(u.whole != n)=false:=by simp [hw]
    rw [hw',z1];have hg:=ju7 hu i.toNat;have hU:=hu.set hbp i.toNat;have key:(z7 (k7 (u.pieces.set i.toNat b) u.whole)
      (j7 (qk (u.pieces.set i.toNat b) u.whole) fun y4=>some ((((),()),k8 m v (⟨y4.1.1.1,y4.1.1.2.1⟩:Upload),()),(([]:List Int),(0:Int),())))
      (j7 (ql (u.pieces.set i.toNat b) u.whole) fun y5=>yo5 y5.2.1.isEmpty
       (some ((((),()),k8 m v (⟨y5.1.1.1,y5.1.1.2.1⟩:Upload),()),(y5.2.1,(0:Int),())))
       (some ((((),()),zc9 m v,()),(y5.2.1,(0:Int),())))))
      =some ((((),()),(zg7 m v ⟨u.pieces.set i.toNat b,u.whole⟩).1,()),((zg7 m v ⟨u.pieces.set i.toNat b,u.whole⟩).2.1,(zg7 m v ⟨u.pieces.set i.toNat b,u.whole⟩).2.2,())):=by
     unfold zg7;cases hmi:k7 (u.pieces.set i.toNat b) u.whole with
     |true=>rw [z2,ym3 hU hmi,z6];rfl
     |false=>
      rw [z1,ym4 hU hmi,z6];dsimp only;rw [ym9 hU hmi,zq8];rfl
    cases hp:(u.pieces.getD i.toNat ([]:List Int)).isEmpty with
    |true=>
     have hp':u.pieces.getD i.toNat ([]:List Int)= []:=by simpa using hp
     rw [z2,zw0 hbn hbp.1,z6];rw [if_pos (by omega),if_pos (by omega),key,if_neg (by rw [hp'];simp [hw])]
    |false=>
     have hp':u.pieces.getD i.toNat ([]:List Int)≠ []:=fun e=>by rw [e] at hp;cases hp
     rw [z1,ju3 hg.2 hb,z6];by_cases he:u.pieces.getD i.toNat ([]:List Int)=b
     ·rw [W6 he,U6,z1,zw0 hbn hbp.1,z6];rw [if_pos (by omega),if_pos (by omega),key,if_neg (fun h=>h.elim (fun h=>h hw) fun h=>h.2 he)]
     ·rw [W7 he,M3,z2,if_pos (.inr ⟨hp',he⟩)];show some ((((),()),k8 m v u,()),(([]:List Int),(7:Int),()))=_;rw [hse]
   ·have hw':(u.whole != n)=true:=by simp [hw]
    rw [hw',z2,if_pos (.inl hw)];show some ((((),()),k8 m v u,()),(([]:List Int),(7:Int),()))=_;rw [hse]
  |false=>
   rw [z1];simp only [R6,if_false];have hu:UpOk ⟨List.replicate 40 [],n⟩:=qp1 (by omega);have hU:UpOk ⟨(List.replicate 40 []).set i.toNat b,n⟩:=hu.set hbp i.toNat;have hd:(List.replicate 40 ([]:List Int)).getD i.toNat ([]:List Int)= []:=by
    rw [Y2,List.getElem?_replicate];split<;>rfl
   have hn:(n != n)=false:=by simp
   rw [if_pos (by omega),hn,z1,hd];rw [show ([]:List Int).isEmpty=true from rfl,z2];rw [zw0 hbn hbp.1,z6];rw [if_pos (by omega),if_pos (by omega),if_neg (fun h=>h.elim (fun h=>h rfl) fun h=>h.1 rfl)];unfold zg7;cases hmi:k7 ((List.replicate 40 ([]:List Int)).set i.toNat b) n with
   |true=>
    rw [z2,ym3 hU hmi,z6];dsimp only;rw [yl4];rfl
   |false=>
    rw [z1,ym4 hU hmi,z6];dsimp only;rw [ym9 hU hmi,zq8,yb4];rfl
def kr1 {m:Tbl} (hm:yr0 m) {v i n:Int} {b:List Int} (hb:ze1 b=true):
  qx BIG m v i n b=some ((((),()),(zt2 m v i n b).1,b,()),((zt2 m v i n b).2.1,(zt2 m v i n b).2.2,())):=by
 rw [gb0,yu6,z6];dsimp only;rw [U6,z1,jx8,z6];cases hr:zg9 v i n b with
 |false=>unfold zt2;rw [hr];rfl
 |true=>
  have hr':=za5.1 hr;have hbp:zv8 b:=⟨by omega,hb⟩;have hbn:b≠ []:=fun e=>by rw [e] at hr';simp at hr'
  rw [U6,z1];unfold zt2;rw [hr];simp only [R7,if_false];cases ht:zf1 m v with
  |true=>
   have hu:UpOk (zo1 m v):=hm _ (zy0 ht);have hse:k8 m v (zo1 m v)=m:=zp4 ht;have hfx:=qs7 hu;rw [z2];simp only [if_true];have hq0:(zb7 TT (.user 3) m v:Upload)=zo1 m v:=rfl;rw [hq0];generalize zo1 m v=u at hu hse hfx⊢;rw [if_pos (by omega),hfx];by_cases hw:u.whole=n
   ·have hw':(u.whole != n)=false:=by simp [hw]
    rw [hw',z1];have hg:=ju7 hu i.toNat;have hU:=hu.set hbp i.toNat;have key:(z7 (k7 (u.pieces.set i.toNat b) u.whole)
      (j7 (qk (u.pieces.set i.toNat b) u.whole) fun y4=>some ((((),()),k8 m v (⟨y4.1.1.1,y4.1.1.2.1⟩:Upload),b,()),(([]:List Int),(0:Int),())))
      (j7 (ql (u.pieces.set i.toNat b) u.whole) fun y5=>yo5 y5.2.1.isEmpty
       (some ((((),()),k8 m v (⟨y5.1.1.1,y5.1.1.2.1⟩:Upload),b,()),(y5.2.1,(0:Int),())))
       (some ((((),()),zc9 m v,b,()),(y5.2.1,(0:Int),())))))
      =some ((((),()),(zg7 m v ⟨u.pieces.set i.toNat b,u.whole⟩).1,b,()),((zg7 m v ⟨u.pieces.set i.toNat b,u.whole⟩).2.1,(zg7 m v ⟨u.pieces.set i.toNat b,u.whole⟩).2.2,())):=by
     unfold zg7;cases hmi:k7 (u.pieces.set i.toNat b) u.whole with
     |true=>rw [z2,ym3 hU hmi,z6];rfl
     |false=>
      rw [z1,ym4 hU hmi,z6];dsimp only;rw [ym9 hU hmi,zq8];rfl
    cases hp:(u.pieces.getD i.toNat ([]:List Int)).isEmpty with
    |true=>
     have hp':u.pieces.getD i.toNat ([]:List Int)= []:=by simpa using hp
     rw [z2,zw0 hbn hbp.1,z6];rw [if_pos (by omega),if_pos (by omega),key,if_neg (by rw [hp'];simp [hw])]
    |false=>
     have hp':u.pieces.getD i.toNat ([]:List Int)≠ []:=fun e=>by rw [e] at hp;cases hp
     rw [z1,ju3 hg.2 hb,z6];by_cases he:u.pieces.getD i.toNat ([]:List Int)=b
     ·rw [W6 he,U6,z1,zw0 hbn hbp.1,z6];rw [if_pos (by omega),if_pos (by omega),key,if_neg (fun h=>h.elim (fun h=>h hw) fun h=>h.2 he)]
     ·rw [W7 he,M3,z2,if_pos (.inr ⟨hp',he⟩)];show some ((((),()),k8 m v u,b,()),(([]:List Int),(7:Int),()))=_;rw [hse]
   ·have hw':(u.whole != n)=true:=by simp [hw]
    rw [hw',z2,if_pos (.inl hw)];show some ((((),()),k8 m v u,b,()),(([]:List Int),(7:Int),()))=_;rw [hse]
  |false=>
   rw [z1];simp only [R6,if_false];have hu:UpOk ⟨List.replicate 40 [],n⟩:=qp1 (by omega);have hU:UpOk ⟨(List.replicate 40 []).set i.toNat b,n⟩:=hu.set hbp i.toNat;have hd:(List.replicate 40 ([]:List Int)).getD i.toNat ([]:List Int)= []:=by
    rw [Y2,List.getElem?_replicate];split<;>rfl
   have hn:(n != n)=false:=by simp
   rw [if_pos (by omega),hn,z1,hd];rw [show ([]:List Int).isEmpty=true from rfl,z2];rw [zw0 hbn hbp.1,z6];rw [if_pos (by omega),if_pos (by omega),if_neg (fun h=>h.elim (fun h=>h rfl) fun h=>h.1 rfl)];unfold zg7;cases hmi:k7 ((List.replicate 40 ([]:List Int)).set i.toNat b) n with
   |true=>
    rw [z2,ym3 hU hmi,z6];dsimp only;rw [yl4];rfl
   |false=>
    rw [z1,ym4 hU hmi,z6];dsimp only;rw [ym9 hU hmi,zq8,yb4];rfl
def kg8 {m:Tbl} (hm:yr0 m) {v i n:Int} {b:List Int} (hb:ze1 b=true):yr0 (zt2 m v i n b).1:=by
 unfold zt2;split
 ·exact hm
 rename_i hr;have hr:=za5.1 (Bool.not_eq_false _▸hr:zg9 v i n b=true);have hu:UpOk (if zf1 m v=true then zo1 m v else ⟨List.replicate 40 [],n⟩):=by
  split
  ·rename_i h;exact hm _ (zy0 h)
  ·exact qp1 (by omega)
 generalize (if zf1 m v=true then zo1 m v else (⟨List.replicate 40 [],n⟩:Upload))=u at hu;show yr0 (if u.whole≠n\/(u.pieces.getD i.toNat []≠ []/\u.pieces.getD i.toNat []≠b) then (m,[],7) else zg7 m v ⟨u.pieces.set i.toNat b,u.whole⟩:Tbl×List Int×Int).1;split
 ·exact hm
 ·have hb':zv8 b:=⟨by omega,hb⟩;unfold zg7;split
  ·intro x hx;rcases jj6 hx with rfl|hx
   ·exact hu.set hb' _
   ·exact hm x hx
  ·exact fun x hx=>hm x (jj5 hx)
end Go.Y
