import Derived.Test.YtliopfopmhhdeaaGreatIa
import Derived.Test.YtliopfopmhhdeaaGreatP0
set_option linter.defProp false
namespace Go.Y
open Go.RowKit Go.V Go.X
abbrev Tbl:=List (Int×Upload)
def jc2 (a:ByteArray): ∀m i r,a.size-i=m->ByteArray.toList.loop a i r=r.reverse++a.data.toList.drop i
 |0,i,r,h=>by
  rw [ByteArray.toList.loop.eq_1,if_neg (by omega),M3 (by show a.data.toList.length<=i;rw [J9];exact Nat.sub_eq_zero_iff_le.1 h),J7]
 |m+1,i,r,h=>by
  have hi:i<a.data.size:=by show i<a.size;omega
  rw [ByteArray.toList.loop.eq_1,if_pos (by show i<a.size;omega),jc2 a m (i+1) _ (by omega),N6,Q2];congr 1;rw [M6 (by rw [J9];exact hi:i<a.data.toList.length)];show [a.get! i]++_=_;rw [List.singleton_append];congr 1;show a.data[i]! =_;rw [getElem!_pos a.data i hi,Array.getElem_toList]
def qg3 (a:ByteArray):a.toList=a.data.toList:=by
 unfold ByteArray.toList;rw [jc2 a _ 0 [] rfl];rfl
def yn1: ∀(l:List Int) (a:ByteArray),(l.foldl (fun r n=>r.push (UInt8.ofNat n.toNat)) a).data.toList=a.data.toList++u8s l
 | [],a=>by simp [u8s]
 |x::l,a=>by
  rw [List.foldl_cons,yn1 l];show (a.data.push _).toList++_=_;rw [Array.toList_push,Q2];rfl
def yf6 (l:List Int):ByteArray.toList (zt6 l)=u8s l:=by
 rw [qg3];unfold zt6;rw [yn1];rfl
def vf6: ∀ {a b:List Int},zd1 a=true->zd1 b=true->u8s a=u8s b->a=b
 | [],[],_,_,_=>rfl
 | [],_::_,_,_,h=>by cases h
 |_::_,[],_,_,h=>by cases h
 |x::a,y::b,ha,hb,h=>by
  unfold zd1 at ha hb;rw [J1,X3] at ha hb;have h1:UInt8.ofNat x.toNat=UInt8.ofNat y.toNat:=(List.cons.inj h).1;have h2:u8s a=u8s b:=(List.cons.inj h).2;have hx:0<=x/\x<=255:=by simpa using ha.1
  have hy:0<=y/\y<=255:=by simpa using hb.1
  have:=ke5 hx;rw [h1,ke5 hy] at this;rw [this,vf6 ha.2 hb.2 h2]
def jw7 {a b:List Int} (ha:zd1 a=true) (hb:zd1 b=true):qv BIG a b=some (decide (a=b)):=by
 rw [gi3,yf6,yf6];congr 1;rw [Bool.eq_iff_iff,beq_iff_eq,decide_eq_true_iff];exact ⟨vf6 ha hb,fun h=>by rw [h]⟩
def zt7 {b:List Int} (h:b≠ []) (hl:b.length<=1024):ql BIG b=some b:=by
 rw [gh0];cases b with
 |nil=>exact absurd rfl h
 |cons x b=>
  show (if (0+(x::b).length)*1<=140737488355328 then some ([]++x::b) else none)=_;rw [if_pos (by omega)];rfl
def zp6 (m:Tbl) (v:Int):Upload:=zc2 TT (.user 3) m v
def zg2 (y:Int) (b:Upload) (r:Tbl) (v:Int):zp6 ((y,b)::r) v=if v=y then b else zp6 r v:=rfl
def zh4 {α:Type} (y:Int) (b:α) (r:List (Int×α)) (v:Int):zg0 ((y,b)::r) v=if v=y then true else zg0 r v:=rfl
def zw6 {α:Type} (y:Int) (b:α) (r:List (Int×α)) (v:Int) (a:α):k9 ((y,b)::r) v a=if v=y then (v,a)::r else (y,b)::k9 r v a:=rfl
def zq7: ∀ {m:Tbl} {v:Int},zg0 m v=true->k9 m v (zp6 m v)=m
 | [],v,h=>by cases h
 |(y,b)::r,v,h=>by
  rw [zw6,zg2];rw [zh4] at h;by_cases e:v=y
  ·subst e;rw [if_pos rfl,if_pos rfl]
  ·rw [if_neg e] at h;rw [if_neg e,if_neg e,zq7 h]
def ym9 {α:Type}: ∀(m:List (Int×α)) (v:Int) (a b:α),k9 (k9 m v a) v b=k9 m v b
 | [],v,a,b=>by simp [k9]
 |(y,c)::r,v,a,b=>by
  by_cases e:v=y
  ·simp [k9,e]
  ·simp [k9,e,ym9 r]
def yc7 {α:Type}: ∀(m:List (Int×α)) (v:Int) (a:α),ze0 (k9 m v a) v=ze0 m v
 | [],v,a=>by simp [k9,ze0]
 |(y,c)::r,v,a=>by
  by_cases e:v=y
  ·simp [k9,ze0,e]
  ·simp [k9,ze0,e,yc7 r]
def zy8: ∀ {m:Tbl} {v:Int},zg0 m v=true->(v,zp6 m v)∈m
 | [],v,h=>by cases h
 |(y,b)::r,v,h=>by
  rw [zg2];by_cases e:v=y
  ·subst e;rw [if_pos rfl];exact U3
  ·have h:zg0 r v=true:=by unfold zg0 at h;rwa [if_neg e] at h
   rw [if_neg e];exact Z4 _ (zy8 h)
def jl7 {α:Type}: ∀ {m:List (Int×α)} {v:Int} {a:α} {x:Int×α},x∈k9 m v a->x=(v,a)\/x∈m
 | [],v,a,x,h=>by simp [k9] at h;exact .inl h
 |(y,c)::r,v,a,x,h=>by
  unfold k9 at h;split at h
  ·rcases Z0.1 h with h|h
   ·exact .inl h
   ·exact .inr (Z4 _ h)
  ·rcases Z0.1 h with h|h
   ·exact .inr (h▸U3)
   ·rcases jl7 h with h|h
    ·exact .inl h
    ·exact .inr (Z4 _ h)
def jl6 {α:Type}: ∀ {m:List (Int×α)} {v:Int} {x:Int×α},x∈ze0 m v->x∈m
 | [],v,x,h=>h
 |(y,c)::r,v,x,h=>by
  unfold ze0 at h;split at h
  ·exact Z4 _ h
  ·rcases Z0.1 h with h|h
   ·exact h▸U3
   ·exact Z4 _ (jl6 h)
def zh6 (v i n:Int) (b:List Int):Bool:=decide (1<=v/\v<=1073741824/\1<=n/\n<=40/\0<=i/\i<n/\1<=b.length/\b.length<=1024/\(b.length=1024\/i=n-1))
def qa6 (v i n:Int) (b:List Int):qf BIG v i n b=some (zh6 v i n b):=by
 have e:(BIG:Nat)=999999999+1:=rfl;have e2:(BIG:Nat)=999999998+1+1:=rfl;have hJ1: ∀n i k c,qd2 (n+1) i k c true=some false:=fun n i k c=>by rw [qm2];rfl
 have hJ0: ∀n i k c,qd1 (n+1) i k c true=some false:=fun n i k c=>by rw [qm1];rfl
 rw [gg5,e2,hJ0];by_cases h1:1<=v/\v<=1073741824/\1<=n/\n<=40
 ·rw [W7 (by omega),z2,W7 (by omega),z2,W7 (by omega),z2,W7 (by omega),qm1,z2,hJ1];by_cases h2:0<=i/\i<n/\1<=b.length/\b.length<=1024
  ·rw [W7 (by omega),z2,W7 (by omega),z2,W7 (by omega),z2,W7 (by omega),qm2,z2,vt3,zp9 (by omega)];congr 1;unfold zh6;rw [Bool.eq_iff_iff,J5,beq_iff_eq,beq_iff_eq,decide_eq_true_iff];omega
  ·have:zh6 v i n b=false:=by unfold zh6;rw [decide_eq_false_iff_not];omega
   rw [this,ze5];split
   ·rfl
   rw [ze5];split
   ·rfl
   rw [ze5];split
   ·rfl
   rename_i a1 a2 a3;simp only [decide_eq_true_eq] at a1 a2 a3;rw [W6 (by omega),hJ1]
 ·have:zh6 v i n b=false:=by unfold zh6;rw [decide_eq_false_iff_not];omega
  rw [this,ze5];split
  ·rfl
  rw [ze5];split
  ·rfl
  rw [ze5];split
  ·rfl
  rename_i a1 a2 a3;simp only [decide_eq_true_eq] at a1 a2 a3;rw [W6 (by omega),hJ0]
def zw7 (p:List Int):Prop:=p.length<=1024/\zd1 p=true
structure UpOk (u:Upload):Prop where
 len:u.pieces.length=40
 whole:1<=u.whole/\u.whole<=40
 ok: ∀p∈u.pieces,zw7 p
def yt3 (m:Tbl):Prop:= ∀x∈m,UpOk x.2
def qj5:zw7 []:=⟨U4 _,rfl⟩
def qt2 {n:Int} (h:1<=n/\n<=40):UpOk ⟨List.replicate 40 [],n⟩:=⟨rfl,h,fun p hp=>by rw [T8 hp];exact qj5⟩
def UpOk.set {u:Upload} (h:UpOk u) {b:List Int} (hb:zw7 b) (i:Nat):UpOk ⟨u.pieces.set i b,u.whole⟩:=
 ⟨by show (u.pieces.set i b).length=40;rw [Q1,h.len],h.whole,fun p hp=>by
  rcases M0 hp with hp|hp
  ·exact h.ok p hp
  ·exact hp▸hb⟩
def qw9 {u:Upload} (h:UpOk u):zr0 40 ([]:List Int) u.pieces=u.pieces:=qz6 h.len
def ke3: ∀(l:List (List Int)),(∀p∈l,p.length<=1024)->l.flatten.length<=1024*l.length
 | [],_=>U4 _
 |p::l,h=>by
  rw [List.flatten_cons,X9,U7];have:=ke3 l fun p hp=>h p (Z4 _ hp);have:=h p U3;omega
def vq5 (u:Upload):List Int:=if k8 u.pieces u.whole=true then [] else (u.pieces.take u.whole.toNat).flatten
def kc8 {ps:List (List Int)} {n:Int}:qaa BIG ps n=some (((ps,n,()),()),(((),(((),()),())),())):=ky2 BIG ps n
def yn8 {u:Upload} (h:UpOk u) (hm:k8 u.pieces u.whole=true):qm u.pieces u.whole=some (((u.pieces,u.whole,()),()),((),())):=by
 have:=h.whole;rw [gh1,kc8,z7];dsimp only;rw [if_pos (by unfold ys9;simp;omega),hm];rfl
def yn9 {u:Upload} (h:UpOk u) (hm:k8 u.pieces u.whole=false):qn u.pieces u.whole=some (((u.pieces,u.whole,()),()),(vq5 u,())):=by
 have hw:=h.whole;rw [gh2,kc8,z7];dsimp only;rw [if_pos (by unfold ys9;simp;omega),hm,z2,if_pos (by omega)];have e:jo9 u.pieces u.whole 0 (u.whole.toNat-0)=some (((u.pieces,u.whole,()),()),((u.pieces.take u.whole.toNat).flatten,())):=by
  unfold jo9;have hj:qb7 ((u.pieces.drop 0).take (u.whole.toNat-0))=true:=by
   rw [N0,J4];unfold qb7;have hl:(u.pieces.take u.whole.toNat).length=u.whole.toNat:=by rw [Y6,h.len];omega
   have hin: ∀p∈u.pieces.take u.whole.toNat,p∈u.pieces:=fun p hp=>N3 hp;have:=ke3 _ fun p hp=>(h.ok p (hin p hp)).1;rw [X3,X3];refine ⟨?_,?_,?_⟩
   ·cases hq:u.pieces.take u.whole.toNat with
    |nil=>rw [hq] at hl;simp at hl;omega
    |cons a b=>rfl
   ·rw [Y8];intro p hp;rw [X3];refine ⟨?_,(h.ok p (hin p hp)).2⟩;unfold k8 at hm;rw [List.any_eq_false] at hm;simpa using hm p hp
   ·rw [hl] at this;exact W5 (by omega)
  rw [hj];simp
 rw [e,z7];unfold vq5;rw [hm];simp
def yo4 {u:Upload} (h:UpOk u) (hm:k8 u.pieces u.whole=false):(vq5 u).isEmpty=false:=by
 have hw:=h.whole;unfold vq5;rw [hm];simp only [R9,if_false];have hl:(u.pieces.take u.whole.toNat).length=u.whole.toNat:=by rw [Y6,h.len];omega
 unfold k8 at hm;rw [List.any_eq_false] at hm;cases hq:u.pieces.take u.whole.toNat with
 |nil=>rw [hq] at hl;simp at hl;omega
 |cons a b=>
  have:=hm a (by rw [hq];exact U3);cases a with
  |nil=>simp at this
  |cons x a=>rfl
def zh5 (m:Tbl) (v:Int) (u:Upload):Tbl×List Int×Int:=if k8 u.pieces u.whole=true then (k9 m v u,[],0) else (ze0 m v,vq5 u,0)
def zu1 (m:Tbl) (v i n:Int) (b:List Int):Tbl×List Int×Int:=
 if zh6 v i n b=false then (m,[],2) else
 let u:Upload:=if zg0 m v=true then zp6 m v else ⟨List.replicate 40 [],n⟩
 if u.whole≠n\/(u.pieces.getD i.toNat []≠ []/\u.pieces.getD i.toNat []≠b) then (m,[],7) else zh5 m v ⟨u.pieces.set i.toNat b,u.whole⟩
def jx2 {u:Upload} (h:UpOk u) (i:Nat):zw7 (u.pieces.getD i []):=by
 rw [Y2];cases e:u.pieces[i]? with
 |none=>exact qj5
 |some p=>exact h.ok p (X6 e)
def za8 {v i n:Int} {b:List Int}:zh6 v i n b=true↔1<=v/\v<=1073741824/\1<=n/\n<=40/\0<=i/\i<n/\1<=b.length/\b.length<=1024/\(b.length=1024\/i=n-1):=by unfold zh6;exact decide_eq_true_iff
def zr8 {R:Type} (a b:Option R):yq7 false a b=b:=rfl
def yw7 (m:Tbl):qu BIG m=some ((((),()),m,()),(true,())):=gi2 BIG m
def vp0 {m:Tbl} (hm:yt3 m) {v i n:Int} {b:List Int} (hb:zd1 b=true):
  qy BIG m v i n b=some ((((),()),(zu1 m v i n b).1,()),((zu1 m v i n b).2.1,(zu1 m v i n b).2.2,())):=by
 rw [gi6,yw7,z7];dsimp only;rw [U5,z2,qa6,z7];cases hr:zh6 v i n b with
 |false=>unfold zu1;rw [hr];rfl
 |true=>
  have hr':=za8.1 hr;have hbp:zw7 b:=⟨by omega,hb⟩;have hbn:b≠ []:=fun e=>by rw [e] at hr';simp at hr'
  rw [U5,z2];unfold zu1;rw [hr];simp only [S7,if_false];cases ht:zg0 m v with
  |true=>
   have hu:UpOk (zp6 m v):=hm _ (zy8 ht);have hse:k9 m v (zp6 m v)=m:=zq7 ht;have hfx:=qw9 hu;rw [z6];simp only [if_true];have hq0:(zc2 TT (.user 3) m v:Upload)=zp6 m v:=rfl;rw [hq0];generalize zp6 m v=u at hu hse hfx⊢;rw [if_pos (by omega),hfx];by_cases hw:u.whole=n
   ·have hw':(u.whole != n)=false:=by simp [hw]
    rw [hw',z2];have hg:=jx2 hu i.toNat;have hU:=hu.set hbp i.toNat;have key:(z8 (k8 (u.pieces.set i.toNat b) u.whole)
      (j5 (qm (u.pieces.set i.toNat b) u.whole) fun y4=>some ((((),()),k9 m v (⟨y4.1.1.1,y4.1.1.2.1⟩:Upload),()),(([]:List Int),(0:Int),())))
      (j5 (qn (u.pieces.set i.toNat b) u.whole) fun y5=>yq7 y5.2.1.isEmpty
       (some ((((),()),k9 m v (⟨y5.1.1.1,y5.1.1.2.1⟩:Upload),()),(y5.2.1,(0:Int),())))
       (some ((((),()),ze0 m v,()),(y5.2.1,(0:Int),())))))
      =some ((((),()),(zh5 m v ⟨u.pieces.set i.toNat b,u.whole⟩).1,()),((zh5 m v ⟨u.pieces.set i.toNat b,u.whole⟩).2.1,(zh5 m v ⟨u.pieces.set i.toNat b,u.whole⟩).2.2,())):=by
     unfold zh5;cases hmi:k8 (u.pieces.set i.toNat b) u.whole with
     |true=>rw [z6,yn8 hU hmi,z7];rfl
     |false=>
      rw [z2,yn9 hU hmi,z7];dsimp only;rw [yo4 hU hmi,zr8];rfl
    cases hp:(u.pieces.getD i.toNat ([]:List Int)).isEmpty with
    |true=>
     have hp':u.pieces.getD i.toNat ([]:List Int)= []:=by simpa using hp
     rw [z6,zt7 hbn hbp.1,z7];rw [if_pos (by omega),if_pos (by omega),key,if_neg (by rw [hp'];simp [hw])]
    |false=>
     have hp':u.pieces.getD i.toNat ([]:List Int)≠ []:=fun e=>by rw [e] at hp;cases hp
     rw [z2,jw7 hg.2 hb,z7];by_cases he:u.pieces.getD i.toNat ([]:List Int)=b
     ·rw [W6 he,U5,z2,zt7 hbn hbp.1,z7];rw [if_pos (by omega),if_pos (by omega),key,if_neg (fun h=>h.elim (fun h=>h hw) fun h=>h.2 he)]
     ·rw [W7 he,M5,z6,if_pos (.inr ⟨hp',he⟩)];show some ((((),()),k9 m v u,()),(([]:List Int),(7:Int),()))=_;rw [hse]
   ·have hw':(u.whole != n)=true:=by simp [hw]
    rw [hw',z6,if_pos (.inl hw)];show some ((((),()),k9 m v u,()),(([]:List Int),(7:Int),()))=_;rw [hse]
  |false=>
   rw [z2];simp only [R9,if_false];have hu:UpOk ⟨List.replicate 40 [],n⟩:=qt2 (by omega);have hU:UpOk ⟨(List.replicate 40 []).set i.toNat b,n⟩:=hu.set hbp i.toNat;have hd:(List.replicate 40 ([]:List Int)).getD i.toNat ([]:List Int)= []:=by
    rw [Y2,List.getElem?_replicate];split<;>rfl
   have hn:(n != n)=false:=by simp
   rw [if_pos (by omega),hn,z2,hd];rw [show ([]:List Int).isEmpty=true from rfl,z6];rw [zt7 hbn hbp.1,z7];rw [if_pos (by omega),if_pos (by omega),if_neg (fun h=>h.elim (fun h=>h rfl) fun h=>h.1 rfl)];unfold zh5;cases hmi:k8 ((List.replicate 40 ([]:List Int)).set i.toNat b) n with
   |true=>
    rw [z6,yn8 hU hmi,z7];dsimp only;rw [ym9];rfl
   |false=>
    rw [z2,yn9 hU hmi,z7];dsimp only;rw [yo4 hU hmi,zr8,yc7];rfl
def kx7 {m:Tbl} (hm:yt3 m) {v i n:Int} {b:List Int} (hb:zd1 b=true):
  qab BIG m v i n b=some ((((),()),(zu1 m v i n b).1,b,()),((zu1 m v i n b).2.1,(zu1 m v i n b).2.2,())):=by
 rw [ky3,yw7,z7];dsimp only;rw [U5,z2,qa6,z7];cases hr:zh6 v i n b with
 |false=>unfold zu1;rw [hr];rfl
 |true=>
  have hr':=za8.1 hr;have hbp:zw7 b:=⟨by omega,hb⟩;have hbn:b≠ []:=fun e=>by rw [e] at hr';simp at hr'
  rw [U5,z2];unfold zu1;rw [hr];simp only [S7,if_false];cases ht:zg0 m v with
  |true=>
   have hu:UpOk (zp6 m v):=hm _ (zy8 ht);have hse:k9 m v (zp6 m v)=m:=zq7 ht;have hfx:=qw9 hu;rw [z6];simp only [if_true];have hq0:(zc2 TT (.user 3) m v:Upload)=zp6 m v:=rfl;rw [hq0];generalize zp6 m v=u at hu hse hfx⊢;rw [if_pos (by omega),hfx];by_cases hw:u.whole=n
   ·have hw':(u.whole != n)=false:=by simp [hw]
    rw [hw',z2];have hg:=jx2 hu i.toNat;have hU:=hu.set hbp i.toNat;have key:(z8 (k8 (u.pieces.set i.toNat b) u.whole)
      (j5 (qm (u.pieces.set i.toNat b) u.whole) fun y4=>some ((((),()),k9 m v (⟨y4.1.1.1,y4.1.1.2.1⟩:Upload),b,()),(([]:List Int),(0:Int),())))
      (j5 (qn (u.pieces.set i.toNat b) u.whole) fun y5=>yq7 y5.2.1.isEmpty
       (some ((((),()),k9 m v (⟨y5.1.1.1,y5.1.1.2.1⟩:Upload),b,()),(y5.2.1,(0:Int),())))
       (some ((((),()),ze0 m v,b,()),(y5.2.1,(0:Int),())))))
      =some ((((),()),(zh5 m v ⟨u.pieces.set i.toNat b,u.whole⟩).1,b,()),((zh5 m v ⟨u.pieces.set i.toNat b,u.whole⟩).2.1,(zh5 m v ⟨u.pieces.set i.toNat b,u.whole⟩).2.2,())):=by
     unfold zh5;cases hmi:k8 (u.pieces.set i.toNat b) u.whole with
     |true=>rw [z6,yn8 hU hmi,z7];rfl
     |false=>
      rw [z2,yn9 hU hmi,z7];dsimp only;rw [yo4 hU hmi,zr8];rfl
    cases hp:(u.pieces.getD i.toNat ([]:List Int)).isEmpty with
    |true=>
     have hp':u.pieces.getD i.toNat ([]:List Int)= []:=by simpa using hp
     rw [z6,zt7 hbn hbp.1,z7];rw [if_pos (by omega),if_pos (by omega),key,if_neg (by rw [hp'];simp [hw])]
    |false=>
     have hp':u.pieces.getD i.toNat ([]:List Int)≠ []:=fun e=>by rw [e] at hp;cases hp
     rw [z2,jw7 hg.2 hb,z7];by_cases he:u.pieces.getD i.toNat ([]:List Int)=b
     ·rw [W6 he,U5,z2,zt7 hbn hbp.1,z7];rw [if_pos (by omega),if_pos (by omega),key,if_neg (fun h=>h.elim (fun h=>h hw) fun h=>h.2 he)]
     ·rw [W7 he,M5,z6,if_pos (.inr ⟨hp',he⟩)];show some ((((),()),k9 m v u,b,()),(([]:List Int),(7:Int),()))=_;rw [hse]
   ·have hw':(u.whole != n)=true:=by simp [hw]
    rw [hw',z6,if_pos (.inl hw)];show some ((((),()),k9 m v u,b,()),(([]:List Int),(7:Int),()))=_;rw [hse]
  |false=>
   rw [z2];simp only [R9,if_false];have hu:UpOk ⟨List.replicate 40 [],n⟩:=qt2 (by omega);have hU:UpOk ⟨(List.replicate 40 []).set i.toNat b,n⟩:=hu.set hbp i.toNat;have hd:(List.replicate 40 ([]:List Int)).getD i.toNat ([]:List Int)= []:=by
    rw [Y2,List.getElem?_replicate];split<;>rfl
   have hn:(n != n)=false:=by simp
   rw [if_pos (by omega),hn,z2,hd];rw [show ([]:List Int).isEmpty=true from rfl,z6];rw [zt7 hbn hbp.1,z7];rw [if_pos (by omega),if_pos (by omega),if_neg (fun h=>h.elim (fun h=>h rfl) fun h=>h.1 rfl)];unfold zh5;cases hmi:k8 ((List.replicate 40 ([]:List Int)).set i.toNat b) n with
   |true=>
    rw [z6,yn8 hU hmi,z7];dsimp only;rw [ym9];rfl
   |false=>
    rw [z2,yn9 hU hmi,z7];dsimp only;rw [yo4 hU hmi,zr8,yc7];rfl
def km5 {m:Tbl} (hm:yt3 m) {v i n:Int} {b:List Int} (hb:zd1 b=true):yt3 (zu1 m v i n b).1:=by
 unfold zu1;split
 ·exact hm
 rename_i hr;have hr:=za8.1 (Bool.not_eq_false _▸hr:zh6 v i n b=true);have hu:UpOk (if zg0 m v=true then zp6 m v else ⟨List.replicate 40 [],n⟩):=by
  split
  ·rename_i h;exact hm _ (zy8 h)
  ·exact qt2 (by omega)
 generalize (if zg0 m v=true then zp6 m v else (⟨List.replicate 40 [],n⟩:Upload))=u at hu;show yt3 (if u.whole≠n\/(u.pieces.getD i.toNat []≠ []/\u.pieces.getD i.toNat []≠b) then (m,[],7) else zh5 m v ⟨u.pieces.set i.toNat b,u.whole⟩:Tbl×List Int×Int).1;split
 ·exact hm
 ·have hb':zw7 b:=⟨by omega,hb⟩;unfold zh5;split
  ·intro x hx;rcases jl7 hx with rfl|hx
   ·exact hu.set hb' _
   ·exact hm x hx
  ·exact fun x hx=>hm x (jl6 hx)
end Go.Y
