import Derived.Test.YtliopfopmhhdeaaGreatIa
import Derived.Test.YtliopfopmhhdeaaGreatP0
set_option linter.defProp false
namespace Go.Y
open Go.RowKit Go.V Go.X
abbrev Tbl:=List (Int×Upload)
def yv4 (a:ByteArray): ∀m i r,a.size-i=m->ByteArray.toList.loop a i r=r.reverse++a.data.toList.drop i
 |0,i,r,h=>by
  rw [ByteArray.toList.loop.eq_1,if_neg (by omega),M4 (by show a.data.toList.length<=i;rw [J8];exact Nat.sub_eq_zero_iff_le.1 h),J9]
 |m+1,i,r,h=>by
  have hi:i<a.data.size:=by show i<a.size;omega
  rw [ByteArray.toList.loop.eq_1,if_pos (by show i<a.size;omega),yv4 a m (i+1) _ (by omega),N4,Q2];congr 1;rw [M9 (by rw [J8];exact hi:i<a.data.toList.length)];show [a.get! i]++_=_;rw [List.singleton_append];congr 1;show a.data[i]! =_;rw [getElem!_pos a.data i hi,Array.getElem_toList]
def jw5 (a:ByteArray):a.toList=a.data.toList:=by
 unfold ByteArray.toList;rw [yv4 a _ 0 [] rfl];rfl
def yi7: ∀(l:List Int) (a:ByteArray),(l.foldl (fun r n=>r.push (UInt8.ofNat n.toNat)) a).data.toList=a.data.toList++u8s l
 | [],a=>by simp [u8s]
 |x::l,a=>by
  rw [List.foldl_cons,yi7 l];show (a.data.push _).toList++_=_;rw [Array.toList_push,Q2];rfl
def yb4 (l:List Int):ByteArray.toList (zq3 l)=u8s l:=by
 rw [jw5];unfold zq3;rw [yi7];rfl
def qr2: ∀ {a b:List Int},zo1 a=true->zo1 b=true->u8s a=u8s b->a=b
 | [],[],_,_,_=>rfl
 | [],_::_,_,_,h=>by cases h
 |_::_,[],_,_,h=>by cases h
 |x::a,y::b,ha,hb,h=>by
  unfold zo1 at ha hb;rw [J0,X3] at ha hb;have h1:UInt8.ofNat x.toNat=UInt8.ofNat y.toNat:=(List.cons.inj h).1;have h2:u8s a=u8s b:=(List.cons.inj h).2;have hx:0<=x/\x<=255:=by simpa using ha.1
  have hy:0<=y/\y<=255:=by simpa using hb.1
  have:=vm9 hx;rw [h1,vm9 hy] at this;rw [this,qr2 ha.2 hb.2 h2]
def qm1 {a b:List Int} (ha:zo1 a=true) (hb:zo1 b=true):qn BIG a b=some (decide (a=b)):=by
 rw [kl4,yb4,yb4];congr 1;rw [Bool.eq_iff_iff,beq_iff_eq,decide_eq_true_iff];exact ⟨qr2 ha hb,fun h=>by rw [h]⟩
def yd2 {b:List Int} (h:b≠ []) (hl:b.length<=1024):qi BIG b=some b:=by
 rw [kk8];cases b with
 |nil=>exact absurd rfl h
 |cons x b=>
  show (if (0+(x::b).length)*1<=140737488355328 then some ([]++x::b) else none)=_;rw [if_pos (by omega)];rfl
def yx1 (m:Tbl) (v:Int):Upload:=ze6 TT (.user 3) m v
def jj9 (y:Int) (b:Upload) (r:Tbl) (v:Int):yx1 ((y,b)::r) v=if v=y then b else yx1 r v:=rfl
def qy0 {α:Type} (y:Int) (b:α) (r:List (Int×α)) (v:Int):zu9 ((y,b)::r) v=if v=y then true else zu9 r v:=rfl
def qy2 {α:Type} (y:Int) (b:α) (r:List (Int×α)) (v:Int) (a:α):za6 ((y,b)::r) v a=if v=y then (v,a)::r else (y,b)::za6 r v a:=rfl
def zq9: ∀ {m:Tbl} {v:Int},zu9 m v=true->za6 m v (yx1 m v)=m
 | [],v,h=>by cases h
 |(y,b)::r,v,h=>by
  rw [qy2,jj9];rw [qy0] at h;by_cases e:v=y
  ·subst e;rw [if_pos rfl,if_pos rfl]
  ·rw [if_neg e] at h;rw [if_neg e,if_neg e,zq9 h]
def yt4 {α:Type}: ∀(m:List (Int×α)) (v:Int) (a b:α),za6 (za6 m v a) v b=za6 m v b
 | [],v,a,b=>by simp [za6]
 |(y,c)::r,v,a,b=>by
  by_cases e:v=y
  ·simp [za6,e]
  ·simp [za6,e,yt4 r]
def yt3 {α:Type}: ∀(m:List (Int×α)) (v:Int) (a:α),zi0 (za6 m v a) v=zi0 m v
 | [],v,a=>by simp [za6,zi0]
 |(y,c)::r,v,a=>by
  by_cases e:v=y
  ·simp [za6,zi0,e]
  ·simp [za6,zi0,e,yt3 r]
def yp6: ∀ {m:Tbl} {v:Int},zu9 m v=true->(v,yx1 m v)∈m
 | [],v,h=>by cases h
 |(y,b)::r,v,h=>by
  rw [jj9];by_cases e:v=y
  ·subst e;rw [if_pos rfl];exact U3
  ·have h:zu9 r v=true:=by unfold zu9 at h;rwa [if_neg e] at h
   rw [if_neg e];exact Z4 _ (yp6 h)
def qc9 {α:Type}: ∀ {m:List (Int×α)} {v:Int} {a:α} {x:Int×α},x∈za6 m v a->x=(v,a)\/x∈m
 | [],v,a,x,h=>by simp [za6] at h;exact .inl h
 |(y,c)::r,v,a,x,h=>by
  unfold za6 at h;split at h
  ·rcases Z0.1 h with h|h
   ·exact .inl h
   ·exact .inr (Z4 _ h)
  ·rcases Z0.1 h with h|h
   ·exact .inr (h▸U3)
   ·rcases qc9 h with h|h
    ·exact .inl h
    ·exact .inr (Z4 _ h)
def qc5 {α:Type}: ∀ {m:List (Int×α)} {v:Int} {x:Int×α},x∈zi0 m v->x∈m
 | [],v,x,h=>h
 |(y,c)::r,v,x,h=>by
  unfold zi0 at h;split at h
  ·exact Z4 _ h
  ·rcases Z0.1 h with h|h
   ·exact h▸U3
   ·exact Z4 _ (qc5 h)
def zt2 (v i n:Int) (b:List Int):Bool:=decide (1<=v/\v<=1073741824/\1<=n/\n<=40/\0<=i/\i<n/\1<=b.length/\b.length<=1024/\(b.length=1024\/i=n-1))
def qq6 (v i n:Int) (b:List Int):qa BIG v i n b=some (zt2 v i n b):=by
 have e:(BIG:Nat)=999999999+1:=rfl;have e2:(BIG:Nat)=999999998+1+1:=rfl;have hJ1: ∀n i k c,jt4 (n+1) i k c true=some false:=fun n i k c=>by rw [jz8];rfl
 have hJ0: ∀n i k c,jt3 (n+1) i k c true=some false:=fun n i k c=>by rw [jz7];rfl
 rw [kj6,e2,hJ0];by_cases h1:1<=v/\v<=1073741824/\1<=n/\n<=40
 ·rw [W7 (by omega),z2,W7 (by omega),z2,W7 (by omega),z2,W7 (by omega),jz7,z2,hJ1];by_cases h2:0<=i/\i<n/\1<=b.length/\b.length<=1024
  ·rw [W7 (by omega),z2,W7 (by omega),z2,W7 (by omega),z2,W7 (by omega),jz8,z2,vd8,yw8 (by omega)];congr 1;unfold zt2;rw [Bool.eq_iff_iff,J7,beq_iff_eq,beq_iff_eq,decide_eq_true_iff];omega
  ·have:zt2 v i n b=false:=by unfold zt2;rw [decide_eq_false_iff_not];omega
   rw [this,zv4];split
   ·rfl
   rw [zv4];split
   ·rfl
   rw [zv4];split
   ·rfl
   rename_i a1 a2 a3;simp only [decide_eq_true_eq] at a1 a2 a3;rw [W6 (by omega),hJ1]
 ·have:zt2 v i n b=false:=by unfold zt2;rw [decide_eq_false_iff_not];omega
  rw [this,zv4];split
  ·rfl
  rw [zv4];split
  ·rfl
  rw [zv4];split
  ·rfl
  rename_i a1 a2 a3;simp only [decide_eq_true_eq] at a1 a2 a3;rw [W6 (by omega),hJ0]
def yd0 (p:List Int):Prop:=p.length<=1024/\zo1 p=true
structure UpOk (u:Upload):Prop where
 len:u.pieces.length=40
 whole:1<=u.whole/\u.whole<=40
 ok: ∀p∈u.pieces,yd0 p
def jh2 (m:Tbl):Prop:= ∀x∈m,UpOk x.2
def jz3:yd0 []:=⟨U6 _,rfl⟩
def vo4 {n:Int} (h:1<=n/\n<=40):UpOk ⟨List.replicate 40 [],n⟩:=⟨rfl,h,fun p hp=>by rw [List.eq_of_mem_replicate hp];exact jz3⟩
def UpOk.set {u:Upload} (h:UpOk u) {b:List Int} (hb:yd0 b) (i:Nat):UpOk ⟨u.pieces.set i b,u.whole⟩:=
 ⟨by show (u.pieces.set i b).length=40;rw [Q1,h.len],h.whole,fun p hp=>by
  rcases M3 hp with hp|hp
  ·exact h.ok p hp
  ·exact hp▸hb⟩
def vk2 {u:Upload} (h:UpOk u):zy2 40 ([]:List Int) u.pieces=u.pieces:=qm2 h.len
def vm7: ∀(l:List (List Int)),(∀p∈l,p.length<=1024)->l.flatten.length<=1024*l.length
 | [],_=>U6 _
 |p::l,h=>by
  rw [List.flatten_cons,X9,U5];have:=vm7 l fun p hp=>h p (Z4 _ hp);have:=h p U3;omega
def vu9 (u:Upload):List Int:=if u9 u.pieces u.whole=true then [] else (u.pieces.take u.whole.toNat).flatten
def vl5 {ps:List (List Int)} {n:Int}:qp BIG ps n=some (((ps,n,()),()),(((),(((),()),())),())):=kl7 BIG ps n
def yy2 {u:Upload} (h:UpOk u) (hm:u9 u.pieces u.whole=true):qj u.pieces u.whole=some (((u.pieces,u.whole,()),()),((),())):=by
 have:=h.whole;rw [kk9,vl5,j7];dsimp only;rw [if_pos (by unfold yn6;simp;omega),hm];rfl
def yy3 {u:Upload} (h:UpOk u) (hm:u9 u.pieces u.whole=false):qk u.pieces u.whole=some (((u.pieces,u.whole,()),()),(vu9 u,())):=by
 have hw:=h.whole;rw [kl0,vl5,j7];dsimp only;rw [if_pos (by unfold yn6;simp;omega),hm,z2,if_pos (by omega)];have e:jh6 u.pieces u.whole 0 (u.whole.toNat-0)=some (((u.pieces,u.whole,()),()),((u.pieces.take u.whole.toNat).flatten,())):=by
  unfold jh6;have hj:js3 ((u.pieces.drop 0).take (u.whole.toNat-0))=true:=by
   rw [N2,J5];unfold js3;have hl:(u.pieces.take u.whole.toNat).length=u.whole.toNat:=by rw [Y6,h.len];omega
   have hin: ∀p∈u.pieces.take u.whole.toNat,p∈u.pieces:=fun p hp=>N0 hp;have:=vm7 _ fun p hp=>(h.ok p (hin p hp)).1;rw [X3,X3];refine ⟨?_,?_,?_⟩
   ·cases hq:u.pieces.take u.whole.toNat with
    |nil=>rw [hq] at hl;simp at hl;omega
    |cons a b=>rfl
   ·rw [Y8];intro p hp;rw [X3];refine ⟨?_,(h.ok p (hin p hp)).2⟩;unfold u9 at hm;rw [List.any_eq_false] at hm;simpa using hm p hp
   ·rw [hl] at this;exact W5 (by omega)
  rw [hj];simp
 rw [e,j7];unfold vu9;rw [hm];simp
def ja3 {u:Upload} (h:UpOk u) (hm:u9 u.pieces u.whole=false):(vu9 u).isEmpty=false:=by
 have hw:=h.whole;unfold vu9;rw [hm];simp only [Bool.false_eq_true,if_false];have hl:(u.pieces.take u.whole.toNat).length=u.whole.toNat:=by rw [Y6,h.len];omega
 unfold u9 at hm;rw [List.any_eq_false] at hm;cases hq:u.pieces.take u.whole.toNat with
 |nil=>rw [hq] at hl;simp at hl;omega
 |cons a b=>
  have:=hm a (by rw [hq];exact U3);cases a with
  |nil=>simp at this
  |cons x a=>rfl
def zr0 (m:Tbl) (v:Int) (u:Upload):Tbl×List Int×Int:=if u9 u.pieces u.whole=true then (za6 m v u,[],0) else (zi0 m v,vu9 u,0)
def yr0 (m:Tbl) (v i n:Int) (b:List Int):Tbl×List Int×Int:=
 if zt2 v i n b=false then (m,[],2) else
 let u:Upload:=if zu9 m v=true then yx1 m v else ⟨List.replicate 40 [],n⟩
 if u.whole≠n\/(u.pieces.getD i.toNat []≠ []/\u.pieces.getD i.toNat []≠b) then (m,[],7) else zr0 m v ⟨u.pieces.set i.toNat b,u.whole⟩
def qm3 {u:Upload} (h:UpOk u) (i:Nat):yd0 (u.pieces.getD i []):=by
 rw [Y2];cases e:u.pieces[i]? with
 |none=>exact jz3
 |some p=>exact h.ok p (X6 e)
def ym1 {v i n:Int} {b:List Int}:zt2 v i n b=true↔1<=v/\v<=1073741824/\1<=n/\n<=40/\0<=i/\i<n/\1<=b.length/\b.length<=1024/\(b.length=1024\/i=n-1):=by unfold zt2;exact decide_eq_true_iff
def yc2 {R:Type} (a b:Option R):yz8 false a b=b:=rfl
def jp1 (m:Tbl):qm BIG m=some ((((),()),m,()),(true,())):=kl3 BIG m
def va1 {m:Tbl} (hm:jh2 m) {v i n:Int} {b:List Int} (hb:zo1 b=true):
  qo BIG m v i n b=some ((((),()),(yr0 m v i n b).1,()),((yr0 m v i n b).2.1,(yr0 m v i n b).2.2,())):=by
 rw [kl5,jp1,j7];dsimp only;rw [J3,z2,qq6,j7];cases hr:zt2 v i n b with
 |false=>unfold yr0;rw [hr];rfl
 |true=>
  have hr':=ym1.1 hr;have hbp:yd0 b:=⟨by omega,hb⟩;have hbn:b≠ []:=fun e=>by rw [e] at hr';simp at hr'
  rw [J3,z2];unfold yr0;rw [hr];simp only [Bool.true_eq_false,if_false];cases ht:zu9 m v with
  |true=>
   have hu:UpOk (yx1 m v):=hm _ (yp6 ht);have hse:za6 m v (yx1 m v)=m:=zq9 ht;have hfx:=vk2 hu;rw [v6];simp only [if_true];have hq0:(ze6 TT (.user 3) m v:Upload)=yx1 m v:=rfl;rw [hq0];generalize yx1 m v=u at hu hse hfx⊢;rw [if_pos (by omega),hfx];by_cases hw:u.whole=n
   ·have hw':(u.whole != n)=false:=by simp [hw]
    rw [hw',z2];have hg:=qm3 hu i.toNat;have hU:=hu.set hbp i.toNat;have key:(j6 (u9 (u.pieces.set i.toNat b) u.whole)
      (j8 (qj (u.pieces.set i.toNat b) u.whole) fun y4=>some ((((),()),za6 m v (⟨y4.1.1.1,y4.1.1.2.1⟩:Upload),()),(([]:List Int),(0:Int),())))
      (j8 (qk (u.pieces.set i.toNat b) u.whole) fun y5=>yz8 y5.2.1.isEmpty
       (some ((((),()),za6 m v (⟨y5.1.1.1,y5.1.1.2.1⟩:Upload),()),(y5.2.1,(0:Int),())))
       (some ((((),()),zi0 m v,()),(y5.2.1,(0:Int),())))))
      =some ((((),()),(zr0 m v ⟨u.pieces.set i.toNat b,u.whole⟩).1,()),((zr0 m v ⟨u.pieces.set i.toNat b,u.whole⟩).2.1,(zr0 m v ⟨u.pieces.set i.toNat b,u.whole⟩).2.2,())):=by
     unfold zr0;cases hmi:u9 (u.pieces.set i.toNat b) u.whole with
     |true=>rw [v6,yy2 hU hmi,j7];rfl
     |false=>
      rw [z2,yy3 hU hmi,j7];dsimp only;rw [ja3 hU hmi,yc2];rfl
    cases hp:(u.pieces.getD i.toNat ([]:List Int)).isEmpty with
    |true=>
     have hp':u.pieces.getD i.toNat ([]:List Int)= []:=by simpa using hp
     rw [v6,yd2 hbn hbp.1,j7];rw [if_pos (by omega),if_pos (by omega),key,if_neg (by rw [hp'];simp [hw])]
    |false=>
     have hp':u.pieces.getD i.toNat ([]:List Int)≠ []:=fun e=>by rw [e] at hp;cases hp
     rw [z2,qm1 hg.2 hb,j7];by_cases he:u.pieces.getD i.toNat ([]:List Int)=b
     ·rw [W6 he,J3,z2,yd2 hbn hbp.1,j7];rw [if_pos (by omega),if_pos (by omega),key,if_neg (fun h=>h.elim (fun h=>h hw) fun h=>h.2 he)]
     ·rw [W7 he,Bool.not_false,v6,if_pos (.inr ⟨hp',he⟩)];show some ((((),()),za6 m v u,()),(([]:List Int),(7:Int),()))=_;rw [hse]
   ·have hw':(u.whole != n)=true:=by simp [hw]
    rw [hw',v6,if_pos (.inl hw)];show some ((((),()),za6 m v u,()),(([]:List Int),(7:Int),()))=_;rw [hse]
  |false=>
   rw [z2];simp only [Bool.false_eq_true,if_false];have hu:UpOk ⟨List.replicate 40 [],n⟩:=vo4 (by omega);have hU:UpOk ⟨(List.replicate 40 []).set i.toNat b,n⟩:=hu.set hbp i.toNat;have hd:(List.replicate 40 ([]:List Int)).getD i.toNat ([]:List Int)= []:=by
    rw [Y2,List.getElem?_replicate];split<;>rfl
   have hn:(n != n)=false:=by simp
   rw [if_pos (by omega),hn,z2,hd];rw [show ([]:List Int).isEmpty=true from rfl,v6];rw [yd2 hbn hbp.1,j7];rw [if_pos (by omega),if_pos (by omega),if_neg (fun h=>h.elim (fun h=>h rfl) fun h=>h.1 rfl)];unfold zr0;cases hmi:u9 ((List.replicate 40 ([]:List Int)).set i.toNat b) n with
   |true=>
    rw [v6,yy2 hU hmi,j7];dsimp only;rw [yt4];rfl
   |false=>
    rw [z2,yy3 hU hmi,j7];dsimp only;rw [ja3 hU hmi,yc2,yt3];rfl
def ke2 {m:Tbl} (hm:jh2 m) {v i n:Int} {b:List Int} (hb:zo1 b=true):
  qt BIG m v i n b=some ((((),()),(yr0 m v i n b).1,b,()),((yr0 m v i n b).2.1,(yr0 m v i n b).2.2,())):=by
 rw [km2,jp1,j7];dsimp only;rw [J3,z2,qq6,j7];cases hr:zt2 v i n b with
 |false=>unfold yr0;rw [hr];rfl
 |true=>
  have hr':=ym1.1 hr;have hbp:yd0 b:=⟨by omega,hb⟩;have hbn:b≠ []:=fun e=>by rw [e] at hr';simp at hr'
  rw [J3,z2];unfold yr0;rw [hr];simp only [Bool.true_eq_false,if_false];cases ht:zu9 m v with
  |true=>
   have hu:UpOk (yx1 m v):=hm _ (yp6 ht);have hse:za6 m v (yx1 m v)=m:=zq9 ht;have hfx:=vk2 hu;rw [v6];simp only [if_true];have hq0:(ze6 TT (.user 3) m v:Upload)=yx1 m v:=rfl;rw [hq0];generalize yx1 m v=u at hu hse hfx⊢;rw [if_pos (by omega),hfx];by_cases hw:u.whole=n
   ·have hw':(u.whole != n)=false:=by simp [hw]
    rw [hw',z2];have hg:=qm3 hu i.toNat;have hU:=hu.set hbp i.toNat;have key:(j6 (u9 (u.pieces.set i.toNat b) u.whole)
      (j8 (qj (u.pieces.set i.toNat b) u.whole) fun y4=>some ((((),()),za6 m v (⟨y4.1.1.1,y4.1.1.2.1⟩:Upload),b,()),(([]:List Int),(0:Int),())))
      (j8 (qk (u.pieces.set i.toNat b) u.whole) fun y5=>yz8 y5.2.1.isEmpty
       (some ((((),()),za6 m v (⟨y5.1.1.1,y5.1.1.2.1⟩:Upload),b,()),(y5.2.1,(0:Int),())))
       (some ((((),()),zi0 m v,b,()),(y5.2.1,(0:Int),())))))
      =some ((((),()),(zr0 m v ⟨u.pieces.set i.toNat b,u.whole⟩).1,b,()),((zr0 m v ⟨u.pieces.set i.toNat b,u.whole⟩).2.1,(zr0 m v ⟨u.pieces.set i.toNat b,u.whole⟩).2.2,())):=by
     unfold zr0;cases hmi:u9 (u.pieces.set i.toNat b) u.whole with
     |true=>rw [v6,yy2 hU hmi,j7];rfl
     |false=>
      rw [z2,yy3 hU hmi,j7];dsimp only;rw [ja3 hU hmi,yc2];rfl
    cases hp:(u.pieces.getD i.toNat ([]:List Int)).isEmpty with
    |true=>
     have hp':u.pieces.getD i.toNat ([]:List Int)= []:=by simpa using hp
     rw [v6,yd2 hbn hbp.1,j7];rw [if_pos (by omega),if_pos (by omega),key,if_neg (by rw [hp'];simp [hw])]
    |false=>
     have hp':u.pieces.getD i.toNat ([]:List Int)≠ []:=fun e=>by rw [e] at hp;cases hp
     rw [z2,qm1 hg.2 hb,j7];by_cases he:u.pieces.getD i.toNat ([]:List Int)=b
     ·rw [W6 he,J3,z2,yd2 hbn hbp.1,j7];rw [if_pos (by omega),if_pos (by omega),key,if_neg (fun h=>h.elim (fun h=>h hw) fun h=>h.2 he)]
     ·rw [W7 he,Bool.not_false,v6,if_pos (.inr ⟨hp',he⟩)];show some ((((),()),za6 m v u,b,()),(([]:List Int),(7:Int),()))=_;rw [hse]
   ·have hw':(u.whole != n)=true:=by simp [hw]
    rw [hw',v6,if_pos (.inl hw)];show some ((((),()),za6 m v u,b,()),(([]:List Int),(7:Int),()))=_;rw [hse]
  |false=>
   rw [z2];simp only [Bool.false_eq_true,if_false];have hu:UpOk ⟨List.replicate 40 [],n⟩:=vo4 (by omega);have hU:UpOk ⟨(List.replicate 40 []).set i.toNat b,n⟩:=hu.set hbp i.toNat;have hd:(List.replicate 40 ([]:List Int)).getD i.toNat ([]:List Int)= []:=by
    rw [Y2,List.getElem?_replicate];split<;>rfl
   have hn:(n != n)=false:=by simp
   rw [if_pos (by omega),hn,z2,hd];rw [show ([]:List Int).isEmpty=true from rfl,v6];rw [yd2 hbn hbp.1,j7];rw [if_pos (by omega),if_pos (by omega),if_neg (fun h=>h.elim (fun h=>h rfl) fun h=>h.1 rfl)];unfold zr0;cases hmi:u9 ((List.replicate 40 ([]:List Int)).set i.toNat b) n with
   |true=>
    rw [v6,yy2 hU hmi,j7];dsimp only;rw [yt4];rfl
   |false=>
    rw [z2,yy3 hU hmi,j7];dsimp only;rw [ja3 hU hmi,yc2,yt3];rfl
def vv4 {m:Tbl} (hm:jh2 m) {v i n:Int} {b:List Int} (hb:zo1 b=true):jh2 (yr0 m v i n b).1:=by
 unfold yr0;split
 ·exact hm
 rename_i hr;have hr:=ym1.1 (Bool.not_eq_false _▸hr:zt2 v i n b=true);have hu:UpOk (if zu9 m v=true then yx1 m v else ⟨List.replicate 40 [],n⟩):=by
  split
  ·rename_i h;exact hm _ (yp6 h)
  ·exact vo4 (by omega)
 generalize (if zu9 m v=true then yx1 m v else (⟨List.replicate 40 [],n⟩:Upload))=u at hu;show jh2 (if u.whole≠n\/(u.pieces.getD i.toNat []≠ []/\u.pieces.getD i.toNat []≠b) then (m,[],7) else zr0 m v ⟨u.pieces.set i.toNat b,u.whole⟩:Tbl×List Int×Int).1;split
 ·exact hm
 ·have hb':yd0 b:=⟨by omega,hb⟩;unfold zr0;split
  ·intro x hx;rcases qc9 hx with rfl|hx
   ·exact hu.set hb' _
   ·exact hm x hx
  ·exact fun x hx=>hm x (qc5 hx)
end Go.Y
