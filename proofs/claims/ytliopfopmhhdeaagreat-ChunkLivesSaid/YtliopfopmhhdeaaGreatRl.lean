import Derived.Test.YtliopfopmhhdeaaGreatRo
set_option linter.defProp false
namespace Go.Y
open Go.RowKit Go.V Go.X
def zg0 {α:Type} (m:List (Int×α)):List Int:=m.map Prod.fst
def yt3 {α:Type}: ∀ {m:List (Int×α)} {v:Int},zf1 m v=true↔v∈zg0 m
 | [],v=>by simp [zf1,zg0]
 |(y,b)::r,v=>by
  rw [zg6];show _↔v∈y::zg0 r;rw [Z0,<-yt3 (m:=r)];by_cases e:v=y
  ·simp [e]
  ·simp [e]
def yk1 {α:Type}: ∀(m:List (Int×α)) (v:Int) (a:α),zg0 (k8 m v a)=if zf1 m v=true then zg0 m else zg0 m++ [v]
 | [],v,a=>rfl
 |(y,b)::r,v,a=>by
  rw [zv7,zg6];by_cases e:v=y
  ·subst e;simp [zg0]
  ·rw [if_neg e,if_neg e];show y::zg0 (k8 r v a)=_;rw [yk1 r];split<;>rfl
def kg0 {α:Type} {m:List (Int×α)} {v:Int} {a:α} (h:(zg0 m).Nodup):(zg0 (k8 m v a)).Nodup:=by
 rw [yk1];split
 ·exact h
 ·rename_i hn;rw [yt3] at hn;rw [List.nodup_append];exact ⟨h,List.nodup_cons.2 ⟨by simp,List.nodup_nil⟩,fun x hx y hy e=>hn (by rw [Q5] at hy;rw [<-hy,<-e];exact hx)⟩
def ya5 {α:Type}: ∀(m:List (Int×α)) (v:Int),zg0 (zc9 m v)=(zg0 m).erase v
 | [],v=>rfl
 |(y,b)::r,v=>by
  show zg0 (if v=y then r else (y,b)::zc9 r v)=(y::zg0 r).erase v;by_cases e:v=y
  ·subst e;rw [if_pos rfl,List.erase_cons_head]
  ·rw [if_neg e,List.erase_cons_tail (by simpa using fun h:y=v=>e h.symm)];show y::zg0 (zc9 r v)=_;rw [ya5 r]
def kf9 {α:Type} {m:List (Int×α)} {v:Int} (h:(zg0 m).Nodup):(zg0 (zc9 m v)).Nodup:=by rw [ya5];exact h.erase v
def js1 {α:Type} {m:List (Int×α)} {v:Int} (h:(zg0 m).Nodup):zf1 (zc9 m v) v=false:=by
 rw [Bool.eq_false_iff,Ne,yt3,ya5];exact h.not_mem_erase
def yl3 {α:Type}: ∀(m:List (Int×α)) (v:Int) (a:α),zf1 (k8 m v a) v=true
 | [],v,a=>by simp [k8,zf1]
 |(y,b)::r,v,a=>by
  rw [zv7];by_cases e:v=y
  ·rw [if_pos e,zg6,if_pos rfl]
  ·rw [if_neg e,zg6,if_neg e,yl3 r]
def yd6 {α:Type}: ∀(m:List (Int×α)) {v v':Int} (a:α),v'≠v->zf1 (k8 m v a) v'=zf1 m v'
 | [],v,v',a,h=>by simp [k8,zf1,h]
 |(y,b)::r,v,v',a,h=>by
  rw [zv7];by_cases e:v=y
  ·subst e;rw [if_pos rfl,zg6,zg6,if_neg h]
  ·rw [if_neg e,zg6,zg6,yd6 r a h]
def yd5 {α:Type}: ∀(m:List (Int×α)) {v v':Int},v'≠v->zf1 (zc9 m v) v'=zf1 m v'
 | [],v,v',h=>rfl
 |(y,b)::r,v,v',h=>by
  show zf1 (if v=y then r else (y,b)::zc9 r v) v'=_;by_cases e:v=y
  ·subst e;rw [if_pos rfl,zg6,if_neg h]
  ·rw [if_neg e,zg6,zg6,yd5 r h]
def yj8: ∀(m:Tbl) (v:Int) (a:Upload),zo1 (k8 m v a) v=a
 | [],v,a=>by show zo1 [(v,a)] v=a;rw [zf3,if_pos rfl]
 |(y,b)::r,v,a=>by
  rw [zv7];by_cases e:v=y
  ·rw [if_pos e,zf3,if_pos rfl]
  ·rw [if_neg e,zf3,if_neg e,yj8 r]
def yd3: ∀(m:Tbl) {v v':Int} (a:Upload),v'≠v->zo1 (k8 m v a) v'=zo1 m v'
 | [],v,v',a,h=>by show zo1 [(v,a)] v'=_;rw [zf3,if_neg h]
 |(y,b)::r,v,v',a,h=>by
  rw [zv7];by_cases e:v=y
  ·subst e;rw [if_pos rfl,zf3,zf3,if_neg h,if_neg h]
  ·rw [if_neg e,zf3,zf3,yd3 r a h]
def yd2: ∀(m:Tbl) {v v':Int},v'≠v->zo1 (zc9 m v) v'=zo1 m v'
 | [],v,v',h=>rfl
 |(y,b)::r,v,v',h=>by
  show zo1 (if v=y then r else (y,b)::zc9 r v) v'=_;by_cases e:v=y
  ·subst e;rw [if_pos rfl,zf3,if_neg h]
  ·rw [if_neg e,zf3,zf3,yd2 r h]
def zj8 (t:Tbl) (v n:Int):Upload:=if zf1 t v=true then zo1 t v else ⟨List.replicate 40 [],n⟩
def vc0 {t:Tbl} (h:yr0 t) {v n:Int} (hn:1<=n/\n<=40):UpOk (zj8 t v n):=by
 unfold zj8;split
 ·rename_i hh;exact h _ (zy0 hh)
 ·exact qp1 hn
def kr4 {t:Tbl} {v n:Int} {i:Nat} {b:List Int} (hr:zg9 v (i:Int) n b=true) (hw:(zj8 t v n).whole=n) (hp:(zj8 t v n).pieces.getD i []= []\/(zj8 t v n).pieces.getD i []=b):
  zt2 t v (i:Int) n b=zg7 t v ⟨(zj8 t v n).pieces.set i b,n⟩:=by
 unfold zt2;rw [hr];simp only [R7,if_false];show (if (zj8 t v n).whole≠n\/((zj8 t v n).pieces.getD (i:Int).toNat []≠ []/\(zj8 t v n).pieces.getD (i:Int).toNat []≠b) then ((t,[],7):Tbl×List Int×Int) else zg7 t v ⟨(zj8 t v n).pieces.set (i:Int).toNat b,(zj8 t v n).whole⟩)=_;rw [Z1,if_neg,hw]
 rintro (h|⟨h1,h2⟩)
 ·exact h hw
 ·exact hp.elim h1 h2
def vp5 (l:List (List Int)) (i k:Nat) (b:List Int) (hi:i<l.length):(l.set i b).getD k []=if k=i then b else l.getD k []:=by
 rw [Y2,List.getElem?_set];by_cases h:i=k
 ·subst h;simp [hi]
 ·rw [if_neg h,if_neg (fun e=>h e.symm),Y2]
def qf7 {ps:List (List Int)} {n:Nat} (hl:n<=ps.length):k7 ps (n:Int)=true↔ ∃k,k<n/\ps.getD k []= []:=by
 constructor
 ·intro h;by_cases hh: ∃k,k<n/\ps.getD k []= []
  ·exact hh
  ·rw [je5 hl (fun i hi he=>hh ⟨i,hi,he⟩)] at h;cases h
 ·rintro ⟨k,hk,he⟩
  unfold k7;rw [List.any_eq_true];refine ⟨[],?_,rfl⟩;rw [Z1];refine Y9.2 ⟨k,?_⟩;rw [Z3,if_pos hk,Y0 (by omega)];rw [Y2,Y0 (by omega)] at he;exact congrArg some he
structure Rel (m:Tbl) (r:List Come):Prop where
 ok:yr0 m
 nd:(zg0 m).Nodup
 rng: ∀v∈zg0 m,1<=v/\v<=1073741824
 whole: ∀v,zb1 r v=if zf1 m v=true then (zo1 m v).whole else 0
 piece: ∀v (i:Nat),q9 r v (i:Int)=if zf1 m v=true/\(zo1 m v).pieces.getD i []≠ [] then some ((zo1 m v).pieces.getD i []) else none
 small: ∀c∈r,c.piece.length<=1024/\1<=c.whole
def Rel.nil:Rel [] [] where
 ok:=fun x h=>(T8 h).elim
 nd:=List.nodup_nil
 rng:=fun v h=>(T8 h).elim
 whole:=fun v=>rfl
 piece:=fun v i=>rfl
 small:=fun c h=>(T8 h).elim
def yf5: ∀ {r:List Come} {v:Int},(∀c∈r,1<=c.whole)->(0<zb1 r v↔ ∃c∈r,c.version=v)
 | [],v,_=>by simp [zb1]
 |c::r,v,h=>by
  have ih:=yf5 (r:=r) (v:=v) fun c hc=>h c (by simp [hc]);have hc:=h c (by simp);unfold zb1;by_cases e:c.version=v
  ·rw [if_pos e];exact ⟨fun _=>⟨c,by simp,e⟩,fun _=>by omega⟩
  ·rw [if_neg e,ih];exact ⟨fun ⟨c',h1,h2⟩=>⟨c',by simp [h1],h2⟩,fun ⟨c',h1,h2⟩=>by
    rcases Z0.1 h1 with rfl|h1
    ·exact absurd h2 e
    ·exact ⟨c',h1,h2⟩⟩
def ja2: ∀ {r:List Come} {v:Int},(¬ ∃c∈r,c.version=v)->zb1 r v=0
 | [],v,_=>rfl
 |c::r,v,h=>by
  unfold zb1;rw [if_neg (fun e=>h ⟨c,by simp,e⟩)];exact ja2 fun ⟨c',h1,h2⟩=>h ⟨c',by simp [h1],h2⟩
def ja1 (v v':Int): ∀r:List Come,zb1 (zp0 r v) v'=if v'=v then 0 else zb1 r v'
 | []=>by simp [zb1,zp0]
 |c::r=>by
  have ih:=ja1 v v' r;unfold zp0 at ih⊢;rw [List.filter_cons];by_cases e:c.version=v
  ·rw [if_neg (by simp [e]),ih];unfold zb1;by_cases h:v'=v
   ·rw [if_pos h,if_pos h]
   ·rw [if_neg h,if_neg h];show _=if _ then _ else _
    rw [if_neg (fun h'=>h (h'.symm.trans e))];cases r<;>rfl
  ·rw [if_pos (by simpa using e)];unfold zb1;rw [ih];by_cases h:v'=v
   ·rw [if_pos h,if_pos h,if_neg (fun h'=>e (h'.trans h))]
   ·rw [if_neg h,if_neg h]
def yz1 (v v' i:Int): ∀r:List Come,q9 (zp0 r v) v' i=if v'=v then none else q9 r v' i
 | []=>by simp [q9,zp0]
 |c::r=>by
  have ih:=yz1 v v' i r;unfold zp0 at ih⊢;rw [List.filter_cons];by_cases e:c.version=v
  ·rw [if_neg (by simp [e]),ih];by_cases h:v'=v
   ·rw [if_pos h,if_pos h]
   ·rw [if_neg h,if_neg h];show _=if _ then _ else _
    rw [if_neg (fun h'=>h (h'.1.symm.trans e))]
  ·rw [if_pos (by simpa using e)];show (if _ then _ else _)=_;rw [ih];by_cases h:v'=v
   ·rw [if_pos h,if_pos h,if_neg (fun h'=>e (h'.1.trans h))]
   ·rw [if_neg h,if_neg h];rfl
def yf4 (c:Come) (v:Int): ∀r:List Come,zb1 (r++ [c]) v=if (∃c∈r,c.version=v) then zb1 r v else if c.version=v then c.whole else 0
 | []=>by simp [zb1]
 |d::r=>by
  have ih:=yf4 c v r;show (if d.version=v then d.whole else zb1 (r++ [c]) v)=_;by_cases e:d.version=v
  ·rw [if_pos e,if_pos ⟨d,by simp,e⟩];show _=if _ then _ else _
   rw [if_pos e]
  ·rw [if_neg e,ih];by_cases h: ∃c∈r,c.version=v
   ·obtain ⟨c',h1,h2⟩:=h;rw [if_pos ⟨c',h1,h2⟩,if_pos ⟨c',by simp [h1],h2⟩];show _=if _ then _ else _
    rw [if_neg e]
   ·have h3: ¬ ∃c∈d::r,c.version=v:=fun ⟨c',h1,h2⟩=>by
     rcases Z0.1 h1 with rfl|h1
     ·exact e h2
     ·exact h ⟨c',h1,h2⟩
    rw [if_neg h,if_neg h3]
def jf4 (c:Come) (v i:Int): ∀r:List Come,q9 (r++ [c]) v i=if (q9 r v i).isSome=true then q9 r v i else if c.version=v/\c.at_=i then some c.piece else none
 | []=>by simp [q9]
 |d::r=>by
  have ih:=jf4 c v i r;show (if d.version=v/\d.at_=i then some d.piece else q9 (r++ [c]) v i)=_;have e:q9 (d::r) v i=if d.version=v/\d.at_=i then some d.piece else q9 r v i:=rfl
  rw [e];by_cases h:d.version=v/\d.at_=i
  ·rw [if_pos h,if_pos h,if_pos (by rfl)]
  ·rw [if_neg h,if_neg h,ih]
section
variable {m:Tbl} {r:List Come} {v i n:Int} {b:List Int}
def Rel.whole1 (h:Rel m r) (v:Int):0<zb1 r v↔zf1 m v=true:=by
 rw [h.whole];cases ht:zf1 m v with
 |true=>
  have hh:1<=(zo1 m v).whole:=(h.ok _ (zy0 ht)).whole.1;rw [if_pos rfl];exact ⟨fun _=>rfl,fun _=>by omega⟩
 |false=>simp
def Rel.opn (h:Rel m r):yg7 r=zk0 (zg0 m):=by
 have hm: ∀x,x∈yg7 r↔x∈zg0 m:=fun x=>by
  rw [vg5,<-yf5 (fun c hc=>(h.small c hc).2),h.whole1,yt3]
 have hn:(yg7 r).Nodup:=(yq0 r).imp fun h=>by omega
 exact yx6 (((List.perm_ext_iff_of_nodup hn h.nd).2 hm).trans (zm4 _).symm) ((yq0 r).imp fun h=>by omega) (zo2 _)
def Rel.drop (h:Rel m r) (v:Int):Rel (zc9 m v) (zp0 r v):=by
 refine ⟨fun x hx=>h.ok x (jj5 hx),kf9 h.nd,fun x hx=>h.rng x (by rw [ya5] at hx;exact List.mem_of_mem_erase hx),fun v'=>?_,fun v' i=>?_,fun c hc=>h.small c (W3.1 hc).1⟩
 ·rw [ja1];by_cases e:v'=v
  ·subst e;rw [if_pos rfl,js1 h.nd];rfl
  ·rw [if_neg e,yd5 m e,yd2 m e,h.whole]
 ·rw [yz1];by_cases e:v'=v
  ·subst e;rw [if_pos rfl,js1 h.nd];simp
  ·rw [if_neg e,yd5 m e,yd2 m e,h.piece]
def Rel.there (h:Rel m r) {p:List Int} {i:Nat} (hp:q9 r v (i:Int)=some p):zf1 m v=true/\(zo1 m v).pieces.getD i []=p/\p≠ []:=by
 rw [h.piece] at hp;split at hp
 ·rename_i hc;simp only [X0] at hp;subst hp;exact ⟨hc.1,rfl,hc.2⟩
 ·cases hp
def Rel.put (h:Rel m r) {i:Nat} (hr:zg9 v (i:Int) n b=true) (hb:ze1 b=true) (hw:(zj8 m v n).whole=n) (hp:(zj8 m v n).pieces.getD i []= []\/(zj8 m v n).pieces.getD i []=b):
  Rel (k8 m v ⟨(zj8 m v n).pieces.set i b,n⟩) (if (q9 r v (i:Int)).isSome=true then r else r++ [⟨v,(i:Int),n,b⟩]):=by
 have hr':=za5.1 hr;have hv:=vc0 h.ok (v:=v) (n:=n) (by omega);have hbn:b≠ []:=fun e=>by rw [e] at hr';simp at hr'
 have hU:UpOk ⟨(zj8 m v n).pieces.set i b,n⟩:=by have:=hv.set (⟨by omega,hb⟩:zv8 b) i;rwa [hw] at this
 have hget:=fun k=>vp5 (zj8 m v n).pieces i k b (by have:=hv.len;omega);have hvt:zf1 m v=true->zj8 m v n=zo1 m v:=fun ht=>by unfold zj8;rw [if_pos ht]
 have hvf:zf1 m v=false->zj8 m v n=⟨List.replicate 40 [],n⟩:=fun ht=>by unfold zj8;rw [if_neg (by rw [ht];simp)]
 have hpos:=h.whole1 v;refine ⟨fun x hx=>?_,kg0 h.nd,fun x hx=>?_,fun v'=>?_,fun v' k=>?_,fun c hc=>?_⟩
 ·rcases jj6 hx with rfl|hx
  ·exact hU
  ·exact h.ok x hx
 ·rw [yk1] at hx;split at hx
  ·exact h.rng x hx
  ·rcases X4.1 hx with hx|hx
   ·exact h.rng x hx
   ·rw [Q5.1 hx];omega
 ·by_cases e:v'=v
  ·subst e;rw [yl3,if_pos rfl,yj8];show _=n;cases ht:zf1 m v' with
   |true=>
    have hwr:zb1 r v'=n:=by rw [h.whole,if_pos ht,<-hvt ht,hw]
    split
    ·exact hwr
    ·rw [yf4,if_pos ((yf5 (fun c hc=>(h.small c hc).2)).1 (hpos.2 ht)),hwr]
   |false=>
    split
    ·rename_i hs;obtain ⟨p,hp'⟩:=N6.1 hs;rw [(h.there hp').1] at ht;cases ht
    ·rw [yf4,if_neg (fun h'=>by have:=hpos.1 ((yf5 (fun c hc=>(h.small c hc).2)).2 h');rw [ht] at this;cases this),if_pos rfl]
  ·rw [yd6 m _ e,yd3 m _ e,<-h.whole];split
   ·rfl
   ·rw [yf4];by_cases hc: ∃c∈r,c.version=v'
    ·rw [if_pos hc]
    ·rw [if_neg hc,if_neg (fun h'=>e h'.symm),ja2 hc]
 ·have app: ∀(v':Int) (k:Nat),q9 (if (q9 r v (i:Int)).isSome=true then r else r++ [(⟨v,(i:Int),n,b⟩:Come)]) v' (k:Int)=if (q9 r v' (k:Int)).isSome=true then q9 r v' (k:Int) else if v=v'/\i=k then some b else none:=fun v' k=>by
   split
   ·rename_i hs;by_cases hk:(q9 r v' (k:Int)).isSome=true
    ·rw [if_pos hk]
    ·rw [if_neg hk,if_neg (by rintro ⟨rfl,rfl⟩;exact hk hs)];cases hq:q9 r v' (k:Int) with
     |none=>rfl
     |some p=>rw [hq] at hk;exact absurd rfl hk
   ·rw [jf4];by_cases hk:(q9 r v' (k:Int)).isSome=true
    ·rw [if_pos hk,if_pos hk]
    ·rw [if_neg hk,if_neg hk];by_cases hc:v=v'/\i=k
     ·rw [if_pos hc,if_pos (by exact ⟨hc.1,by rw [hc.2]⟩)]
     ·rw [if_neg hc,if_neg (by rintro ⟨h1,h2⟩;exact hc ⟨h1,by have h2:((i:Nat):Int)=(k:Int):=h2;omega⟩)]
  rw [app];by_cases e:v'=v
  ·subst e;rw [yl3,yj8];show _=if true=true/\((zj8 m v' n).pieces.set i b).getD k []≠ [] then some (((zj8 m v' n).pieces.set i b).getD k []) else none
   rw [hget];have hold:q9 r v' (k:Int)=if (zj8 m v' n).pieces.getD k []≠ [] then some ((zj8 m v' n).pieces.getD k []) else none:=by
    rw [h.piece];cases ht:zf1 m v' with
    |true=>rw [hvt ht];simp
    |false=>
     have:(zj8 m v' n).pieces.getD k []= []:=by
      rw [hvf ht,Y2,List.getElem?_replicate];split<;>rfl
     rw [this];simp
   rw [hold];by_cases hk:k=i
   ·subst hk;rw [if_pos rfl];rcases hp with hp|hp
    ·rw [hp];simp [hbn]
    ·rw [hp];simp [hbn]
   ·rw [if_neg hk];by_cases hz:(zj8 m v' n).pieces.getD k []= []
    ·rw [hz];simp;exact fun h=>absurd h.symm hk
    ·rw [if_pos hz,if_pos (by rfl),if_pos ⟨rfl,hz⟩]
  ·rw [yd6 m _ e,yd3 m _ e,<-h.piece];by_cases hk:(q9 r v' (k:Int)).isSome=true
   ·rw [if_pos hk]
   ·rw [if_neg hk,if_neg (fun h'=>e h'.1.symm)];cases hq:q9 r v' (k:Int) with
    |none=>rfl
    |some p=>rw [hq] at hk;exact absurd rfl hk
 ·split at hc
  ·exact h.small c hc
  ·rcases X4.1 hc with hc|hc
   ·exact h.small c hc
   ·rw [Q5.1 hc];exact ⟨by show b.length<=1024;omega,by show 1<=n;omega⟩
end
def qj3 (l:List (List Int)): ∀n,n<=l.length->(List.range n).map (fun j=>l.getD j [])=l.take n
 |0,_=>by simp
 |n+1,h=>by
  rw [List.range_succ,J0,qj3 l n (by omega),jx9 (d:= []) (by omega)];rfl
def Rel.step {m:Tbl} {r:List Come} (h:Rel m r) (v i n:Int) (b:List Int) (hb:ze1 b=true):(zt2 m v i n b).2=(ya0 r v i n b).2/\Rel (zt2 m v i n b).1 (ya0 r v i n b).1:=by
 cases hr:zg9 v i n b with
 |false=>unfold zt2 ya0;rw [if_pos hr,if_pos hr];exact ⟨rfl,h⟩
 |true=>
  have hr':=za5.1 hr;obtain ⟨i,rfl⟩: ∃k:Nat,i=(k:Int):=⟨i.toNat,by omega⟩;obtain ⟨q,rfl⟩: ∃k:Nat,n=(k:Int):=⟨n.toNat,by omega⟩;have hv:=vc0 h.ok (v:=v) (n:=(q:Int)) (by omega);have hvt:zf1 m v=true->zj8 m v (q:Int)=zo1 m v:=fun ht=>by unfold zj8;rw [if_pos ht]
  have hvf:zf1 m v=false->zj8 m v (q:Int)=⟨List.replicate 40 [],(q:Int)⟩:=fun ht=>by unfold zj8;rw [if_neg (by rw [ht];simp)]
  have hcond:(decide (0<zb1 r v/\zb1 r v≠(q:Int))||yv3 (q9 r v (i:Int)) b)=true↔((zj8 m v (q:Int)).whole≠(q:Int)\/((zj8 m v (q:Int)).pieces.getD i []≠ []/\(zj8 m v (q:Int)).pieces.getD i []≠b)):=by
   rw [J3,decide_eq_true_eq,h.whole1];cases ht:zf1 m v with
   |true=>
    rw [h.whole,if_pos ht,hvt ht,h.piece,ht];by_cases hz:(zo1 m v).pieces.getD i []= []
    ·rw [if_neg (fun h=>h.2 hz),yd7,hz];simp
    ·rw [if_pos ⟨rfl,hz⟩,yq3,decide_eq_true_eq];exact ⟨fun h=>h.elim (fun h=>.inl h.2) (fun h=>.inr ⟨hz,h⟩),fun h=>h.elim (fun h=>.inl ⟨rfl,h⟩) (fun h=>.inr h.2)⟩
   |false=>
    have:(List.replicate 40 ([]:List Int)).getD i []= []:=by rw [Y2,List.getElem?_replicate];split<;>rfl
    rw [hvf ht,h.piece,ht,if_neg (by simp),yd7];show _↔((q:Int)≠(q:Int)\/((List.replicate 40 ([]:List Int)).getD i []≠ []/\_));rw [this];simp
  by_cases hc:(zj8 m v (q:Int)).whole≠(q:Int)\/((zj8 m v (q:Int)).pieces.getD i []≠ []/\(zj8 m v (q:Int)).pieces.getD i []≠b)
  ·have e1:zt2 m v (i:Int) (q:Int) b=(m,[],7):=by
    unfold zt2;rw [hr];simp only [R7,if_false];show (if (zj8 m v (q:Int)).whole≠(q:Int)\/((zj8 m v (q:Int)).pieces.getD (i:Int).toNat []≠ []/\(zj8 m v (q:Int)).pieces.getD (i:Int).toNat []≠b) then ((m,[],7):Tbl×List Int×Int) else _)=_;rw [Z1,if_pos hc]
   have e2:ya0 r v (i:Int) (q:Int) b=(r,[],7):=by
    unfold ya0;rw [hr,if_neg (by simp),if_pos (hcond.2 hc)]
   rw [e1,e2];exact ⟨rfl,h⟩
  ·have hw:(zj8 m v (q:Int)).whole=(q:Int):=Decidable.byContradiction fun h'=>hc (.inl h');have hp:(zj8 m v (q:Int)).pieces.getD i []= []\/(zj8 m v (q:Int)).pieces.getD i []=b:=by
    by_cases h1:(zj8 m v (q:Int)).pieces.getD i []= []
    ·exact .inl h1
    ·exact .inr (Decidable.byContradiction fun h2=>hc (.inr ⟨h1,h2⟩))
   have hR:=h.put (v:=v) (n:=(q:Int)) (b:=b) (i:=i) hr hb hw hp;have e1:=kr4 (t:=m) (v:=v) (n:=(q:Int)) (i:=i) (b:=b) hr hw hp;have e2:ya0 r v (i:Int) (q:Int) b=zk4 (if (q9 r v (i:Int)).isSome=true then r else r++ [⟨v,(i:Int),(q:Int),b⟩]) v (q:Int):=by
    unfold ya0;rw [hr,if_neg (by simp),if_neg (fun h'=>hc (hcond.1 h'))]
   rw [e1,e2];generalize hr2:(if (q9 r v (i:Int)).isSome=true then r else r++ [(⟨v,(i:Int),(q:Int),b⟩:Come)])=r2 at hR⊢;have hps:((zj8 m v (q:Int)).pieces.set i b).length=40:=by rw [Q1];exact hv.len
   generalize (zj8 m v (q:Int)).pieces.set i b=ps at hR hps⊢;have hpc: ∀k:Nat,q9 r2 v (k:Int)=if ps.getD k []≠ [] then some (ps.getD k []) else none:=fun k=>by
    rw [hR.piece,yl3,yj8];simp
   have hD:=hR.drop v;rw [yb4] at hD;unfold zg7 zk4;rw [Z1];by_cases hm:k7 ps (q:Int)=true
   ·rw [if_pos hm];obtain ⟨k,h1,h2⟩:=(qf7 (by omega)).1 hm;rw [if_neg (fun hall=>by have:=hall k h1;rw [hpc,h2] at this;simp at this)];exact ⟨rfl,hR⟩
   ·rw [if_neg hm];have hne: ∀k:Nat,k<q->ps.getD k []≠ []:=fun k hk e=>hm ((qf7 (by omega)).2 ⟨k,hk,e⟩);rw [if_pos (fun k hk=>by rw [hpc,if_pos (hne k hk)];rfl)];refine ⟨?_,hD⟩;show (vm8 ⟨ps,(q:Int)⟩,(0:Int))=(yl7 r2 v q,0);congr 1;unfold vm8 yl7;rw [if_neg hm];show (ps.take (q:Int).toNat).flatten=_;rw [Z1,<-qj3 ps q (by omega)];congr 1;refine List.map_congr_left fun k hk=>?_;rw [hpc,if_pos (hne k (U9.1 hk))];rfl
def qm0 (r:List Come) (v n:Int):(zk4 r v n).1.length<=r.length:=by
 unfold zk4;split
 ·exact yw2 _ _
 ·exact W8 _
def qm1 (r:List Come) (v n:Int) (hp: ∀c∈r,c.piece.length<=1024):(zk4 r v n).2.1.length<=1024*n.toNat:=by
 unfold zk4;split
 ·exact yr2 r v hp n.toNat
 ·exact U4 _
def vs7 (r:List Come) (v i n:Int) (b:List Int):(ya0 r v i n b).1.length<=r.length+1:=by
 unfold ya0;split
 ·exact Nat.le_succ _
 ·split
  ·exact Nat.le_succ _
  ·have:(if (q9 r v i).isSome=true then r else r++ [(⟨v,i,n,b⟩:Come)]).length<=r.length+1:=by split<;>simp
   exact W9 (qm0 _ _ _) this
def vs8 (r:List Come) (v i n:Int) (b:List Int) (hp: ∀c∈r,c.piece.length<=1024):(ya0 r v i n b).2.1.length<=40960:=by
 unfold ya0;split
 ·exact U4 _
 ·split
  ·exact U4 _
  ·rename_i hr _;have hr:zg9 v i n b=true:=by simpa using hr
   have hr':=za5.1 hr;have:=qm1 (if (q9 r v i).isSome=true then r else r++ [(⟨v,i,n,b⟩:Come)]) v n (fun c hc=>by
    cases hs:(q9 r v i).isSome with
    |true=>rw [hs,if_pos rfl] at hc;exact hp c hc
    |false=>
     rw [hs,if_neg (by simp)] at hc;rcases X4.1 hc with hc|hc
     ·exact hp c hc
     ·rw [Q5.1 hc];show b.length<=1024;omega)
   omega
end Go.Y
