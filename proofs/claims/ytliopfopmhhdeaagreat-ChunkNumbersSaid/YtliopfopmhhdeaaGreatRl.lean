import Derived.Test.YtliopfopmhhdeaaGreatRo
set_option linter.defProp false
namespace Go.Y
open Go.RowKit Go.V Go.X
def zg7 {α:Type} (m:List (Int×α)):List Int:=m.map Prod.fst
def yv6 {α:Type}: ∀ {m:List (Int×α)} {v:Int},zg0 m v=true↔v∈zg7 m
 | [],v=>by simp [zg0,zg7]
 |(y,b)::r,v=>by
  rw [zh4];show _↔v∈y::zg7 r;rw [Z0,<-yv6 (m:=r)];by_cases e:v=y
  ·simp [e]
  ·simp [e]
def yl5 {α:Type}: ∀(m:List (Int×α)) (v:Int) (a:α),zg7 (k9 m v a)=if zg0 m v=true then zg7 m else zg7 m++ [v]
 | [],v,a=>rfl
 |(y,b)::r,v,a=>by
  rw [zw6,zh4];by_cases e:v=y
  ·subst e;simp [zg7]
  ·rw [if_neg e,if_neg e];show y::zg7 (k9 r v a)=_;rw [yl5 r];split<;>rfl
def kl7 {α:Type} {m:List (Int×α)} {v:Int} {a:α} (h:(zg7 m).Nodup):(zg7 (k9 m v a)).Nodup:=by
 rw [yl5];split
 ·exact h
 ·rename_i hn;rw [yv6] at hn;rw [List.nodup_append];exact ⟨h,List.nodup_cons.2 ⟨by simp,List.nodup_nil⟩,fun x hx y hy e=>hn (by rw [Q5] at hy;rw [<-hy,<-e];exact hx)⟩
def yb8 {α:Type}: ∀(m:List (Int×α)) (v:Int),zg7 (ze0 m v)=(zg7 m).erase v
 | [],v=>rfl
 |(y,b)::r,v=>by
  show zg7 (if v=y then r else (y,b)::ze0 r v)=(y::zg7 r).erase v;by_cases e:v=y
  ·subst e;rw [if_pos rfl,List.erase_cons_head]
  ·rw [if_neg e,List.erase_cons_tail (by simpa using fun h:y=v=>e h.symm)];show y::zg7 (ze0 r v)=_;rw [yb8 r]
def kl6 {α:Type} {m:List (Int×α)} {v:Int} (h:(zg7 m).Nodup):(zg7 (ze0 m v)).Nodup:=by rw [yb8];exact h.erase v
def ju7 {α:Type} {m:List (Int×α)} {v:Int} (h:(zg7 m).Nodup):zg0 (ze0 m v) v=false:=by
 rw [Bool.eq_false_iff,Ne,yv6,yb8];exact h.not_mem_erase
def ym8 {α:Type}: ∀(m:List (Int×α)) (v:Int) (a:α),zg0 (k9 m v a) v=true
 | [],v,a=>by simp [k9,zg0]
 |(y,b)::r,v,a=>by
  rw [zw6];by_cases e:v=y
  ·rw [if_pos e,zh4,if_pos rfl]
  ·rw [if_neg e,zh4,if_neg e,ym8 r]
def yf1 {α:Type}: ∀(m:List (Int×α)) {v v':Int} (a:α),v'≠v->zg0 (k9 m v a) v'=zg0 m v'
 | [],v,v',a,h=>by simp [k9,zg0,h]
 |(y,b)::r,v,v',a,h=>by
  rw [zw6];by_cases e:v=y
  ·subst e;rw [if_pos rfl,zh4,zh4,if_neg h]
  ·rw [if_neg e,zh4,zh4,yf1 r a h]
def yf0 {α:Type}: ∀(m:List (Int×α)) {v v':Int},v'≠v->zg0 (ze0 m v) v'=zg0 m v'
 | [],v,v',h=>rfl
 |(y,b)::r,v,v',h=>by
  show zg0 (if v=y then r else (y,b)::ze0 r v) v'=_;by_cases e:v=y
  ·subst e;rw [if_pos rfl,zh4,if_neg h]
  ·rw [if_neg e,zh4,zh4,yf0 r h]
def yl2: ∀(m:Tbl) (v:Int) (a:Upload),zp6 (k9 m v a) v=a
 | [],v,a=>by show zp6 [(v,a)] v=a;rw [zg2,if_pos rfl]
 |(y,b)::r,v,a=>by
  rw [zw6];by_cases e:v=y
  ·rw [if_pos e,zg2,if_pos rfl]
  ·rw [if_neg e,zg2,if_neg e,yl2 r]
def ye8: ∀(m:Tbl) {v v':Int} (a:Upload),v'≠v->zp6 (k9 m v a) v'=zp6 m v'
 | [],v,v',a,h=>by show zp6 [(v,a)] v'=_;rw [zg2,if_neg h]
 |(y,b)::r,v,v',a,h=>by
  rw [zw6];by_cases e:v=y
  ·subst e;rw [if_pos rfl,zg2,zg2,if_neg h,if_neg h]
  ·rw [if_neg e,zg2,zg2,ye8 r a h]
def ye7: ∀(m:Tbl) {v v':Int},v'≠v->zp6 (ze0 m v) v'=zp6 m v'
 | [],v,v',h=>rfl
 |(y,b)::r,v,v',h=>by
  show zp6 (if v=y then r else (y,b)::ze0 r v) v'=_;by_cases e:v=y
  ·subst e;rw [if_pos rfl,zg2,if_neg h]
  ·rw [if_neg e,zg2,zg2,ye7 r h]
def zk5 (t:Tbl) (v n:Int):Upload:=if zg0 t v=true then zp6 t v else ⟨List.replicate 40 [],n⟩
def vf9 {t:Tbl} (h:yt3 t) {v n:Int} (hn:1<=n/\n<=40):UpOk (zk5 t v n):=by
 unfold zk5;split
 ·rename_i hh;exact h _ (zy8 hh)
 ·exact qt2 hn
def ky0 {t:Tbl} {v n:Int} {i:Nat} {b:List Int} (hr:zh6 v (i:Int) n b=true) (hw:(zk5 t v n).whole=n) (hp:(zk5 t v n).pieces.getD i []= []\/(zk5 t v n).pieces.getD i []=b):
  zu1 t v (i:Int) n b=zh5 t v ⟨(zk5 t v n).pieces.set i b,n⟩:=by
 unfold zu1;rw [hr];simp only [S7,if_false];show (if (zk5 t v n).whole≠n\/((zk5 t v n).pieces.getD (i:Int).toNat []≠ []/\(zk5 t v n).pieces.getD (i:Int).toNat []≠b) then ((t,[],7):Tbl×List Int×Int) else zh5 t v ⟨(zk5 t v n).pieces.set (i:Int).toNat b,(zk5 t v n).whole⟩)=_;rw [Z1,if_neg,hw]
 rintro (h|⟨h1,h2⟩)
 ·exact h hw
 ·exact hp.elim h1 h2
def vt4 (l:List (List Int)) (i k:Nat) (b:List Int) (hi:i<l.length):(l.set i b).getD k []=if k=i then b else l.getD k []:=by
 rw [Y2,List.getElem?_set];by_cases h:i=k
 ·subst h;simp [hi]
 ·rw [if_neg h,if_neg (fun e=>h e.symm),Y2]
def qi7 {ps:List (List Int)} {n:Nat} (hl:n<=ps.length):k8 ps (n:Int)=true↔ ∃k,k<n/\ps.getD k []= []:=by
 constructor
 ·intro h;by_cases hh: ∃k,k<n/\ps.getD k []= []
  ·exact hh
  ·rw [jg5 hl (fun i hi he=>hh ⟨i,hi,he⟩)] at h;cases h
 ·rintro ⟨k,hk,he⟩
  unfold k8;rw [List.any_eq_true];refine ⟨[],?_,rfl⟩;rw [Z1];refine Y9.2 ⟨k,?_⟩;rw [Z3,if_pos hk,Y0 (by omega)];rw [Y2,Y0 (by omega)] at he;exact congrArg some he
structure Rel (m:Tbl) (r:List Come):Prop where
 ok:yt3 m
 nd:(zg7 m).Nodup
 rng: ∀v∈zg7 m,1<=v/\v<=1073741824
 whole: ∀v,zb6 r v=if zg0 m v=true then (zp6 m v).whole else 0
 piece: ∀v (i:Nat),v7 r v (i:Int)=if zg0 m v=true/\(zp6 m v).pieces.getD i []≠ [] then some ((zp6 m v).pieces.getD i []) else none
 small: ∀c∈r,c.piece.length<=1024/\1<=c.whole
def Rel.nil:Rel [] [] where
 ok:=fun x h=>(N5 h).elim
 nd:=List.nodup_nil
 rng:=fun v h=>(N5 h).elim
 whole:=fun v=>rfl
 piece:=fun v i=>rfl
 small:=fun c h=>(N5 h).elim
def yh2: ∀ {r:List Come} {v:Int},(∀c∈r,1<=c.whole)->(0<zb6 r v↔ ∃c∈r,c.version=v)
 | [],v,_=>by simp [zb6]
 |c::r,v,h=>by
  have ih:=yh2 (r:=r) (v:=v) fun c hc=>h c (by simp [hc]);have hc:=h c (by simp);unfold zb6;by_cases e:c.version=v
  ·rw [if_pos e];exact ⟨fun _=>⟨c,by simp,e⟩,fun _=>by omega⟩
  ·rw [if_neg e,ih];exact ⟨fun ⟨c',h1,h2⟩=>⟨c',by simp [h1],h2⟩,fun ⟨c',h1,h2⟩=>by
    rcases Z0.1 h1 with rfl|h1
    ·exact absurd h2 e
    ·exact ⟨c',h1,h2⟩⟩
def jc4: ∀ {r:List Come} {v:Int},(¬ ∃c∈r,c.version=v)->zb6 r v=0
 | [],v,_=>rfl
 |c::r,v,h=>by
  unfold zb6;rw [if_neg (fun e=>h ⟨c,by simp,e⟩)];exact jc4 fun ⟨c',h1,h2⟩=>h ⟨c',by simp [h1],h2⟩
def jc3 (v v':Int): ∀r:List Come,zb6 (zq3 r v) v'=if v'=v then 0 else zb6 r v'
 | []=>by simp [zb6,zq3]
 |c::r=>by
  have ih:=jc3 v v' r;unfold zq3 at ih⊢;rw [List.filter_cons];by_cases e:c.version=v
  ·rw [if_neg (by simp [e]),ih];unfold zb6;by_cases h:v'=v
   ·rw [if_pos h,if_pos h]
   ·rw [if_neg h,if_neg h];show _=if _ then _ else _
    rw [if_neg (fun h'=>h (h'.symm.trans e))];cases r<;>rfl
  ·rw [if_pos (by simpa using e)];unfold zb6;rw [ih];by_cases h:v'=v
   ·rw [if_pos h,if_pos h,if_neg (fun h'=>e (h'.trans h))]
   ·rw [if_neg h,if_neg h]
def jb4 (v v' i:Int): ∀r:List Come,v7 (zq3 r v) v' i=if v'=v then none else v7 r v' i
 | []=>by simp [v7,zq3]
 |c::r=>by
  have ih:=jb4 v v' i r;unfold zq3 at ih⊢;rw [List.filter_cons];by_cases e:c.version=v
  ·rw [if_neg (by simp [e]),ih];by_cases h:v'=v
   ·rw [if_pos h,if_pos h]
   ·rw [if_neg h,if_neg h];show _=if _ then _ else _
    rw [if_neg (fun h'=>h (h'.1.symm.trans e))]
  ·rw [if_pos (by simpa using e)];show (if _ then _ else _)=_;rw [ih];by_cases h:v'=v
   ·rw [if_pos h,if_pos h,if_neg (fun h'=>e (h'.1.trans h))]
   ·rw [if_neg h,if_neg h];rfl
def yh1 (c:Come) (v:Int): ∀r:List Come,zb6 (r++ [c]) v=if (∃c∈r,c.version=v) then zb6 r v else if c.version=v then c.whole else 0
 | []=>by simp [zb6]
 |d::r=>by
  have ih:=yh1 c v r;show (if d.version=v then d.whole else zb6 (r++ [c]) v)=_;by_cases e:d.version=v
  ·rw [if_pos e,if_pos ⟨d,by simp,e⟩];show _=if _ then _ else _
   rw [if_pos e]
  ·rw [if_neg e,ih];by_cases h: ∃c∈r,c.version=v
   ·obtain ⟨c',h1,h2⟩:=h;rw [if_pos ⟨c',h1,h2⟩,if_pos ⟨c',by simp [h1],h2⟩];show _=if _ then _ else _
    rw [if_neg e]
   ·have h3: ¬ ∃c∈d::r,c.version=v:=fun ⟨c',h1,h2⟩=>by
     rcases Z0.1 h1 with rfl|h1
     ·exact e h2
     ·exact h ⟨c',h1,h2⟩
    rw [if_neg h,if_neg h3]
def jh2 (c:Come) (v i:Int): ∀r:List Come,v7 (r++ [c]) v i=if (v7 r v i).isSome=true then v7 r v i else if c.version=v/\c.at_=i then some c.piece else none
 | []=>by simp [v7]
 |d::r=>by
  have ih:=jh2 c v i r;show (if d.version=v/\d.at_=i then some d.piece else v7 (r++ [c]) v i)=_;have e:v7 (d::r) v i=if d.version=v/\d.at_=i then some d.piece else v7 r v i:=rfl
  rw [e];by_cases h:d.version=v/\d.at_=i
  ·rw [if_pos h,if_pos h,if_pos (by rfl)]
  ·rw [if_neg h,if_neg h,ih]
section
variable {m:Tbl} {r:List Come} {v i n:Int} {b:List Int}
def Rel.whole1 (h:Rel m r) (v:Int):0<zb6 r v↔zg0 m v=true:=by
 rw [h.whole];cases ht:zg0 m v with
 |true=>
  have hh:1<=(zp6 m v).whole:=(h.ok _ (zy8 ht)).whole.1;rw [if_pos rfl];exact ⟨fun _=>rfl,fun _=>by omega⟩
 |false=>simp
def Rel.opn (h:Rel m r):yi4 r=zk8 (zg7 m):=by
 have hm: ∀x,x∈yi4 r↔x∈zg7 m:=fun x=>by
  rw [vk2,<-yh2 (fun c hc=>(h.small c hc).2),h.whole1,yv6]
 have hn:(yi4 r).Nodup:=(ys3 r).imp fun h=>by omega
 exact yz9 (((List.perm_ext_iff_of_nodup hn h.nd).2 hm).trans (zn6 _).symm) ((ys3 r).imp fun h=>by omega) (zp7 _)
def Rel.drop (h:Rel m r) (v:Int):Rel (ze0 m v) (zq3 r v):=by
 refine ⟨fun x hx=>h.ok x (jl6 hx),kl6 h.nd,fun x hx=>h.rng x (by rw [yb8] at hx;exact List.mem_of_mem_erase hx),fun v'=>?_,fun v' i=>?_,fun c hc=>h.small c (W3.1 hc).1⟩
 ·rw [jc3];by_cases e:v'=v
  ·subst e;rw [if_pos rfl,ju7 h.nd];rfl
  ·rw [if_neg e,yf0 m e,ye7 m e,h.whole]
 ·rw [jb4];by_cases e:v'=v
  ·subst e;rw [if_pos rfl,ju7 h.nd];simp
  ·rw [if_neg e,yf0 m e,ye7 m e,h.piece]
def Rel.there (h:Rel m r) {p:List Int} {i:Nat} (hp:v7 r v (i:Int)=some p):zg0 m v=true/\(zp6 m v).pieces.getD i []=p/\p≠ []:=by
 rw [h.piece] at hp;split at hp
 ·rename_i hc;simp only [X0] at hp;subst hp;exact ⟨hc.1,rfl,hc.2⟩
 ·cases hp
def Rel.put (h:Rel m r) {i:Nat} (hr:zh6 v (i:Int) n b=true) (hb:zd1 b=true) (hw:(zk5 m v n).whole=n) (hp:(zk5 m v n).pieces.getD i []= []\/(zk5 m v n).pieces.getD i []=b):
  Rel (k9 m v ⟨(zk5 m v n).pieces.set i b,n⟩) (if (v7 r v (i:Int)).isSome=true then r else r++ [⟨v,(i:Int),n,b⟩]):=by
 have hr':=za8.1 hr;have hv:=vf9 h.ok (v:=v) (n:=n) (by omega);have hbn:b≠ []:=fun e=>by rw [e] at hr';simp at hr'
 have hU:UpOk ⟨(zk5 m v n).pieces.set i b,n⟩:=by have:=hv.set (⟨by omega,hb⟩:zw7 b) i;rwa [hw] at this
 have hget:=fun k=>vt4 (zk5 m v n).pieces i k b (by have:=hv.len;omega);have hvt:zg0 m v=true->zk5 m v n=zp6 m v:=fun ht=>by unfold zk5;rw [if_pos ht]
 have hvf:zg0 m v=false->zk5 m v n=⟨List.replicate 40 [],n⟩:=fun ht=>by unfold zk5;rw [if_neg (by rw [ht];simp)]
 have hpos:=h.whole1 v;refine ⟨fun x hx=>?_,kl7 h.nd,fun x hx=>?_,fun v'=>?_,fun v' k=>?_,fun c hc=>?_⟩
 ·rcases jl7 hx with rfl|hx
  ·exact hU
  ·exact h.ok x hx
 ·rw [yl5] at hx;split at hx
  ·exact h.rng x hx
  ·rcases X4.1 hx with hx|hx
   ·exact h.rng x hx
   ·rw [Q5.1 hx];omega
 ·by_cases e:v'=v
  ·subst e;rw [ym8,if_pos rfl,yl2];show _=n;cases ht:zg0 m v' with
   |true=>
    have hwr:zb6 r v'=n:=by rw [h.whole,if_pos ht,<-hvt ht,hw]
    split
    ·exact hwr
    ·rw [yh1,if_pos ((yh2 (fun c hc=>(h.small c hc).2)).1 (hpos.2 ht)),hwr]
   |false=>
    split
    ·rename_i hs;obtain ⟨p,hp'⟩:=T0.1 hs;rw [(h.there hp').1] at ht;cases ht
    ·rw [yh1,if_neg (fun h'=>by have:=hpos.1 ((yh2 (fun c hc=>(h.small c hc).2)).2 h');rw [ht] at this;cases this),if_pos rfl]
  ·rw [yf1 m _ e,ye8 m _ e,<-h.whole];split
   ·rfl
   ·rw [yh1];by_cases hc: ∃c∈r,c.version=v'
    ·rw [if_pos hc]
    ·rw [if_neg hc,if_neg (fun h'=>e h'.symm),jc4 hc]
 ·have app: ∀(v':Int) (k:Nat),v7 (if (v7 r v (i:Int)).isSome=true then r else r++ [(⟨v,(i:Int),n,b⟩:Come)]) v' (k:Int)=if (v7 r v' (k:Int)).isSome=true then v7 r v' (k:Int) else if v=v'/\i=k then some b else none:=fun v' k=>by
   split
   ·rename_i hs;by_cases hk:(v7 r v' (k:Int)).isSome=true
    ·rw [if_pos hk]
    ·rw [if_neg hk,if_neg (by rintro ⟨rfl,rfl⟩;exact hk hs)];cases hq:v7 r v' (k:Int) with
     |none=>rfl
     |some p=>rw [hq] at hk;exact absurd rfl hk
   ·rw [jh2];by_cases hk:(v7 r v' (k:Int)).isSome=true
    ·rw [if_pos hk,if_pos hk]
    ·rw [if_neg hk,if_neg hk];by_cases hc:v=v'/\i=k
     ·rw [if_pos hc,if_pos (by exact ⟨hc.1,by rw [hc.2]⟩)]
     ·rw [if_neg hc,if_neg (by rintro ⟨h1,h2⟩;exact hc ⟨h1,by have h2:((i:Nat):Int)=(k:Int):=h2;omega⟩)]
  rw [app];by_cases e:v'=v
  ·subst e;rw [ym8,yl2];show _=if true=true/\((zk5 m v' n).pieces.set i b).getD k []≠ [] then some (((zk5 m v' n).pieces.set i b).getD k []) else none
   rw [hget];have hold:v7 r v' (k:Int)=if (zk5 m v' n).pieces.getD k []≠ [] then some ((zk5 m v' n).pieces.getD k []) else none:=by
    rw [h.piece];cases ht:zg0 m v' with
    |true=>rw [hvt ht];simp
    |false=>
     have:(zk5 m v' n).pieces.getD k []= []:=by
      rw [hvf ht,Y2,List.getElem?_replicate];split<;>rfl
     rw [this];simp
   rw [hold];by_cases hk:k=i
   ·subst hk;rw [if_pos rfl];rcases hp with hp|hp
    ·rw [hp];simp [hbn]
    ·rw [hp];simp [hbn]
   ·rw [if_neg hk];by_cases hz:(zk5 m v' n).pieces.getD k []= []
    ·rw [hz];simp;exact fun h=>absurd h.symm hk
    ·rw [if_pos hz,if_pos (by rfl),if_pos ⟨rfl,hz⟩]
  ·rw [yf1 m _ e,ye8 m _ e,<-h.piece];by_cases hk:(v7 r v' (k:Int)).isSome=true
   ·rw [if_pos hk]
   ·rw [if_neg hk,if_neg (fun h'=>e h'.1.symm)];cases hq:v7 r v' (k:Int) with
    |none=>rfl
    |some p=>rw [hq] at hk;exact absurd rfl hk
 ·split at hc
  ·exact h.small c hc
  ·rcases X4.1 hc with hc|hc
   ·exact h.small c hc
   ·rw [Q5.1 hc];exact ⟨by show b.length<=1024;omega,by show 1<=n;omega⟩
end
def qn2 (l:List (List Int)): ∀n,n<=l.length->(List.range n).map (fun j=>l.getD j [])=l.take n
 |0,_=>by simp
 |n+1,h=>by
  rw [List.range_succ,V9,qn2 l n (by omega),qa7 (d:= []) (by omega)];rfl
def Rel.step {m:Tbl} {r:List Come} (h:Rel m r) (v i n:Int) (b:List Int) (hb:zd1 b=true):(zu1 m v i n b).2=(yb2 r v i n b).2/\Rel (zu1 m v i n b).1 (yb2 r v i n b).1:=by
 cases hr:zh6 v i n b with
 |false=>unfold zu1 yb2;rw [if_pos hr,if_pos hr];exact ⟨rfl,h⟩
 |true=>
  have hr':=za8.1 hr;obtain ⟨i,rfl⟩: ∃k:Nat,i=(k:Int):=⟨i.toNat,by omega⟩;obtain ⟨q,rfl⟩: ∃k:Nat,n=(k:Int):=⟨n.toNat,by omega⟩;have hv:=vf9 h.ok (v:=v) (n:=(q:Int)) (by omega);have hvt:zg0 m v=true->zk5 m v (q:Int)=zp6 m v:=fun ht=>by unfold zk5;rw [if_pos ht]
  have hvf:zg0 m v=false->zk5 m v (q:Int)=⟨List.replicate 40 [],(q:Int)⟩:=fun ht=>by unfold zk5;rw [if_neg (by rw [ht];simp)]
  have hcond:(decide (0<zb6 r v/\zb6 r v≠(q:Int))||yx5 (v7 r v (i:Int)) b)=true↔((zk5 m v (q:Int)).whole≠(q:Int)\/((zk5 m v (q:Int)).pieces.getD i []≠ []/\(zk5 m v (q:Int)).pieces.getD i []≠b)):=by
   rw [J5,decide_eq_true_eq,h.whole1];cases ht:zg0 m v with
   |true=>
    rw [h.whole,if_pos ht,hvt ht,h.piece,ht];by_cases hz:(zp6 m v).pieces.getD i []= []
    ·rw [if_neg (fun h=>h.2 hz),yf2,hz];simp
    ·rw [if_pos ⟨rfl,hz⟩,ys6,decide_eq_true_eq];exact ⟨fun h=>h.elim (fun h=>.inl h.2) (fun h=>.inr ⟨hz,h⟩),fun h=>h.elim (fun h=>.inl ⟨rfl,h⟩) (fun h=>.inr h.2)⟩
   |false=>
    have:(List.replicate 40 ([]:List Int)).getD i []= []:=by rw [Y2,List.getElem?_replicate];split<;>rfl
    rw [hvf ht,h.piece,ht,if_neg (by simp),yf2];show _↔((q:Int)≠(q:Int)\/((List.replicate 40 ([]:List Int)).getD i []≠ []/\_));rw [this];simp
  by_cases hc:(zk5 m v (q:Int)).whole≠(q:Int)\/((zk5 m v (q:Int)).pieces.getD i []≠ []/\(zk5 m v (q:Int)).pieces.getD i []≠b)
  ·have e1:zu1 m v (i:Int) (q:Int) b=(m,[],7):=by
    unfold zu1;rw [hr];simp only [S7,if_false];show (if (zk5 m v (q:Int)).whole≠(q:Int)\/((zk5 m v (q:Int)).pieces.getD (i:Int).toNat []≠ []/\(zk5 m v (q:Int)).pieces.getD (i:Int).toNat []≠b) then ((m,[],7):Tbl×List Int×Int) else _)=_;rw [Z1,if_pos hc]
   have e2:yb2 r v (i:Int) (q:Int) b=(r,[],7):=by
    unfold yb2;rw [hr,if_neg (by simp),if_pos (hcond.2 hc)]
   rw [e1,e2];exact ⟨rfl,h⟩
  ·have hw:(zk5 m v (q:Int)).whole=(q:Int):=Decidable.byContradiction fun h'=>hc (.inl h');have hp:(zk5 m v (q:Int)).pieces.getD i []= []\/(zk5 m v (q:Int)).pieces.getD i []=b:=by
    by_cases h1:(zk5 m v (q:Int)).pieces.getD i []= []
    ·exact .inl h1
    ·exact .inr (Decidable.byContradiction fun h2=>hc (.inr ⟨h1,h2⟩))
   have hR:=h.put (v:=v) (n:=(q:Int)) (b:=b) (i:=i) hr hb hw hp;have e1:=ky0 (t:=m) (v:=v) (n:=(q:Int)) (i:=i) (b:=b) hr hw hp;have e2:yb2 r v (i:Int) (q:Int) b=zl5 (if (v7 r v (i:Int)).isSome=true then r else r++ [⟨v,(i:Int),(q:Int),b⟩]) v (q:Int):=by
    unfold yb2;rw [hr,if_neg (by simp),if_neg (fun h'=>hc (hcond.1 h'))]
   rw [e1,e2];generalize hr2:(if (v7 r v (i:Int)).isSome=true then r else r++ [(⟨v,(i:Int),(q:Int),b⟩:Come)])=r2 at hR⊢;have hps:((zk5 m v (q:Int)).pieces.set i b).length=40:=by rw [Q1];exact hv.len
   generalize (zk5 m v (q:Int)).pieces.set i b=ps at hR hps⊢;have hpc: ∀k:Nat,v7 r2 v (k:Int)=if ps.getD k []≠ [] then some (ps.getD k []) else none:=fun k=>by
    rw [hR.piece,ym8,yl2];simp
   have hD:=hR.drop v;rw [yc7] at hD;unfold zh5 zl5;rw [Z1];by_cases hm:k8 ps (q:Int)=true
   ·rw [if_pos hm];obtain ⟨k,h1,h2⟩:=(qi7 (by omega)).1 hm;rw [if_neg (fun hall=>by have:=hall k h1;rw [hpc,h2] at this;simp at this)];exact ⟨rfl,hR⟩
   ·rw [if_neg hm];have hne: ∀k:Nat,k<q->ps.getD k []≠ []:=fun k hk e=>hm ((qi7 (by omega)).2 ⟨k,hk,e⟩);rw [if_pos (fun k hk=>by rw [hpc,if_pos (hne k hk)];rfl)];refine ⟨?_,hD⟩;show (vq5 ⟨ps,(q:Int)⟩,(0:Int))=(yn2 r2 v q,0);congr 1;unfold vq5 yn2;rw [if_neg hm];show (ps.take (q:Int).toNat).flatten=_;rw [Z1,<-qn2 ps q (by omega)];congr 1;refine List.map_congr_left fun k hk=>?_;rw [hpc,if_pos (hne k (V0.1 hk))];rfl
def qq2 (r:List Come) (v n:Int):(zl5 r v n).1.length<=r.length:=by
 unfold zl5;split
 ·exact yy4 _ _
 ·exact W8 _
def qq3 (r:List Come) (v n:Int) (hp: ∀c∈r,c.piece.length<=1024):(zl5 r v n).2.1.length<=1024*n.toNat:=by
 unfold zl5;split
 ·exact yt5 r v hp n.toNat
 ·exact U4 _
def vx0 (r:List Come) (v i n:Int) (b:List Int):(yb2 r v i n b).1.length<=r.length+1:=by
 unfold yb2;split
 ·exact Nat.le_succ _
 ·split
  ·exact Nat.le_succ _
  ·have:(if (v7 r v i).isSome=true then r else r++ [(⟨v,i,n,b⟩:Come)]).length<=r.length+1:=by split<;>simp
   exact W9 (qq2 _ _ _) this
def vx1 (r:List Come) (v i n:Int) (b:List Int) (hp: ∀c∈r,c.piece.length<=1024):(yb2 r v i n b).2.1.length<=40960:=by
 unfold yb2;split
 ·exact U4 _
 ·split
  ·exact U4 _
  ·rename_i hr _;have hr:zh6 v i n b=true:=by simpa using hr
   have hr':=za8.1 hr;have:=qq3 (if (v7 r v i).isSome=true then r else r++ [(⟨v,i,n,b⟩:Come)]) v n (fun c hc=>by
    cases hs:(v7 r v i).isSome with
    |true=>rw [hs,if_pos rfl] at hc;exact hp c hc
    |false=>
     rw [hs,if_neg (by simp)] at hc;rcases X4.1 hc with hc|hc
     ·exact hp c hc
     ·rw [Q5.1 hc];show b.length<=1024;omega)
   omega
end Go.Y
