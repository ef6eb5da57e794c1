import Derived.Test.YthhhfnfgmijggaaGreatXY
namespace Go.X
open Go.RowKit Go.V
section
variable {T:Tab} (P:Program)
def zu4 (c:Nat) (v:AV T.U) (cs:List (AV T.U)):List (AV T.U):=match cs.all (zb6 T)&&zb6 T v with|true=>cs.set c v|false=>cs
def yc8 (c:Nat) (v:AV T.U):Ent T.U->Ent T.U
 | .blk t cs=>.blk t (zu4 c v cs)
 | .drow e d fe xs (some (a,cs))=>.drow e d fe xs (some (a,cs.set c v))
 |x=>x
def spE (c:Nat):Ent T.U->Ent T.U->Prop
 | .blk t cs,.blk t' cs'=>t=t'/\cs.length=cs'.length/\cs[c]?=cs'[c]?/\cs.all (zb6 T)=true/\cs'.all (zb6 T)=true
 | .drow e d fe xs (some (a,cs)),y=> ∃cs',y=.drow e d fe xs (some (a,cs'))/\cs.length=cs'.length/\cs[c]?=cs'[c]?
 |_,_=>False
def simE (c:Nat) (x y:Ent T.U):Prop:=x=y\/spE c x y
def ym4 (t:TypeId):Bool:=match P.info? t,P.underlying t with|some i,some d=> !yb6 d&&Nat.beq i.size 1|_,_=>false
def wf4 (o:Oper) (F:AF T) (H:List (Ent T.U)):Option (Nat×Nat×Option (AV T.U)):=
 match o.op with
 | .load t x=>match aev T F x with
  |some (.ptr i c)=>match H[i]? with
   |some (.blk _ cs)=>(match ym4 P t&&(cs.all (zb6 T)&&Nat.blt c cs.length) with|true=>some (i,c,none)|false=>none)
   |_=>none
  |some (.eptr i _ _ c)=>match H[i]? with
   |some (.drow _ _ _ _ (some (_,cs)))=>(match ym4 P t&&Nat.blt c cs.length with|true=>some (i,c,none)|false=>none)
   |_=>none
  |_=>none
 | .store t x y=>match o.dst,aev T F x,aev T F y with
  |none,some (.ptr i c),some v=>match H[i]? with
   |some (.blk _ cs)=>(match ym4 P t&&(zv0 T v&&(cs.all (zb6 T)&&Nat.blt c cs.length)) with|true=>some (i,c,some v)|false=>none)
   |_=>none
  |none,some (.eptr i _ _ c),some v=>match H[i]? with
   |some (.drow _ _ _ _ (some (_,cs)))=>(match ym4 P t&&(zv0 T v&&Nat.blt c cs.length) with|true=>some (i,c,some v)|false=>none)
   |_=>none
  |_,_,_=>none
 |_=>none
def qq4 (k c:Nat) (sv:Option (AV T.U)) (f:Ent T.U) (H:List (Ent T.U)):List (Ent T.U):=match sv with|some v=>H.set k (yc8 c v f)|none=>H
end
section
variable {T:Tab} {P:Program} {C:Ctx T} {F F':AF T} {H H':List (Ent T.U)} {o:Oper}
theorem simE.symm {c:Nat} {x y:Ent T.U} (h:simE c x y):simE c y x:=by
 rcases h with rfl|h
 ·exact .inl rfl
 ·cases x with
  |blk t cs=>
   cases y with
   |blk t' cs'=>obtain ⟨rfl,h2,h3,h4,h5⟩:=h;exact .inr ⟨rfl,h2.symm,h3.symm,h5,h4⟩
   |_=>exact h.elim
  |drow e d fe xs op=>
   cases op with
   |none=>exact h.elim
   |some p=>obtain ⟨a,cs⟩:=p;obtain ⟨cs',rfl,h2,h3⟩:=h;exact .inr ⟨cs,rfl,h2.symm,h3.symm⟩
  |_=>exact h.elim
theorem jg4 {cs:List (AV T.U)} {c:Nat} {v:AV T.U} (h:cs.all (zb6 T)=true) (hv:zb6 T v=true):(cs.set c v).all (zb6 T)=true:=by
 rw [Y8] at h⊢;intro a ha;rcases List.mem_or_eq_of_mem_set ha with ha|rfl
 ·exact h a ha
 ·exact hv
theorem zl1 {c:Nat} {v:AV T.U} {cs:List (AV T.U)} (h:cs.all (zb6 T)=true) (hv:zb6 T v=true):zu4 c v cs=cs.set c v:=by unfold zu4;rw [h,hv];rfl
theorem ze6 (c:Nat) (v:AV T.U) (cs:List (AV T.U)):(zu4 c v cs=cs)\/(zu4 c v cs=cs.set c v/\cs.all (zb6 T)=true/\zb6 T v=true):=by
 cases h:cs.all (zb6 T) with
 |false=>left;unfold zu4;rw [h];rfl
 |true=>
  cases hv:zb6 T v with
  |false=>left;unfold zu4;rw [h,hv];rfl
  |true=>exact .inr ⟨zl1 h hv,rfl,rfl⟩
theorem ja0 (c:Nat) (v:AV T.U) (cs:List (AV T.U)):(zu4 c v cs).length=cs.length:=by
 rcases ze6 c v cs with h|⟨h,_⟩<;>rw [h];simp
theorem yy6 {c:Nat} {v:AV T.U} {cs:List (AV T.U)} (h:cs.all (zb6 T)=true):(zu4 c v cs).all (zb6 T)=true:=by
 rcases ze6 c v cs with h1|⟨h1,_,hv⟩<;>rw [h1]
 ·exact h
 ·exact jg4 h hv
theorem kt3 {c c':Nat} (hc:c'≠c) (v:AV T.U) (cs:List (AV T.U)):(zu4 c' v cs)[c]?=cs[c]?:=by
 rcases ze6 c' v cs with h1|⟨h1,_⟩<;>rw [h1];exact Z5 hc
theorem simE.left {c c':Nat} (hc:c'≠c) (v:AV T.U) {x y:Ent T.U} (h:simE c x y):simE c (yc8 c' v x) y:=by
 have key:simE c (yc8 c' v x) x:=by
  cases x with
  |blk t cs=>
   show simE c (.blk t (zu4 c' v cs)) (.blk t cs);rcases ze6 c' v cs with h1|⟨h1,h2,h3⟩
   ·rw [h1];exact .inl rfl
   ·rw [h1];exact .inr ⟨rfl,by simp,Z5 hc,jg4 h2 h3,h2⟩
  |drow e d fe xs op=>
   cases op with
   |none=>exact .inl rfl
   |some p=>obtain ⟨a,cs⟩:=p;exact .inr ⟨cs,rfl,by simp,Z5 hc⟩
  |_=>exact .inl rfl
 rcases h with rfl|h
 ·exact key
 ·cases x with
  |blk t cs=>
   cases y with
   |blk t' cs'=>
    obtain ⟨rfl,h2,h3,h4,h5⟩:=h;exact .inr ⟨rfl,(ja0 ..).trans h2,(kt3 hc ..).trans h3,yy6 h4,h5⟩
   |_=>exact h.elim
  |drow e d fe xs op=>
   cases op with
   |none=>exact h.elim
   |some p=>
    obtain ⟨a,cs⟩:=p;obtain ⟨cs',rfl,h2,h3⟩:=h;exact .inr ⟨cs',rfl,by simpa using h2,(Z5 hc).trans h3⟩
  |_=>exact h.elim
theorem simE.both {c:Nat} (c':Nat) (v:AV T.U) {x y:Ent T.U} (h:simE c x y):simE c (yc8 c' v x) (yc8 c' v y):=by
 rcases h with rfl|h
 ·exact .inl rfl
 ·cases x with
  |blk t cs=>
   cases y with
   |blk t' cs'=>
    obtain ⟨rfl,h2,h3,h4,h5⟩:=h;refine .inr ⟨rfl,by rw [ja0,ja0];exact h2,?_,yy6 h4,yy6 h5⟩;cases hv:zb6 T v with
    |false=>
     rcases ze6 c' v cs with h6|⟨_,_,h6⟩
     ·rcases ze6 c' v cs' with h7|⟨_,_,h7⟩
      ·rw [h6,h7];exact h3
      ·rw [hv] at h7;cases h7
     ·rw [hv] at h6;cases h6
    |true=>rw [zl1 h4 hv,zl1 h5 hv,List.getElem?_set,List.getElem?_set,h2,h3]
   |_=>exact h.elim
  |drow e d fe xs op=>
   cases op with
   |none=>exact h.elim
   |some p=>
    obtain ⟨a,cs⟩:=p;obtain ⟨cs',rfl,h2,h3⟩:=h;refine .inr ⟨_,rfl,by simpa using h2,?_⟩;rw [List.getElem?_set,List.getElem?_set,h2,h3]
  |_=>exact h.elim
theorem vi0 {c c':Nat} (hc:c≠c') (v v':AV T.U) (cs:List (AV T.U)):zu4 c v (zu4 c' v' cs)=zu4 c' v' (zu4 c v cs):=by
 rcases ze6 c v cs with h1|⟨h1,h2,h3⟩<;>rcases ze6 c' v' cs with h4|⟨h4,h5,h6⟩
 ·rw [h1,h4,h1]
 ·rw [h1,h4];rcases ze6 c v (cs.set c' v') with h7|⟨h7,h8,h9⟩
  ·exact h7
  ·rw [zl1 h5 h9] at h1;rw [h7,List.set_comm _ _ (Ne.symm hc),h1]
 ·rw [h4,h1];rcases ze6 c' v' (cs.set c v) with h7|⟨h7,h8,h9⟩
  ·exact h7.symm
  ·rw [zl1 h2 h9] at h4;rw [h7,List.set_comm _ _ hc,h4]
 ·rw [h4,h1,zl1 (jg4 h2 h6) h3,zl1 (jg4 h2 h3) h6,List.set_comm _ _ hc]
theorem vw5 {c c':Nat} (hc:c≠c') (v v':AV T.U) (x:Ent T.U):yc8 c v (yc8 c' v' x)=yc8 c' v' (yc8 c v x):=by
 cases x with
 |blk t cs=>exact congrArg (Ent.blk t) (vi0 hc v v' cs)
 |drow e d fe xs op=>
  cases op with
  |none=>rfl
  |some p=>obtain ⟨a,cs⟩:=p;simp only [yc8];rw [List.set_comm _ _ hc]
 |_=>rfl
theorem vq8 {cs:List (AV T.U)} {c:Nat} {v:AV T.U} {i:Nat} (h:i∈w9 (cs.set c v)):i∈w9 cs\/i∈v.ids:=by
 obtain ⟨a,ha,hi⟩:=zt0 h;rcases List.mem_or_eq_of_mem_set ha with ha|rfl
 ·exact .inl (zh1 ha i hi)
 ·exact .inr hi
theorem kn9 {c:Nat} {v:AV T.U} {x:Ent T.U} {i:Nat} (h:i∈(yc8 c v x).cellIds):i∈x.cellIds\/i∈v.ids:=by
 cases x with
 |blk t cs=>
  have h:i∈w9 (zu4 c v cs):=h;rcases ze6 c v cs with h1|⟨h1,_⟩
  ·rw [h1] at h;exact .inl h
  ·rw [h1] at h;exact vq8 h
 |drow e d fe xs op=>cases op with
  |none=>exact .inl h
  |some p=>obtain ⟨a,cs⟩:=p;exact vq8 (T:=T) h
 |_=>exact .inl h
theorem zy0 (hF: ∀t a,F.get T t=some a->F'.get T t=some a) {x:Operand} {a:AV T.U} (h:aev T F x=some a):aev T F' x=some a:=by
 cases x with
 |tmp t=>exact hF t a h
 |const v=>exact h
 |func f=>exact h
 |global g=>exact h
theorem yg0 {t:TypeId} (h:ym4 P t=true): ∃i d,P.info? t=some i/\P.underlying t=some d/\yb6 d=false/\i.size=1:=by
 unfold ym4 at h;split at h
 ·rename_i i d hi hd;simp only [X3,Bool.not_eq_true'] at h;exact ⟨i,d,hi,hd,h.1,X1 h.2⟩
 ·cases h
theorem jx8: ∀ {cs:List (AV T.U)} {c:Nat},cs.all (zb6 T)=true->c<cs.length->jc1 T cs c=some (cs.drop c)
 | [],c,_,h=>by simp at h
 |a::r,0,_,_=>rfl
 |a::r,c+1,h,hl=>by
  rw [List.all_cons,X3] at h;have h1:Nat.ble (wd T a) (c+1)=true:=by rw [qi5 T h.1];exact W2 (by omega)
  unfold jc1;rw [show Nat.beq (c+1) 0=false from rfl];simp only [h1];rw [qi5 T h.1,Nat.add_sub_cancel,jx8 h.2 (by simpa using hl),List.drop_succ_cons]
theorem vf3 {t:TypeId} (hs:ym4 P t=true) {cs:List (AV T.U)} {c:Nat} (h:cs.all (zb6 T)=true) (hl:c<cs.length):jd0 T P t cs c=cs[c]?:=by
 obtain ⟨i,d,hi,hd,ha,_⟩:=yg0 hs;unfold jd0 qe0;rw [hi,hd];simp only [ha];rw [jx8 h hl,List.drop_eq_getElem_cons hl,Y0 hl];simp only;rw [Y8] at h;rw [h _ (List.getElem_mem hl)]
theorem jl4 {v:AV T.U} (hv:zb6 T v=true): ∀ {cs:List (AV T.U)} {c:Nat},cs.all (zb6 T)=true->c<cs.length->yw6 T (wb7 T [v]) cs c=some (cs.set c v)
 | [],c,_,h=>by simp at h
 |a::r,0,h,_=>by
  rw [List.all_cons,X3] at h;show wb7 T [v] (a::r)=_;unfold wb7;simp only [putOnes,h.1,hv,Bool.and_self,List.set_cons_zero]
 |a::r,c+1,h,hl=>by
  rw [List.all_cons,X3] at h;have h1:Nat.ble (wd T a) (c+1)=true:=by rw [qi5 T h.1];exact W2 (by omega)
  unfold yw6;rw [show Nat.beq (c+1) 0=false from rfl];simp only [h1];rw [qi5 T h.1,Nat.add_sub_cancel,jl4 hv h.2 (by simpa using hl)];rfl
theorem ye7 {v:AV T.U} (h:zv0 T v=true):zf0 T v= [v]/\ya3 T v=true/\jg1 v=none/\zb6 T v=true:=by
 cases v<;>first|(cases h;done)|exact ⟨rfl,h,rfl,rfl⟩|exact ⟨rfl,rfl,rfl,rfl⟩
theorem vy0 {t:TypeId} (hs:ym4 P t=true) {v:AV T.U} (h:zv0 T v=true) (c n:Nat) (hc:c<n):jr7 T P t c n v=true:=by
 obtain ⟨i,d,hi,hd,ha,h1⟩:=yg0 hs;obtain ⟨e1,e2,e3,e4⟩:=ye7 h;unfold jr7;rw [hi];simp only [e1,e2,h1,h,List.length_cons,List.length_nil,List.all_cons,List.all_nil,Bool.and_self,Bool.and_true,Bool.true_and];rw [X3];exact ⟨rfl,W2 hc⟩
theorem kk6 {t:TypeId} (hs:ym4 P t=true):zg9 P t=none:=by
 obtain ⟨i,d,hi,hd,ha,_⟩:=yg0 hs;unfold zg9;rw [hd];cases d<;>first|rfl|cases ha
theorem qo8 {t:TypeId} {x:Operand} (hop:o.op=.load t x) {i c:Nat} {e:TypeId} {cs:List (AV T.U)} (hx:aev T F x=some (.ptr i c)) (hi:H[i]?=some (.blk e cs)) (hs:ym4 P t=true) (hn:cs.all (zb6 T)=true) (hc:c<cs.length) {R:Type} (K:St T->Option R) (Kp:AV T.U->St T->Option R):
  zh6 P C o ⟨F,H⟩ K Kp=match cs[c]? with|some (.eptr _ _ _ _)=>none|some u=>K ⟨zb7 T F o.dst u,H⟩|none=>none:=by
 have h1:zm7 P C o ⟨F,H⟩ K=none:=by simp only [zm7,hop,hx]
 have h2:gh6 P o.op=false:=by rw [hop];simp only [gh6,kk6 hs];rfl
 unfold zh6;rw [h1];simp only [zl9,hop,stepA];unfold zv9;rw [h2];simp only [zp9,hop,ji4,hx,loadA,hi,vf3 hs hn hc];rw [Y0 hc];generalize cs[c]=u;cases u<;>rfl
theorem jz3 {t:TypeId} {x y:Operand} (hop:o.op=.store t x y) (hdst:o.dst=none) {i c:Nat} {e:TypeId} {cs:List (AV T.U)} {v:AV T.U} (hx:aev T F x=some (.ptr i c)) (hy:aev T F y=some v) (hi:H[i]?=some (.blk e cs)) (hs:ym4 P t=true) (hv:zv0 T v=true) (hn:cs.all (zb6 T)=true) (hc:c<cs.length) {R:Type} (K:St T->Option R) (Kp:AV T.U->St T->Option R):
  zh6 P C o ⟨F,H⟩ K Kp=K ⟨F,H.set i (.blk e (cs.set c v))⟩:=by
 obtain ⟨e1,e2,e3,e4⟩:=ye7 hv;have h1:zm7 P C o ⟨F,H⟩ K=none:=by simp only [zm7,hop,hx]
 have h3:js9 T P t cs c v=some (cs.set c v):=by
  unfold js9;simp only [e3,e1,List.length_cons,List.length_nil];rw [vy0 hs hv 0 _ (by omega)];exact jl4 e4 hn hc
 have h4:stepA P C o ⟨F,H⟩ K Kp=K ⟨F,H.set i (.blk e (cs.set c v))⟩:=by simp only [stepA,hop,hdst,hx,hy,je8,hi,h3]
 have h5:qa8 T H (.ptr i c) v=none:=rfl;unfold zh6;rw [h1];simp only [zl9,hop,hx,hy,h5];cases cellsOf T (zf0 T v)<;>exact h4
theorem jy4 {t:TypeId} {x:Operand} (hop:o.op=.load t x) {i sz a c:Nat} {e:TypeId} {d:Nat} {fe:List TypeId} {xs:List (T.U d)} {b:Nat} {cs:List (AV T.U)} (hx:aev T F x=some (.eptr i sz a c)) (hi:H[i]?=some (.drow e d fe xs (some (b,cs)))) (hs:ym4 P t=true) {R:Type} (K:St T->Option R) (Kp:AV T.U->St T->Option R):
  zh6 P C o ⟨F,H⟩ K Kp=match Nat.beq sz (T.size d),cs[c]? with|true,some u=>(match zi0 u with|true=>if a=b then K ⟨zb7 T F o.dst u,H⟩ else none|false=>none)|_,_=>none:=by
 obtain ⟨ii,dd,hii,hdd,ha,_⟩:=yg0 hs;have h0:zr2 T P t cs c=cs[c]?:=by unfold zr2 ys7;rw [hii,hdd];simp only [ha]
 have h1:zm7 P C o ⟨F,H⟩ K=some (yq8 P t H i sz a c e d fe xs (some (b,cs)) fun v H=>K ⟨zb7 T F o.dst v,H⟩):=by simp only [zm7,hop,hx,hi]
 unfold zh6;rw [h1];simp only [yq8,h0];cases Nat.beq sz (T.size d) with
 |false=>rfl
 |true=>cases cs[c]?<;>rfl
theorem ji8 {t:TypeId} {x y:Operand} (hop:o.op=.store t x y) (hdst:o.dst=none) {i sz a c:Nat} {e:TypeId} {d:Nat} {fe:List TypeId} {xs:List (T.U d)} {b:Nat} {cs:List (AV T.U)} {v:AV T.U} (hx:aev T F x=some (.eptr i sz a c)) (hy:aev T F y=some v) (hi:H[i]?=some (.drow e d fe xs (some (b,cs)))) (hv:zv0 T v=true) {R:Type} (K:St T->Option R) (Kp:AV T.U->St T->Option R):
  zh6 P C o ⟨F,H⟩ K Kp=match Nat.beq sz (T.size d)&&jr7 T P t c (T.size d) v with|true=>if a=b then K ⟨F,H.set i (.drow e d fe xs (some (b,cs.set c v)))⟩ else none|false=>none:=by
 obtain ⟨e1,e2,e3,e4⟩:=ye7 hv;have h1:zm7 P C o ⟨F,H⟩ K=some (yd2 P t H i sz a c e d fe xs (some (b,cs)) v fun H=>K ⟨F,H⟩):=by simp only [zm7,hop,hx,hi,hdst,hy]
 unfold zh6;rw [h1];simp only [yd2,e1,yi4];cases Nat.beq sz (T.size d)&&jr7 T P t c (T.size d) v<;>rfl
theorem qx5 {d:Option Tmp} {Fz:AF T} {a u:AV T.U} (h:zb7 T F d u=zb7 T Fz d a) (G:AF T):zb7 T G d u=zb7 T G d a:=by
 cases d with
 |none=>rfl
 |some d=>
  simp only [zb7,List.cons.injEq,X7] at h;rw [show u=a from h.1.2]
theorem vq3 {c:Nat} {f:Ent T.U} {e:TypeId} {cs:List (AV T.U)} (hn:cs.all (zb6 T)=true) (h:simE c f (.blk e cs)): ∃cs',f=.blk e cs'/\cs'.length=cs.length/\cs'[c]?=cs[c]?/\cs'.all (zb6 T)=true:=by
 rcases h with rfl|h
 ·exact ⟨cs,rfl,rfl,rfl,hn⟩
 ·cases f with
  |blk e' cs'=>obtain ⟨rfl,h2,h3,h4,_⟩:=h;exact ⟨cs',rfl,h2,h3,h4⟩
  |drow e d fe xs op=>cases op with
   |none=>exact h.elim
   |some p=>obtain ⟨a,cs⟩:=p;obtain ⟨_,h,_⟩:=h;cases h
  |_=>exact h.elim
theorem qr9 {c:Nat} {f:Ent T.U} {e:TypeId} {d:Nat} {fe:List TypeId} {xs:List (T.U d)} {b:Nat} {cs:List (AV T.U)} (h:simE c f (.drow e d fe xs (some (b,cs)))): ∃cs',f=.drow e d fe xs (some (b,cs'))/\cs'.length=cs.length/\cs'[c]?=cs[c]?:=by
 rcases h with rfl|h
 ·exact ⟨cs,rfl,rfl,rfl⟩
 ·cases f with
  |drow e d fe xs op=>cases op with
   |none=>exact h.elim
   |some p=>
    obtain ⟨a,cs0⟩:=p;obtain ⟨cs',h,h2,h3⟩:=h;cases h;exact ⟨cs0,rfl,h2,h3⟩
  |_=>exact h.elim
theorem ko6 {k c:Nat} {sv:Option (AV T.U)} (hl:wf4 P o F H=some (k,c,sv)) {Fz:AF T} {a:AV T.U} {H1:List (Ent T.U)} (h:zh6 P C o ⟨F,H⟩ some (fun _ _=>none)=some ⟨zb7 T Fz o.dst a,H1⟩):
  ∃x,H[k]?=some x/\x.live=true/\H1=qq4 k c sv x H/\ ∀(F':AF T) (H':List (Ent T.U)) (f:Ent T.U),(∀t a,F.get T t=some a->F'.get T t=some a)->H'[k]?=some f->simE c f x->zh6 P C o ⟨F',H'⟩ some (fun _ _=>none)=some ⟨zb7 T F' o.dst a,qq4 k c sv f H'⟩:=by
 unfold wf4 at hl;split at hl<;>try (cases hl;done)
 ·rename_i t x hop;split at hl<;>try (cases hl;done)
  ·rename_i i c0 hx;split at hl<;>try (cases hl;done)
   rename_i e cs hi;split at hl<;>try (cases hl;done)
   rename_i hb;simp only [X3,Nat.blt_eq] at hb;obtain ⟨hs,hn,hc⟩:=hb;simp only [X0,X7] at hl;obtain ⟨rfl,rfl,rfl⟩:=hl;rw [qo8 hop hx hi hs hn hc] at h;split at h<;>try (cases h;done)
   rename_i u hne hu;simp only [X0,St.mk.injEq] at h;obtain ⟨h,rfl⟩:=h;refine ⟨_,hi,rfl,rfl,fun F' H' f hF hf hsim=>?_⟩;obtain ⟨cs',rfl,g1,g2,g3⟩:=vq3 hn hsim;rw [qo8 hop (zy0 hF hx) hf hs g3 (by omega),g2,hu];have:=qx5 h F';cases u<;>first|exact absurd rfl (hne _ _ _ _)|(simp only [this];rfl)
  ·rename_i i sz0 a0 c0 hx;split at hl<;>try (cases hl;done)
   rename_i e d fe xs b cs hi;split at hl<;>try (cases hl;done)
   rename_i hb;simp only [X3,Nat.blt_eq] at hb;obtain ⟨hs,hc⟩:=hb;simp only [X0,X7] at hl;obtain ⟨rfl,rfl,rfl⟩:=hl;rw [jy4 hop hx hi hs] at h;split at h<;>try (cases h;done)
   rename_i u hsz hu;split at h<;>try (cases h;done)
   rename_i hne;obtain ⟨hab,h2⟩:=za3 h;clear h;simp only [X0,St.mk.injEq] at h2;obtain ⟨h,rfl⟩:=h2;refine ⟨_,hi,rfl,rfl,fun F' H' f hF hf hsim=>?_⟩;obtain ⟨cs',rfl,g1,g2⟩:=qr9 hsim;rw [jy4 hop (zy0 hF hx) hf hs,g2,hu,hsz];simp only [hne,if_pos hab,qx5 h F'];rfl
 ·rename_i t x y hop;split at hl<;>try (cases hl;done)
  ·rename_i i c0 v hdst hx hy;split at hl<;>try (cases hl;done)
   rename_i e cs hi;split at hl<;>try (cases hl;done)
   rename_i hb;simp only [X3,Nat.blt_eq] at hb;obtain ⟨hs,hv,hn,hc⟩:=hb;simp only [X0,X7] at hl;obtain ⟨rfl,rfl,rfl⟩:=hl;have e4:=(ye7 hv).2.2.2;rw [jz3 hop hdst hx hy hi hs hv hn hc] at h;simp only [X0,St.mk.injEq] at h;obtain ⟨h,rfl⟩:=h;refine ⟨_,hi,rfl,?_,fun F' H' f hF hf hsim=>?_⟩
   ·show _=H.set i (.blk e (zu4 c0 v cs));rw [zl1 hn e4]
   ·obtain ⟨cs',rfl,g1,g2,g3⟩:=vq3 hn hsim;rw [jz3 hop hdst (zy0 hF hx) (zy0 hF hy) hf hs hv g3 (by omega),hdst];show _=some (⟨F',H'.set i (.blk e (zu4 c0 v cs'))⟩:St T);rw [zl1 g3 e4]
  ·rename_i i sz0 a0 c0 v hdst hx hy;split at hl<;>try (cases hl;done)
   rename_i e d fe xs b cs hi;split at hl<;>try (cases hl;done)
   rename_i hb;simp only [X3,Nat.blt_eq] at hb;obtain ⟨hs,hv,hc⟩:=hb;simp only [X0,X7] at hl;obtain ⟨rfl,rfl,rfl⟩:=hl;rw [ji8 hop hdst hx hy hi hv] at h;split at h<;>try (cases h;done)
   rename_i hfit;obtain ⟨hab,h2⟩:=za3 h;clear h;simp only [X0,St.mk.injEq] at h2;obtain ⟨h,rfl⟩:=h2;refine ⟨_,hi,rfl,rfl,fun F' H' f hF hf hsim=>?_⟩
   ·obtain ⟨cs',rfl,g1,g2⟩:=qr9 hsim;rw [ji8 hop hdst (zy0 hF hx) (zy0 hF hy) hf hv,hfit,hdst];simp only [if_pos hab];rfl
end
end Go.X
