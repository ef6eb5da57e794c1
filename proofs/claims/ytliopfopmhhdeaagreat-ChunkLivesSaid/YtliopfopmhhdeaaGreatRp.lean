import Derived.Test.YtliopfopmhhdeaaGreatPd
set_option linter.defProp false
namespace Go.Y
open Go.RowKit Go.V Go.X
def yl7 (r:List Come) (v:Int) (n:Nat):List Int:=((List.range n).map fun (j:Nat)=>(q9 r v (j:Int)).getD []).flatten
def zk4 (r:List Come) (v n:Int):List Come×List Int×Int:=if ∀j:Nat,j<n.toNat->(q9 r v (j:Int)).isSome=true then (zp0 r v,yl7 r v n.toNat,0) else (r,[],0)
def yv3 (o:Option (List Int)) (b:List Int):Bool:=match o with|some old=>decide (old≠b)|none=>false
def ya0 (r:List Come) (v i n:Int) (b:List Int):List Come×List Int×Int:=
 if zg9 v i n b=false then (r,[],2) else
 if (decide (0<zb1 r v/\zb1 r v≠n)||yv3 (q9 r v i) b)=true then (r,[],7) else
 zk4 (if (q9 r v i).isSome=true then r else r++ [⟨v,i,n,b⟩]) v n
def yd7 (b:List Int):yv3 none b=false:=rfl
def yq3 (old b:List Int):yv3 (some old) b=decide (old≠b):=rfl
def ju5 (p:Nat->Bool): ∀q,(¬ ∀j,j<q->p j=true)-> ∃j,j<q/\p j=false/\ ∀i,i<j->p i=true
 |0,h=>absurd (fun j hj=>by omega) h
 |q+1,h=>by
  by_cases hq: ∀j,j<q->p j=true
  ·refine ⟨q,Nat.lt_succ_self q,?_,hq⟩;cases hp:p q with
   |false=>rfl
   |true=>exact absurd (fun j hj=>by rcases Nat.lt_or_eq_of_le (Nat.le_of_lt_succ hj) with h1|h1;exact hq j h1;rw [h1];exact hp) h
  ·obtain ⟨j,h1,h2,h3⟩:=ju5 p q hq;exact ⟨j,by omega,h2,h3⟩
def jf5: ∀ {r:List Come} {v i:Int} {p:List Int},q9 r v i=some p-> ∃c∈r,c.version=v/\c.at_=i/\c.piece=p
 |c::r,v,i,p,h=>by
  unfold q9 at h;split at h
  ·rename_i hc;simp only [X0] at h;exact ⟨c,by simp,hc.1,hc.2,h⟩
  ·obtain ⟨c',h1,h2⟩:=jf5 h;exact ⟨c',by simp [h1],h2⟩
def ye9 (r:List Come) (v:Int) (hp: ∀c∈r,c.piece.length<=1024) (i:Int):((q9 r v i).getD []).length<=1024:=by
 cases h:q9 r v i with
 |none=>simp
 |some p=>obtain ⟨c,h1,_,_,rfl⟩:=jf5 h;exact hp c h1
def yv8 (r:List Come) (v:Int) (k:Nat):yl7 r v (k+1)=yl7 r v k++(q9 r v (k:Int)).getD []:=by
 unfold yl7;rw [List.range_succ,J0,List.flatten_append];simp
def yr2 (r:List Come) (v:Int) (hp: ∀c∈r,c.piece.length<=1024): ∀k,(yl7 r v k).length<=1024*k
 |0=>by simp [yl7]
 |k+1=>by rw [yv8,X9];have:=yr2 r v hp k;have:=ye9 r v hp (k:Int);omega
def ge1 (r:List Come) (v:Int) (q:Nat) (hr:r.length<=1000) (hp: ∀c∈r,c.piece.length<=1024) (hq:q<=40) (m:Nat) (hm:1000<=m):ys9 m v (q:Int) 0 ([]:List Int) r=some (((((zk4 r v (q:Int)).1,()),(),()),((zk4 r v (q:Int)).2.1,(zk4 r v (q:Int)).2.2,()))):=by
 unfold zk4;rw [Z1];have step: ∀n k,k<q->(q9 r v (k:Int)).isSome=true->ys9 (n+1) v (q:Int) (k:Int) (yl7 r v k) r=ys9 n v (q:Int) ((k+1:Nat):Int) (yl7 r v (k+1)) r:=fun n k hk hs=>by
  have h1:=yr2 r v hp k;have h2:=ye9 r v hp (k:Int);rw [jj0,W6 (by omega),z2,yv0 r v _ hr,z6];dsimp only;rw [hs,U6,z1,if_pos (by omega),nx hk (by omega),yv8]
 by_cases hall: ∀j:Nat,j<q->(q9 r v (j:Int)).isSome=true
 ·rw [if_pos hall];refine je1 (fun n k=>ys9 n v (q:Int) (k:Int) (yl7 r v k) r) 1 q _ (fun n k hk=>step n k hk (hall k hk)) (fun n=>?_) m (by omega);show ys9 (n+1) v (q:Int) (q:Int) (yl7 r v q) r=_;rw [jj0,W7 (by omega),z1,qs6 r v hr,z6]
 ·rw [if_neg hall];obtain ⟨j,hj,h0,h1⟩:=ju5 (fun (j:Nat)=>(q9 r v (j:Int)).isSome) q hall;refine je1 (fun n k=>ys9 n v (q:Int) (k:Int) (yl7 r v k) r) 1 j _ (fun n k hk=>step n k (by omega) (h1 k hk)) (fun n=>?_) m (by omega);show ys9 (n+1) v (q:Int) (j:Int) (yl7 r v j) r=_;rw [jj0,W6 (by omega),z2,yv0 r v _ hr,z6];have h0:(q9 r v (j:Int)).isSome=false:=h0;dsimp only;rw [h0,M3,z2]
def kx6 (r:List Come) (v:Int) (q:Nat) (hr:r.length<=1000) (hp: ∀c∈r,c.piece.length<=1024) (hq:q<=40) (m:Nat) (hm:1000<=m):yc3 m v (q:Int) 0 r ([]:List Int)=some (((((zk4 r v (q:Int)).1,()),(),()),((zk4 r v (q:Int)).2.1,(zk4 r v (q:Int)).2.2,()))):=by
 unfold zk4;rw [Z1];have step: ∀n k,k<q->(q9 r v (k:Int)).isSome=true->yc3 (n+1) v (q:Int) (k:Int) r (yl7 r v k)=yc3 n v (q:Int) ((k+1:Nat):Int) r (yl7 r v (k+1)):=fun n k hk hs=>by
  have h1:=yr2 r v hp k;have h2:=ye9 r v hp (k:Int);rw [yx3,W6 (by omega),z2,yv0 r v _ hr,z6];dsimp only;rw [hs,U6,z1,if_pos (by omega),nx hk (by omega),yv8]
 by_cases hall: ∀j:Nat,j<q->(q9 r v (j:Int)).isSome=true
 ·rw [if_pos hall];refine je1 (fun n k=>yc3 n v (q:Int) (k:Int) r (yl7 r v k)) 1 q _ (fun n k hk=>step n k hk (hall k hk)) (fun n=>?_) m (by omega);show yc3 (n+1) v (q:Int) (q:Int) r (yl7 r v q)=_;rw [yx3,W7 (by omega),z1,qs6 r v hr,z6]
 ·rw [if_neg hall];obtain ⟨j,hj,h0,h1⟩:=ju5 (fun (j:Nat)=>(q9 r v (j:Int)).isSome) q hall;refine je1 (fun n k=>yc3 n v (q:Int) (k:Int) r (yl7 r v k)) 1 j _ (fun n k hk=>step n k (by omega) (h1 k hk)) (fun n=>?_) m (by omega);show yc3 (n+1) v (q:Int) (j:Int) r (yl7 r v j)=_;rw [yx3,W6 (by omega),z2,yv0 r v _ hr,z6];have h0:(q9 r v (j:Int)).isSome=false:=h0;dsimp only;rw [h0,M3,z2]
def ge4 (r:List Come) (v i:Int) (q:Nat) (b:List Int) (hr:r.length<=900) (hp: ∀c∈r,c.piece.length<=1024) (hq:q<=40) (hb:b.length<=1024) (s:Bool) (m:Nat) (hm:2000<=m):
  ys8 (m+2) v i (q:Int) b (q9 r v i).isSome s r=if s=true then some (((r,()),(),()),(([]:List Int),(7:Int),())) else
   some (((((zk4 (if (q9 r v i).isSome=true then r else r++ [⟨v,i,(q:Int),b⟩]) v (q:Int)).1,()),(),()),((zk4 (if (q9 r v i).isSome=true then r else r++ [⟨v,i,(q:Int),b⟩]) v (q:Int)).2.1,(zk4 (if (q9 r v i).isSome=true then r else r++ [⟨v,i,(q:Int),b⟩]) v (q:Int)).2.2,()))):=by
 rw [vs9,zd2];by_cases hs:s=true
 ·rw [if_pos hs,if_pos hs]
 ·rw [if_neg hs,if_neg hs];cases ht:(q9 r v i).isSome with
  |true=>
   rw [U6,z1,vh2,kx6 r v q (by omega) hp hq m (by omega),if_pos rfl]
  |false=>
   rw [M3,z2,if_pos (by omega),if_pos (by omega),vt0,M9,ge1 (r++ [(⟨v,i,(q:Int),b⟩:Come)]) v q (by rw [X9,List.length_singleton];omega) (fun c hc=>by
    rcases X4.1 hc with h|h
    ·exact hp c h
    ·rw [Q5.1 h];exact hb) hq m (by omega),if_neg (by simp)]
def kr3 (r:List Come) (v i n:Int) (b:List Int) (hr:r.length<=900) (hp: ∀c∈r,c.piece.length<=1024):
  qa BIG r v i n b=some (((((ya0 r v i n b).1,()),(),()),((ya0 r v i n b).2.1,(ya0 r v i n b).2.2,()))):=by
 have j0t:yf0 BIG v i n b true r=some (((r,()),(),()),(([]:List Int),(2:Int),())):=(qh0 999999999 v i n b true r).trans (z2 _ _);have bad:zg9 v i n b=false->yf0 BIG v i n b true r=some (((((ya0 r v i n b).1,()),(),()),((ya0 r v i n b).2.1,(ya0 r v i n b).2.2,()))):=fun h=>by
  rw [j0t];unfold ya0;rw [if_pos h]
 have good:zg9 v i n b=true->yf0 BIG v i n b false r=some (((((ya0 r v i n b).1,()),(),()),((ya0 r v i n b).2.1,(ya0 r v i n b).2.2,()))):=fun h=>by
  have h':=za5.1 h;obtain ⟨q,rfl⟩: ∃q:Nat,n=(q:Int):=⟨n.toNat,by omega⟩;have j1:=fun s=>ge4 r v i q b hr hp (by omega) (by omega) s 999999997 (by omega);refine (qh0 999999999 v i (q:Int) b false r).trans ?_;rw [z1,vc1 r v (by omega),z6];dsimp only;rw [yv0 r v i (by omega),z6];dsimp only;unfold ya0;rw [if_neg (by rw [h];simp)];have hs: ∀old,q9 r v i=some old->old.length<=100000000:=fun old ho=>by have:=ye9 r v hp i;rw [ho] at this;simp at this;omega
  have inner:(z7 (q9 r v i).isSome (j7 (qj BIG ((q9 r v i).getD []) b) fun y3=>ys8 999999999 v i (q:Int) b (q9 r v i).isSome (!y3) r) (ys8 999999999 v i (q:Int) b (q9 r v i).isSome false r))
    =ys8 999999999 v i (q:Int) b (q9 r v i).isSome (yv3 (q9 r v i) b) r:=by
   cases ho:q9 r v i with
   |none=>rw [Option.isSome_none,z1,yd7]
   |some old=>
    rw [Option.isSome_some,z2,V2,vb3 (hs old ho),z6,yq3];by_cases he:old=b
    ·rw [W6 he,W7 (fun h=>h he),U6]
    ·rw [W7 he,W6 he,M3]
  by_cases hw:0<zb1 r v
  ·rw [W6 (by omega:zb1 r v>0),z2];by_cases hn:zb1 r v=(q:Int)
   ·rw [show (zb1 r v != (q:Int))=false from by rw [hn];exact bne_self_eq_false _,z1];refine inner.trans ?_;rw [W7 (fun h=>h.2 hn),N8];refine (j1 _).trans ?_;split<;>rfl
   ·rw [show (zb1 r v != (q:Int))=true from bne_iff_ne.2 hn,z2,W6 ⟨hw,hn⟩,Bool.true_or,if_pos rfl];exact (j1 true).trans (if_pos rfl)
  ·rw [W7 (by omega: ¬zb1 r v>0),z1];refine inner.trans ?_;rw [W7 (fun h=>hw h.1),N8];refine (j1 _).trans ?_;split<;>rfl
 have hf: ∀ {P:Prop},P->(P->zg9 v i n b=true->False)->zg9 v i n b=false:=fun hp h=>by
  cases e:zg9 v i n b with
  |false=>rfl
  |true=>exact (h hp e).elim
 rw [ky4];by_cases a1:v<1
 ·rw [W6 a1,z2];exact bad (hf a1 fun h e=>by have:=za5.1 e;omega)
 rw [W7 a1,z1];by_cases a2:v>1073741824
 ·rw [W6 a2,z2];exact bad (hf a2 fun h e=>by have:=za5.1 e;omega)
 rw [W7 a2,z1];by_cases a3:n<1
 ·rw [W6 a3,z2];exact bad (hf a3 fun h e=>by have:=za5.1 e;omega)
 rw [W7 a3,z1];by_cases a4:n>40
 ·rw [W6 a4,z2];exact bad (hf a4 fun h e=>by have:=za5.1 e;omega)
 rw [W7 a4,z1];by_cases a5:i<0
 ·rw [W6 a5,z2];exact bad (hf a5 fun h e=>by have:=za5.1 e;omega)
 rw [W7 a5,z1];by_cases a6:i>=n
 ·rw [W6 a6,z2];exact bad (hf a6 fun h e=>by have:=za5.1 e;omega)
 rw [W7 a6,z1];by_cases a7:((b.length:Nat):Int)<1
 ·rw [W6 a7,z2];exact bad (hf a7 fun h e=>by have:=za5.1 e;omega)
 rw [W7 a7,z1];by_cases a8:((b.length:Nat):Int)>1024
 ·rw [W6 a8,z2];exact bad (hf a8 fun h e=>by have:=za5.1 e;omega)
 rw [W7 a8,z1];by_cases a9:((b.length:Nat):Int)<1024
 ·rw [W6 a9,z2,yh0 (by omega)];by_cases a10:i<n-1
  ·rw [W6 a10];exact bad (hf a10 fun h e=>by have:=za5.1 e;omega)
  ·rw [W7 a10];exact good (za5.2 (by omega))
 ·rw [W7 a9,z1];exact good (za5.2 (by omega))
end Go.Y
