import Derived.Test.YtliopfopmhhdeaaGreatPd
set_option linter.defProp false
namespace Go.Y
open Go.RowKit Go.V Go.X
def yn2 (r:List Come) (v:Int) (n:Nat):List Int:=((List.range n).map fun (j:Nat)=>(v7 r v (j:Int)).getD []).flatten
def zl5 (r:List Come) (v n:Int):List Come×List Int×Int:=if ∀j:Nat,j<n.toNat->(v7 r v (j:Int)).isSome=true then (zq3 r v,yn2 r v n.toNat,0) else (r,[],0)
def yx5 (o:Option (List Int)) (b:List Int):Bool:=match o with|some old=>decide (old≠b)|none=>false
def yb2 (r:List Come) (v i n:Int) (b:List Int):List Come×List Int×Int:=
 if zh6 v i n b=false then (r,[],2) else
 if (decide (0<zb6 r v/\zb6 r v≠n)||yx5 (v7 r v i) b)=true then (r,[],7) else
 zl5 (if (v7 r v i).isSome=true then r else r++ [⟨v,i,n,b⟩]) v n
def yf2 (b:List Int):yx5 none b=false:=rfl
def ys6 (old b:List Int):yx5 (some old) b=decide (old≠b):=rfl
def jw9 (p:Nat->Bool): ∀q,(¬ ∀j,j<q->p j=true)-> ∃j,j<q/\p j=false/\ ∀i,i<j->p i=true
 |0,h=>absurd (fun j hj=>by omega) h
 |q+1,h=>by
  by_cases hq: ∀j,j<q->p j=true
  ·refine ⟨q,Nat.lt_succ_self q,?_,hq⟩;cases hp:p q with
   |false=>rfl
   |true=>exact absurd (fun j hj=>by rcases R8 (Nat.le_of_lt_succ hj) with h1|h1;exact hq j h1;rw [h1];exact hp) h
  ·obtain ⟨j,h1,h2,h3⟩:=jw9 p q hq;exact ⟨j,by omega,h2,h3⟩
def jh3: ∀ {r:List Come} {v i:Int} {p:List Int},v7 r v i=some p-> ∃c∈r,c.version=v/\c.at_=i/\c.piece=p
 |c::r,v,i,p,h=>by
  unfold v7 at h;split at h
  ·rename_i hc;simp only [X0] at h;exact ⟨c,by simp,hc.1,hc.2,h⟩
  ·obtain ⟨c',h1,h2⟩:=jh3 h;exact ⟨c',by simp [h1],h2⟩
def yg5 (r:List Come) (v:Int) (hp: ∀c∈r,c.piece.length<=1024) (i:Int):((v7 r v i).getD []).length<=1024:=by
 cases h:v7 r v i with
 |none=>simp
 |some p=>obtain ⟨c,h1,_,_,rfl⟩:=jh3 h;exact hp c h1
def yy0 (r:List Come) (v:Int) (k:Nat):yn2 r v (k+1)=yn2 r v k++(v7 r v (k:Int)).getD []:=by
 unfold yn2;rw [List.range_succ,V9,List.flatten_append];simp
def yt5 (r:List Come) (v:Int) (hp: ∀c∈r,c.piece.length<=1024): ∀k,(yn2 r v k).length<=1024*k
 |0=>by simp [yn2]
 |k+1=>by rw [yy0,X9];have:=yt5 r v hp k;have:=yg5 r v hp (k:Int);omega
def gl5 (r:List Come) (v:Int) (q:Nat) (hr:r.length<=1000) (hp: ∀c∈r,c.piece.length<=1024) (hq:q<=40) (m:Nat) (hm:1000<=m):yv1 m v (q:Int) 0 ([]:List Int) r=some (((((zl5 r v (q:Int)).1,()),(),()),((zl5 r v (q:Int)).2.1,(zl5 r v (q:Int)).2.2,()))):=by
 unfold zl5;rw [Z1];have step: ∀n k,k<q->(v7 r v (k:Int)).isSome=true->yv1 (n+1) v (q:Int) (k:Int) (yn2 r v k) r=yv1 n v (q:Int) ((k+1:Nat):Int) (yn2 r v (k+1)) r:=fun n k hk hs=>by
  have h1:=yt5 r v hp k;have h2:=yg5 r v hp (k:Int);rw [jl1,W6 (by omega),z6,yx2 r v _ hr,z7];dsimp only;rw [hs,U5,z2,if_pos (by omega),nx hk (by omega),yy0]
 by_cases hall: ∀j:Nat,j<q->(v7 r v (j:Int)).isSome=true
 ·rw [if_pos hall];refine yq4 (fun n k=>yv1 n v (q:Int) (k:Int) (yn2 r v k) r) 1 q _ (fun n k hk=>step n k hk (hall k hk)) (fun n=>?_) m (by omega);show yv1 (n+1) v (q:Int) (q:Int) (yn2 r v q) r=_;rw [jl1,W7 (by omega),z2,qw8 r v hr,z7]
 ·rw [if_neg hall];obtain ⟨j,hj,h0,h1⟩:=jw9 (fun (j:Nat)=>(v7 r v (j:Int)).isSome) q hall;refine yq4 (fun n k=>yv1 n v (q:Int) (k:Int) (yn2 r v k) r) 1 j _ (fun n k hk=>step n k (by omega) (h1 k hk)) (fun n=>?_) m (by omega);show yv1 (n+1) v (q:Int) (j:Int) (yn2 r v j) r=_;rw [jl1,W6 (by omega),z6,yx2 r v _ hr,z7];have h0:(v7 r v (j:Int)).isSome=false:=h0;dsimp only;rw [h0,M5,z6]
def ge9 (r:List Come) (v:Int) (q:Nat) (hr:r.length<=1000) (hp: ∀c∈r,c.piece.length<=1024) (hq:q<=40) (m:Nat) (hm:1000<=m):yd8 m v (q:Int) 0 r ([]:List Int)=some (((((zl5 r v (q:Int)).1,()),(),()),((zl5 r v (q:Int)).2.1,(zl5 r v (q:Int)).2.2,()))):=by
 unfold zl5;rw [Z1];have step: ∀n k,k<q->(v7 r v (k:Int)).isSome=true->yd8 (n+1) v (q:Int) (k:Int) r (yn2 r v k)=yd8 n v (q:Int) ((k+1:Nat):Int) r (yn2 r v (k+1)):=fun n k hk hs=>by
  have h1:=yt5 r v hp k;have h2:=yg5 r v hp (k:Int);rw [yz5,W6 (by omega),z6,yx2 r v _ hr,z7];dsimp only;rw [hs,U5,z2,if_pos (by omega),nx hk (by omega),yy0]
 by_cases hall: ∀j:Nat,j<q->(v7 r v (j:Int)).isSome=true
 ·rw [if_pos hall];refine yq4 (fun n k=>yd8 n v (q:Int) (k:Int) r (yn2 r v k)) 1 q _ (fun n k hk=>step n k hk (hall k hk)) (fun n=>?_) m (by omega);show yd8 (n+1) v (q:Int) (q:Int) r (yn2 r v q)=_;rw [yz5,W7 (by omega),z2,qw8 r v hr,z7]
 ·rw [if_neg hall];obtain ⟨j,hj,h0,h1⟩:=jw9 (fun (j:Nat)=>(v7 r v (j:Int)).isSome) q hall;refine yq4 (fun n k=>yd8 n v (q:Int) (k:Int) r (yn2 r v k)) 1 j _ (fun n k hk=>step n k (by omega) (h1 k hk)) (fun n=>?_) m (by omega);show yd8 (n+1) v (q:Int) (j:Int) r (yn2 r v j)=_;rw [yz5,W6 (by omega),z6,yx2 r v _ hr,z7];have h0:(v7 r v (j:Int)).isSome=false:=h0;dsimp only;rw [h0,M5,z6]
def gl7 (r:List Come) (v i:Int) (q:Nat) (b:List Int) (hr:r.length<=900) (hp: ∀c∈r,c.piece.length<=1024) (hq:q<=40) (hb:b.length<=1024) (s:Bool) (m:Nat) (hm:2000<=m):
  yv0 (m+2) v i (q:Int) b (v7 r v i).isSome s r=if s=true then some (((r,()),(),()),(([]:List Int),(7:Int),())) else
   some (((((zl5 (if (v7 r v i).isSome=true then r else r++ [⟨v,i,(q:Int),b⟩]) v (q:Int)).1,()),(),()),((zl5 (if (v7 r v i).isSome=true then r else r++ [⟨v,i,(q:Int),b⟩]) v (q:Int)).2.1,(zl5 (if (v7 r v i).isSome=true then r else r++ [⟨v,i,(q:Int),b⟩]) v (q:Int)).2.2,()))):=by
 rw [vx2,ze5];by_cases hs:s=true
 ·rw [if_pos hs,if_pos hs]
 ·rw [if_neg hs,if_neg hs];cases ht:(v7 r v i).isSome with
  |true=>
   rw [U5,z2,vk9,ge9 r v q (by omega) hp hq m (by omega),if_pos rfl]
  |false=>
   rw [M5,z6,if_pos (by omega),if_pos (by omega),vx3,M2,gl5 (r++ [(⟨v,i,(q:Int),b⟩:Come)]) v q (by rw [X9,List.length_singleton];omega) (fun c hc=>by
    rcases X4.1 hc with h|h
    ·exact hp c h
    ·rw [Q5.1 h];exact hb) hq m (by omega),if_neg (by simp)]
def kx9 (r:List Come) (v i n:Int) (b:List Int) (hr:r.length<=900) (hp: ∀c∈r,c.piece.length<=1024):
  qa BIG r v i n b=some (((((yb2 r v i n b).1,()),(),()),((yb2 r v i n b).2.1,(yb2 r v i n b).2.2,()))):=by
 have j0t:yg7 BIG v i n b true r=some (((r,()),(),()),(([]:List Int),(2:Int),())):=(qj9 999999999 v i n b true r).trans (z6 _ _);have bad:zh6 v i n b=false->yg7 BIG v i n b true r=some (((((yb2 r v i n b).1,()),(),()),((yb2 r v i n b).2.1,(yb2 r v i n b).2.2,()))):=fun h=>by
  rw [j0t];unfold yb2;rw [if_pos h]
 have good:zh6 v i n b=true->yg7 BIG v i n b false r=some (((((yb2 r v i n b).1,()),(),()),((yb2 r v i n b).2.1,(yb2 r v i n b).2.2,()))):=fun h=>by
  have h':=za8.1 h;obtain ⟨q,rfl⟩: ∃q:Nat,n=(q:Int):=⟨n.toNat,by omega⟩;have j1:=fun s=>gl7 r v i q b hr hp (by omega) (by omega) s 999999997 (by omega);refine (qj9 999999999 v i (q:Int) b false r).trans ?_;rw [z2,vg0 r v (by omega),z7];dsimp only;rw [yx2 r v i (by omega),z7];dsimp only;unfold yb2;rw [if_neg (by rw [h];simp)];have hs: ∀old,v7 r v i=some old->old.length<=100000000:=fun old ho=>by have:=yg5 r v hp i;rw [ho] at this;simp at this;omega
  have inner:(z8 (v7 r v i).isSome (j5 (qh BIG ((v7 r v i).getD []) b) fun y3=>yv0 999999999 v i (q:Int) b (v7 r v i).isSome (!y3) r) (yv0 999999999 v i (q:Int) b (v7 r v i).isSome false r))
    =yv0 999999999 v i (q:Int) b (v7 r v i).isSome (yx5 (v7 r v i) b) r:=by
   cases ho:v7 r v i with
   |none=>rw [Option.isSome_none,z2,yf2]
   |some old=>
    rw [Option.isSome_some,z6,V3,vf1 (hs old ho),z7,ys6];by_cases he:old=b
    ·rw [W6 he,W7 (fun h=>h he),U5]
    ·rw [W7 he,W6 he,M5]
  by_cases hw:0<zb6 r v
  ·rw [W6 (by omega:zb6 r v>0),z6];by_cases hn:zb6 r v=(q:Int)
   ·rw [show (zb6 r v != (q:Int))=false from by rw [hn];exact bne_self_eq_false _,z2];refine inner.trans ?_;rw [W7 (fun h=>h.2 hn),T1];refine (j1 _).trans ?_;split<;>rfl
   ·rw [show (zb6 r v != (q:Int))=true from bne_iff_ne.2 hn,z6,W6 ⟨hw,hn⟩,Bool.true_or,if_pos rfl];exact (j1 true).trans (if_pos rfl)
  ·rw [W7 (by omega: ¬zb6 r v>0),z2];refine inner.trans ?_;rw [W7 (fun h=>hw h.1),T1];refine (j1 _).trans ?_;split<;>rfl
 have hf: ∀ {P:Prop},P->(P->zh6 v i n b=true->False)->zh6 v i n b=false:=fun hp h=>by
  cases e:zh6 v i n b with
  |false=>rfl
  |true=>exact (h hp e).elim
 rw [gf7];by_cases a1:v<1
 ·rw [W6 a1,z6];exact bad (hf a1 fun h e=>by have:=za8.1 e;omega)
 rw [W7 a1,z2];by_cases a2:v>1073741824
 ·rw [W6 a2,z6];exact bad (hf a2 fun h e=>by have:=za8.1 e;omega)
 rw [W7 a2,z2];by_cases a3:n<1
 ·rw [W6 a3,z6];exact bad (hf a3 fun h e=>by have:=za8.1 e;omega)
 rw [W7 a3,z2];by_cases a4:n>40
 ·rw [W6 a4,z6];exact bad (hf a4 fun h e=>by have:=za8.1 e;omega)
 rw [W7 a4,z2];by_cases a5:i<0
 ·rw [W6 a5,z6];exact bad (hf a5 fun h e=>by have:=za8.1 e;omega)
 rw [W7 a5,z2];by_cases a6:i>=n
 ·rw [W6 a6,z6];exact bad (hf a6 fun h e=>by have:=za8.1 e;omega)
 rw [W7 a6,z2];by_cases a7:((b.length:Nat):Int)<1
 ·rw [W6 a7,z6];exact bad (hf a7 fun h e=>by have:=za8.1 e;omega)
 rw [W7 a7,z2];by_cases a8:((b.length:Nat):Int)>1024
 ·rw [W6 a8,z6];exact bad (hf a8 fun h e=>by have:=za8.1 e;omega)
 rw [W7 a8,z2];by_cases a9:((b.length:Nat):Int)<1024
 ·rw [W6 a9,z6,zp9 (by omega)];by_cases a10:i<n-1
  ·rw [W6 a10];exact bad (hf a10 fun h e=>by have:=za8.1 e;omega)
  ·rw [W7 a10];exact good (za8.2 (by omega))
 ·rw [W7 a9,z2];exact good (za8.2 (by omega))
end Go.Y
