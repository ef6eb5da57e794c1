import Derived.Test.YtampgjnliepkiaaGreatM3
import Derived.Test.YtampgjnliepkiaaGreatM2
import Derived.Test.YtampgjnliepkiaaGreatM1
set_option linter.defProp false
namespace Go.Y
open Go.RowKit Go.V Go.X Go.Proofs
def qb1 (m:Mc) {c:Nat} (h:okM m c) (hc:c<=1000):qk BIG m.sv m.held m.act m.bef m.roll m.yes m.no=some (pmc m,(((v6 m).Held,m.act,m.bef,m.roll,(v6 m).Yes,m.no,()),())):=by
 have h1:=jt7 h.hb (W7 h.hl hc);have h2:=jt7 (fun p hp=>by have:=h.yb p hp;omega) (W7 h.yl hc);rw [uc5,qe7,W4 (by have:=h.sv;omega),j6];dsimp only;rw [show (!true)=false from rfl,z6,wl7,j6];dsimp only;rw [qt0 h2,j6,wl9,j6];dsimp only;rw [qt0 h1,j6];dsimp only;have hkl:(zi1 (m.held.map Prod.fst)).length<=1000:=by rw [ja1,W9];exact W7 h.hl hc
 show ky2 BIG _ _ _ _ _ _ _ _ _ _ _ _ _ _ _ _ _ _ _ _ _ _=some (pmc m,(((zi1 (m.held.map Prod.fst)).map (zj8 m),m.act,m.bef,m.roll,zi1 (m.yes.map Prod.fst),m.no,()),()));generalize zi1 (m.held.map Prod.fst)=ks at hkl;generalize zi1 (m.yes.map Prod.fst)=ys;have hcl: ∀v,qaj BIG (jb8 TT (.list (.int .u8)) m.held v)=some (zx7 m.held v):=fun v=>jy6 _ (yd5 (P:=fun l=>l.length<=1000000) (by simp) v fun p hp=>by have:=h.dl p hp;omega);have key:=loop (fun n k=>yu2 n ((ks.length:Nat):Int) (k:Int) m.sv m.act m.bef m.roll m.no m.held m.yes 0 0 0 false m.act m.bef m.roll m.no ks [] [] ((ks.take k).map (zj8 m)) ys) 1 ks.length (some (pmc m,((ks.map (zj8 m),m.act,m.bef,m.roll,ys,m.no,()),()))) (fun n k hk=>?_) (fun n=>?_)
 ·cases hks:ks with
  |nil=>
   rw [show BIG=999999999+1 from rfl,qp6,W5 (by simp),z6];rfl
  |cons k0 r=>
   rw [hks] at key hkl;have hl:(k0::r).length=r.length+1:=rfl;rw [show BIG=999999999+1 from rfl,qp6,W4 (by rw [hl];omega),j7,if_pos (by rw [hl];omega),hcl,j6,if_pos (by rw [Q1];show (0+1)*32<=140737488355328;decide)];have:=key r.length 1 999999999 (by rw [hl];omega) (by rw [hl] at hkl;omega);exact this
 ·show yu2 (n+1) ((ks.length:Nat):Int) (k:Int) _ _ _ _ _ _ _ _ _ _ _ _ _ _ _ _ _ _ _ _=yu2 n ((ks.length:Nat):Int) ((k+1:Nat):Int) _ _ _ _ _ _ _ _ _ _ _ _ _ _ _ _ _ _ _ _;rw [jw0,W4 (by omega),j7,if_pos (by omega),hcl,j6,if_pos (by rw [W9,Y6,Q1];show (min k ks.length+1)*32<=_;omega),nx hk (by omega)];have hg:ks.getD (k:Int).toNat 0=ks[k]:=by rw [Y2,show (k:Int).toNat=k by omega,Y0 hk];rfl
  rw [hg,S9 hk,J3];rfl
 ·show yu2 (n+1) ((ks.length:Nat):Int) ((ks.length:Nat):Int) _ _ _ _ _ _ _ _ _ _ _ _ _ _ _ _ _ _ _ _=_;rw [jw0,W5 (by omega),z6,N8]
def kb6 (roll sv:Int) (no:Bool) (yl:Nat):(Int×Int×Int×Int×Bool×Unit×Unit)×Bool×Unit:=
 if roll=0 then ((0,0,0,0,false,(),()),false,()) else if no=true then ((0,6,roll,0,false,(),()),true,()) else if (yl:Int)=sv then ((0,5,roll,0,false,(),()),true,()) else ((0,0,0,0,false,(),()),false,())
def gl0 (m:Mc) {c:Nat} (h:okM m c):qam BIG m.sv m.held m.act m.bef m.roll m.yes m.no=some (pmc m,kb6 m.roll m.sv m.no m.yes.length):=by
 rw [we2,qe7,W4 (by have:=h.sv;omega),j6];dsimp only;rw [show (!true)=false from rfl,z6,show BIG=999999999+1 from rfl,vr9];unfold kb6;by_cases h1:m.roll=0
 ·rw [if_pos h1,show (m.roll==0)=true by simpa using h1,j7]
 ·rw [if_neg h1,show (m.roll==0)=false by simpa using h1,z6];cases hn:m.no with
  |true=>
   rw [if_pos rfl,j7];have:pmc m=((m.sv,(),m.act,m.bef,m.roll,(),true,()),m.held,m.yes,()):=by unfold pmc;rw [hn]
   rw [this]
  |false=>
   have:pmc m=((m.sv,(),m.act,m.bef,m.roll,(),false,()),m.held,m.yes,()):=by unfold pmc;rw [hn]
   rw [if_neg (by simp),z6,this];by_cases h2:(m.yes.length:Int)=m.sv
   ·rw [if_pos h2,show (((m.yes.length:Nat):Int)==m.sv)=true by simpa using h2,j7]
   ·rw [if_neg h2,show (((m.yes.length:Nat):Int)==m.sv)=false by simpa using h2,z6]
def gl1 (sv act bef roll:Int) (no:Bool) (hs:List Held) (ys:List Int):qal BIG sv hs act bef roll ys no=some (((sv,(),act,bef,roll,(),no,()),hs,ys,()),kb6 roll sv no ys.length):=by
 have hJ: ∀c,jo8 BIG c sv act bef roll no hs ys 0 0 0 0 false []=if c=true then some (((sv,(),act,bef,roll,(),no,()),hs,ys,()),((0,0,0,0,false,(),()),false,())) else if no=true then some (((sv,(),act,bef,roll,(),no,()),hs,ys,()),((0,6,roll,0,false,(),()),true,())) else some (((sv,(),act,bef,roll,(),no,()),hs,ys,()),((0,5,roll,0,false,(),()),true,())):=by
  intro c;rw [show BIG=999999999+1 from rfl,vr8];rfl
 rw [we0,hJ,hJ,hJ];unfold kb6;by_cases h1:roll=0<;>cases no<;>by_cases h2:(ys.length:Int)=sv<;>simp [j9,h1,h2]
def wb6 (m:Mc) (v:Int) {c:Nat} (h:okM m c):qcd BIG m.sv m.held m.act m.bef m.roll m.yes m.no v=some (pmc m,(zx7 m.held v,zq2 m.held v,())):=by
 rw [wk1,qe7,W4 (by have:=h.sv;omega),j6];dsimp only;rw [show (!true)=false from rfl,z6];have e:qaj BIG (jb8 TT (.list (.int .u8)) m.held v)=some (zx7 m.held v):=jy6 _ (yd5 (P:=fun l=>l.length<=1000000) (by simp) v fun p hp=>by have:=h.dl p hp;omega);rw [e,j6]
def vb6 (r:Registry) (v:Int) (h:r.Held.length<=100000): ∃y,qt BIG r v=some y/\((y= -1/\ ∀x∈r.Held,x.Version≠v)\/ ∃(i:Nat) (hi:i<r.Held.length),y=(i:Int)/\(r.Held[i]).Version=v):=by
 obtain ⟨H,A,B,R,Y,No⟩:=r;rw [ud8];dsimp only at h⊢;have key: ∀(m k n:Nat),k+m=H.length->(∀(j:Nat) (hj:j<H.length),j<k->(H[j]).Version≠v)-> ∃y,ka4 (n+m+1) v (k:Int) H A B R Y No=some y/\((y= -1/\ ∀x∈H,x.Version≠v)\/ ∃(i:Nat) (hi:i<H.length),y=(i:Int)/\(H[i]).Version=v):=by
  intro m;induction m with
  |zero=>
   intro k n hk hn;rw [qq7,W5 (by omega),z6];refine ⟨_,rfl,.inl ⟨rfl,fun x hx=>?_⟩⟩;obtain ⟨j,hj,rfl⟩:=List.getElem_of_mem hx;exact hn j hj (by omega)
  |succ m ih=>
   intro k n hk hn;have hkl:k<H.length:=by omega
   have hg:H.getD (k:Int).toNat zt3=H[k]:=by rw [Y2,show (k:Int).toNat=k by omega,Y0 hkl];rfl
   rw [show n+(m+1)+1=(n+m+1)+1 by omega,qq7,W4 (by omega),j7,if_pos (by omega),hg];by_cases he:(H[k]).Version=v
   ·rw [show ((H[k]).Version==v)=true by simpa using he,j7];exact ⟨_,rfl,.inr ⟨k,hkl,rfl,he⟩⟩
   ·rw [show ((H[k]).Version==v)=false by simpa using he,z6,zb6 (by omega),show (k:Int)+1=((k+1:Nat):Int) by omega];exact ih (k+1) n (by omega) fun j hj hjk=>by
     by_cases hjk':j=k
     ·subst hjk';exact he
     ·exact hn j hj (by omega)
 obtain ⟨y,hy,hp⟩:=key H.length 0 (999999999-H.length) (by omega) (fun j _ hj=>by omega);refine ⟨y,?_,hp⟩;rw [show (BIG:Nat)=999999999-H.length+H.length+1 by unfold BIG;omega];exact hy
def km1 (a:List Int) (h:a.length<=400000000):qw BIG a a=some true:=by
 rw [ue1];rw [show (((a.length:Nat):Int) != ((a.length:Nat):Int))=false by simp,z6];refine jq9 (fun n k=>jr6 n a a (k:Int)) 1 a.length _ (fun n k hk=>?_) (fun n=>?_) BIG (by show 1*a.length+1<=1000000000;omega)
 ·show jr6 (n+1) a a (k:Int)=jr6 n a a ((k+1:Nat):Int);rw [qq9,W4 (by omega),j7,if_pos (by omega),if_pos (by omega),nx hk (by omega)];simp [z6]
 ·show jr6 (n+1) a a ((a.length:Nat):Int)=some true;rw [qq9,W5 (by omega),z6]
def vu1 (a:List Held) (h:a.length<=400000000) (hd: ∀x∈a,x.Data.length<=1000000):qaf BIG a a=some ((a,a,()),(true,())):=by
 rw [wd5];rw [show (((a.length:Nat):Int) != ((a.length:Nat):Int))=false by simp,z6];refine jq9 (fun n k=>yu0 n (k:Int) a a) 1 a.length _ (fun n k hk=>?_) (fun n=>?_) BIG (by show 1*a.length+1<=1000000000;omega)
 ·show yu0 (n+1) (k:Int) a a=yu0 n ((k+1:Nat):Int) a a;have hg:a.getD (k:Int).toNat zt3=a[k]:=by rw [Y2,show (k:Int).toNat=k by omega,Y0 hk];rfl
  have hset:a.set (k:Int).toNat a[k]=a:=by rw [show (k:Int).toNat=k by omega];exact T6 hk
  rw [jv5,W4 (by omega),j7,if_pos (by omega),if_pos (by omega),if_pos (by omega),nx hk (by omega),hg,hset,kt2,show (a[k].Version==a[k].Version)=true by simp,j7,kb1 _ _ (hd _ (N1 hk)),j6,j6,W4 rfl];rfl
 ·show yu0 (n+1) ((a.length:Nat):Int) a a=_;rw [jv5,W5 (by omega),z6]
def vu4 (h:List Held) (a b c:Int) (y:List Int) (n:Bool) (h1:h.length<=400000000) (hd: ∀x∈h,x.Data.length<=1000000) (hy:y.length<=400000000):qbx BIG h a b c y n h a b c y n=some ((h,y,h,y,()),(true,())):=by
 rw [wi9,vu1 _ h1 hd,j6];dsimp only;simp only [beq_self_eq_true,j7];rw [km1 _ hy,j6,j7]
def jt1 (m:Mc) {c:Nat} (h:okM m c): ∀x∈(v6 m).Held,x.Data.length<=6000:=by
 intro x hx;obtain ⟨v,_,rfl⟩:=U0.1 hx;exact yd5 (P:=fun l=>l.length<=6000) (by simp) v fun p hp=>h.dl p hp
def yk0 (m:Mc):(v6 m).Held.length=m.held.length:=by
 show ((zi1 (m.held.map Prod.fst)).map (zj8 m)).length=_;rw [W9,ja1,W9]
def yy3 (m:Mc):(v6 m).Yes.length=m.yes.length:=by
 show (zi1 (m.yes.map Prod.fst)).length=_;rw [ja1,W9]
def zz0 (m:Mc) (v:Int):(∃x∈(v6 m).Held,x.Version=v)↔zq2 m.held v=true:=by
 rw [yk7];constructor
 ·rintro ⟨x,hx,rfl⟩
  obtain ⟨k,hk,rfl⟩:=U0.1 hx;exact (zd3 _).mem_iff.1 hk
 ·intro h;exact ⟨zj8 m v,U0.2 ⟨v,(zd3 _).mem_iff.2 h,rfl⟩,rfl⟩
def vg0 (m:Mc) {x:Held} (hx:x∈(v6 m).Held):x=zj8 m x.Version:=by
 obtain ⟨k,hk,rfl⟩:=U0.1 hx;rfl
end Go.Y
namespace Go.Y
open Go.RowKit Go.V Go.X Go.Proofs
def ji8: ∀ {a b:List Int},a.Pairwise (· < ·)->b.Pairwise (· < ·)->(∀x,x∈a↔x∈b)->a=b
 | [],[],_,_,_=>rfl
 | [],y::b,_,_,h=>by have:=(h y).2 (U1 ..);cases this
 |x::a,[],_,_,h=>by have:=(h x).1 (U1 ..);cases this
 |x::a,y::b,ha,hb,h=>by
  rw [A0] at ha hb;have hxy:x=y:=by
   have h1:=(h x).1 (U1 ..);have h2:=(h y).2 (U1 ..);rcases Z0.1 h1 with h1|h1
   ·exact h1
   ·rcases Z0.1 h2 with h2|h2
    ·exact h2.symm
    ·have:=hb.1 x h1;have:=ha.1 y h2;omega
  subst hxy;rw [ji8 ha.2 hb.2 fun z=>⟨fun hz=>?_,fun hz=>?_⟩]
  ·rcases Z0.1 ((h z).1 (Z4 _ hz)) with e|e
   ·have:=ha.1 z hz;omega
   ·exact e
  ·rcases Z0.1 ((h z).2 (Z4 _ hz)) with e|e
   ·have:=hb.1 z hz;omega
   ·exact e
def kn0 {l:List Int} (hn:l.Nodup):(zi1 l).Pairwise (· < ·):=by
 have h1:=zj4 l;have h2:(zi1 l).Nodup:=(zd3 l).nodup_iff.2 hn;refine List.Pairwise.imp₂ (fun a b (h:a<=b) (h':a≠b)=>?_) h1 h2;omega
def qz4 (l:List Int) (v:Int):zi1 (l++ [v])=jz2 v (zi1 l):=by
 refine ja2 ((zd3 _).trans ?_) (zj4 _) (yj4 v (zj4 l));exact ((List.perm_append_comm (l₁:=l) (l₂:= [v])).trans ((zd3 l).symm.cons v)).trans (ym2 v _).symm
def kc3 (v:Int) (d:List Int):List Held->List Held
 | []=> [⟨v,d⟩]
 |x::r=>if x.Version>v then ⟨v,d⟩::x::r else x::kc3 v d r
def vg3 (m:Mc) (v:Int) (d:List Int): ∀l:List Int,v∉l->(jz2 v l).map (zj8 {m with held:=zh5 m.held v d})=kc3 v d (l.map (zj8 m))
 | [],_=>by
  show [zj8 {m with held:=zh5 m.held v d} v]= [⟨v,d⟩];unfold zj8;rw [ym0]
 |y::r,h=>by
  have hy:y≠v:=fun e=>h (e▸U1 ..);have e1:zj8 {m with held:=zh5 m.held v d} y=zj8 m y:=by unfold zj8;rw [zv3 _ _ _ hy]
  have e2:zj8 {m with held:=zh5 m.held v d} v=⟨v,d⟩:=by unfold zj8;rw [ym0]
  have er: ∀r:List Int,v∉r->r.map (zj8 {m with held:=zh5 m.held v d})=r.map (zj8 m):=fun r hr=>List.map_congr_left fun z hz=>by
   have hzv:z≠v:=by rintro rfl;exact hr hz
   unfold zj8;rw [zv3 _ _ _ hzv]
  have hr:v∉r:=fun hm=>h (Z4 _ hm);show (jz2 v (y::r)).map _=if (zj8 m y).Version>v then _ else _
  unfold jz2;by_cases hv:v<=y
  ·rw [if_pos hv,if_pos (show (zj8 m y).Version>v by show y>v;omega),U2,U2,e2,e1,er r hr]
  ·rw [if_neg hv,if_neg (show ¬(zj8 m y).Version>v by show ¬y>v;omega),U2,e1,vg3 m v d r hr]
section
variable (sv act bef roll:Int) (no:Bool) (H:List Held) (Y:List Int) (t k v s:Int) (g:Bool) (d:List Int)
theorem ko2 (x:List Int) (h:x.length<=1000000):qbq BIG x=some x:=by rw [wh5,if_pos (by omega),U6]
theorem yw7 (hH:H.length<=100000) (hd:d.length<=1000000): ∀(m j n:Nat) (put:Bool) (acc:List Held),j+m=H.length->acc.length<=2*j+1->
  qx9 (n+3*m+2) put (j:Int) sv act bef roll no H Y t k v s g d acc=some (((sv,acc++(if put=true then H.drop j else kc3 v d (H.drop j)),act,bef,roll,(),no,()),(),Y,()),((0:Int),()))
 |0,j,n,put,acc,hj,ha=>by
  rw [show n+3*0+2=(n+1)+1 by omega,qp1,W5 (by omega),z6,ko2 d hd,j6,if_pos (by omega),qp0,qp0,M4 (by omega)];cases put with
  |true=>rw [if_pos rfl,J7];rfl
  |false=>rw [if_neg (by simp)];rfl
 |m+1,j,n,put,acc,hj,ha=>by
  have hjl:j<H.length:=by omega
  have hg:H.getD (j:Int).toNat zt3=H[j]:=by rw [Y2,show (j:Int).toNat=j by omega,Y0 hjl];rfl
  have hdr:H.drop j=H[j]::H.drop (j+1):=V8 hjl;have J2: ∀(q:Nat) (put:Bool) (acc:List Held),acc.length<=2*j+2->vy8 (q+1) put (j:Int) sv act bef roll no H Y t k v s g d acc=qx9 q put ((j+1:Nat):Int) sv act bef roll no H Y t k v s g d (acc++ [H[j]]):=by
   intro q put acc ha;rw [kj0,if_pos (by omega),if_pos (by omega),hg,zb6 (by omega),show (j:Int)+1=((j+1:Nat):Int) by omega]
  rw [show n+3*(m+1)+2=(n+3*m+2+1+1)+1 by omega,qp1,W4 (by omega),j7,if_pos (by omega),hg,qo9,qo9,ko2 d hd,j6,if_pos (by omega)];cases put with
  |true=>
   rw [show (!true)=false from rfl,z6,z6,J2 _ true acc (by omega),yw7 hH hd m (j+1) n true (acc++ [H[j]]) (by omega) (by simp;omega),if_pos rfl,if_pos rfl,hdr];simp
  |false=>
   rw [show (!false)=true from rfl,j7,za1];by_cases hv:(H[j]).Version>v
   ·rw [if_pos (W4 hv),J2 _ true (acc++ [(⟨v,d⟩:Held)]) (by simp;omega),yw7 hH hd m (j+1) n true (acc++ [(⟨v,d⟩:Held)]++ [H[j]]) (by omega) (by simp;omega),if_pos rfl,if_neg (by simp),hdr];have:kc3 v d (H[j]::H.drop (j+1))=⟨v,d⟩::H[j]::H.drop (j+1):=if_pos hv;rw [this];simp
   ·rw [if_neg (by simpa using hv),J2 _ false acc (by omega),yw7 hH hd m (j+1) n false (acc++ [H[j]]) (by omega) (by simp;omega),if_neg (by simp),if_neg (by simp),hdr];have:kc3 v d (H[j]::H.drop (j+1))=H[j]::kc3 v d (H.drop (j+1)):=if_neg hv;rw [this];simp
def jo4 (srv:Int) (Y:List Int):Nat->Int->List Int
 |0,_=> []
 |j+1,s=>(if s=srv\/s∈Y then [s] else [])++jo4 srv Y j (s+1)
theorem jl6 (srv:Int) (Y:List Int) (x:Int): ∀(j:Nat) (s:Int),x∈jo4 srv Y j s↔s<=x/\x<s+j/\(x=srv\/x∈Y)
 |0,s=>by simp [jo4];omega
 |j+1,s=>by
  unfold jo4;rw [X4,jl6 srv Y x j (s+1)];constructor
  ·rintro (h|⟨h1,h2,h3⟩)
   ·split at h
    ·rename_i hc;rw [Q5] at h;subst h;exact ⟨by omega,by omega,hc⟩
    ·cases h
   ·exact ⟨by omega,by omega,h3⟩
  ·rintro ⟨h1,h2,h3⟩
   by_cases he:x=s
   ·subst he;left;rw [if_pos h3];exact Q5.2 rfl
   ·right;exact ⟨by omega,by omega,h3⟩
theorem vh1 (srv:Int) (Y:List Int): ∀(j:Nat) (s:Int),(jo4 srv Y j s).Pairwise (· < ·)
 |0,s=>List.Pairwise.nil
 |j+1,s=>by
  unfold jo4;rw [List.pairwise_append];refine ⟨by split<;>simp,vh1 srv Y j (s+1),fun a ha b hb=>?_⟩;have:=((jl6 srv Y b j (s+1)).1 hb).1;split at ha
  ·rw [Q5] at ha;omega
  ·cases ha
theorem va6 (x:Int) (acc:List Int) (hY:Y.length<=100000) (ha:acc.length<=1000): ∀(m j n:Nat) (b:Bool),j+m=Y.length->
  vy6 (n+2*m+1) x b (j:Int) sv act bef roll no H Y t k v s g d acc=vy4 n x sv act bef roll no H Y t k v s g d (if b=true\/x∈Y.drop j then acc++ [x] else acc)
 |0,j,n,b,hj=>by
  rw [show n+2*0+1=n+1 by omega,qo6,W5 (by omega),z6,if_pos (by omega),M4 (by omega),za1];cases b with
  |true=>rw [if_pos rfl,if_pos (.inl rfl)]
  |false=>rw [if_neg (by simp),if_neg (by simp)]
 |m+1,j,n,b,hj=>by
  have hjl:j<Y.length:=by omega
  have hg:Y.getD (j:Int).toNat 0=Y[j]:=by rw [Y2,show (j:Int).toNat=j by omega,Y0 hjl];rfl
  have hdr:Y.drop j=Y[j]::Y.drop (j+1):=V8 hjl;rw [show n+2*(m+1)+1=(n+2*m+1+1)+1 by omega,qo6,W4 (by omega),j7,if_pos (by omega),hg,qo4,qo4,zb6 (by omega),show (j:Int)+1=((j+1:Nat):Int) by omega,va6 x acc hY ha m (j+1) n true (by omega),va6 x acc hY ha m (j+1) n _ (by omega),za1,hdr];cases b with
  |true=>rw [if_pos rfl,if_pos (.inl rfl),if_pos (.inl rfl)]
  |false=>
   rw [if_neg (by simp)];congr 1;by_cases h:Y[j]=x
   ·rw [if_pos (.inl (by simpa using h)),if_pos (.inr (by rw [h];exact U1 ..))]
   ·by_cases h2:x∈Y.drop (j+1)
    ·rw [if_pos (.inr h2),if_pos (.inr (Z4 _ h2))]
    ·rw [if_neg (by rintro (h3|h3);exact h (by simpa using h3);exact h2 h3),if_neg (by rintro (h3|h3);cases h3;rcases Z0.1 h3 with h3|h3;exact h h3.symm;exact h2 h3)]
theorem qj6 (N:Nat) (hN:N<=100) (hsv:sv=(N:Int)) (hY:Y.length<=100000): ∀(j n i:Nat) (acc:List Int),i+j=N+1->1<=i->acc.length<=i->
  vy5 (n+j*(2*Y.length+3)+1) (i:Int) sv act bef roll no H Y t k v s g d acc=some (((sv,(),act,bef,roll,acc++jo4 s Y j (i:Int),no,()),H,(),()),((0:Int),()))
 |0,n,i,acc,hj,hi,ha=>by
  rw [show n+0*(2*Y.length+3)+1=n+1 by omega,qo5,W5 (by omega),z6];show _=some (((sv,(),act,bef,roll,acc++ [],no,()),H,(),()),((0:Int),()));rw [J7]
 |j+1,n,i,acc,hj,hi,ha=>by
  rw [show n+(j+1)*(2*Y.length+3)+1=((n+j*(2*Y.length+3)+1)+1+2*Y.length+1)+1 by rw [U8];omega,qo5,W4 (by omega),j7,
   show (0:Int)=((0:Nat):Int) from rfl,va6 sv act bef roll no H Y t k v s g d (i:Int) acc hY (by omega) Y.length 0 ((n+j*(2*Y.length+3)+1)+1) _ (by omega),ki3,zb6 (by omega),show (i:Int)+1=((i+1:Nat):Int) by omega,
   qj6 N hN hsv hY j n (i+1) _ (by omega) (by omega) (by split<;>first|omega|(rw [X9];show acc.length+1<=i+1;omega))]
  have e:jo4 s Y (j+1) (i:Int)=(if (i:Int)=s\/(i:Int)∈Y then [(i:Int)] else [])++jo4 s Y j ((i+1:Nat):Int):=by
   rw [show ((i+1:Nat):Int)=(i:Int)+1 by omega];rfl
  rw [e,J9];by_cases h:(i:Int)=s\/(i:Int)∈Y
  ·rw [if_pos h,if_pos (h.imp (fun h=>by simpa using h) id)];simp
  ·rw [if_neg h,if_neg (fun h2=>h (h2.imp (fun h=>by simpa using h) id))];simp
end
end Go.Y
namespace Go.Y
open Go.RowKit Go.V Go.X Go.Proofs
def qj1 (m:Mc) {v:Int} {d:List Int} (h:zx7 m.held v=d) (hk:zq2 m.held v=true):v6 {m with held:=zh5 m.held v d}=v6 m:=by
 have e: ∀x,zj8 {m with held:=zh5 m.held v d} x=zj8 m x:=fun x=>by
  unfold zj8;by_cases hx:x=v
  ·subst hx;rw [ym0,h]
  ·rw [zv3 _ _ _ hx]
 unfold v6;rw [zw6,if_pos ((yk7 _ _).1 hk),List.map_congr_left fun x _=>e x]
def vu9 (m:Mc) {v:Int} {d:List Int} (hk:zq2 m.held v=false):(v6 {m with held:=zh5 m.held v d}).Held=kc3 v d (v6 m).Held:=by
 have hn:v∉m.held.map Prod.fst:=fun hm=>by rw [(yk7 _ _).2 hm] at hk;cases hk
 show (zi1 ((zh5 m.held v d).map Prod.fst)).map (zj8 {m with held:=zh5 m.held v d})=_;rw [zw6,if_neg hn,qz4];exact vg3 m v d _ fun hm=>hn ((zd3 _).mem_iff.1 hm)
def ue9 (m:Mc) {c:Nat} (h:okM m c) (hc:c<=1000) (e:Entry) (hd:e.Data.length<=6000) (hb:Byt e.Data):
  qd BIG m.sv (v6 m).Held m.act m.bef m.roll (v6 m).Yes m.no e=some (((m.sv,(v6 (qa8 m e).1).Held,m.act,m.bef,m.roll,(),m.no,()),(),(v6 m).Yes,()),((qa8 m e).2,())):=by
 have hl:(v6 m).Held.length<=1000:=by rw [yk0];exact W7 h.hl hc
 have hJ: ∀c0,vy7 BIG c0 m.sv m.act m.bef m.roll m.no (v6 m).Held (v6 m).Yes e.Term e.Kind e.Version e.Server e.Good e.Data=
   if c0=true then some (((m.sv,(v6 m).Held,m.act,m.bef,m.roll,(),m.no,()),(),(v6 m).Yes,()),((2:Int),())) else
   if bdP e.Version e.Data=false then some (((m.sv,(v6 m).Held,m.act,m.bef,m.roll,(),m.no,()),(),(v6 m).Yes,()),((4:Int),())) else
   if zq2 m.held e.Version=true/\zx7 m.held e.Version≠e.Data then some (((m.sv,(v6 m).Held,m.act,m.bef,m.roll,(),m.no,()),(),(v6 m).Yes,()),((7:Int),())) else
   some (((m.sv,(v6 {m with held:=zh5 m.held e.Version e.Data}).Held,m.act,m.bef,m.roll,(),m.no,()),(),(v6 m).Yes,()),((0:Int),())):=by
  intro c0;obtain ⟨y,hy,hcase⟩:=vb6 (v6 m) e.Version (by omega);have hy:qt BIG (⟨(v6 m).Held,m.act,m.bef,m.roll,(v6 m).Yes,m.no⟩:Registry) e.Version=some y:=hy;rw [show BIG=999999999+1 from rfl,ki9,qy5 _ _ (by omega) hb,j6,hy,j6,za1];by_cases hc0:c0=true
  ·rw [if_pos hc0,if_pos hc0]
  rw [if_neg hc0,if_neg hc0];cases hbd:bdP e.Version e.Data with
  |false=>rw [if_pos rfl];rfl
  |true=>
   rw [if_neg (show ¬(true=false) by simp),show (!true)=false from rfl,z6];rcases hcase with ⟨rfl,hno⟩|⟨i,hi,rfl,hv⟩
   ·have hk:zq2 m.held e.Version=false:=by
     cases hk:zq2 m.held e.Version with
     |false=>rfl
     |true=>obtain ⟨x,hx,hxv⟩:=(zz0 m e.Version).2 hk;exact absurd hxv (hno x hx)
    rw [W5 (by decide),z6,if_neg (show ¬(zq2 m.held e.Version=true/\zx7 m.held e.Version≠e.Data) from fun hh=>by rw [hk] at hh;cases hh.1),vu9 m hk];rw [show (999999999:Nat)=(999999997-3*(v6 m).Held.length)+3*(v6 m).Held.length+2 by omega,show (0:Int)=((0:Nat):Int) from rfl,
     yw7 m.sv m.act m.bef m.roll m.no (v6 m).Held (v6 m).Yes e.Term e.Kind e.Version e.Server e.Good e.Data (by omega) (by omega) (v6 m).Held.length 0 _ false [] (by omega) (by simp),if_neg (show ¬(false=true) by simp),J9,U6]
    rfl
   ·have hx:=vg0 m (N1 hi);have hk:zq2 m.held e.Version=true:=(zz0 m e.Version).1 ⟨_,N1 hi,hv⟩;have hg:(v6 m).Held.getD ((i:Nat):Int).toNat zt3=zj8 m e.Version:=by
     rw [Y2,show ((i:Nat):Int).toNat=i by omega,Y0 hi];show (v6 m).Held[i]=_;rw [hx,hv]
    have hdl:(zx7 m.held e.Version).length<=6000:=yd5 (P:=fun l=>l.length<=6000) (by simp) _ fun p hp=>h.dl p hp;rw [W4 (by omega),j7,if_pos (by omega),hg,show (zj8 m e.Version).Data=zx7 m.held e.Version from rfl,kb1 _ _ (by omega),j6];by_cases hdt:zx7 m.held e.Version=e.Data
    ·rw [W4 hdt,j7,if_neg (fun hh=>hh.2 hdt),qj1 m hdt hk]
    ·rw [W5 hdt,z6,if_pos ⟨hk,hdt⟩]
 rw [ua1,hJ,hJ,za1];unfold qa8 inB;by_cases h1:e.Version<1
 ·rw [if_pos (W4 h1),if_pos rfl,W5 (by omega),if_pos (show (false&&decide (e.Version<=1073741824))=false from rfl)]
 ·rw [if_neg (by simpa using h1)];by_cases h2:e.Version>1073741824
  ·rw [if_pos (W4 h2),show decide (e.Version<=1073741824)=false from W5 (by omega),Bool.and_false,if_pos rfl]
  ·rw [if_neg (by simpa using h2),W4 (show (1:Int)<=e.Version by omega),W4 (show e.Version<=1073741824 by omega),if_neg (show ¬((true&&true)=false) by decide)];split
   ·rfl
   ·split<;>rfl
def wq8 (m:Mc) {c:Nat} (h:okM m c) (hc:c<=1000) (hi:inv m) (e:Entry):
  qb BIG m.sv (v6 m).Held m.act m.bef m.roll (v6 m).Yes m.no e=some (((m.sv,(),m.act,m.bef,m.roll,(v6 (yr8 m e).1).Yes,(yr8 m e).1.no,()),(v6 m).Held,(),()),((yr8 m e).2,())):=by
 obtain ⟨N,hN⟩: ∃N:Nat,m.sv=(N:Int):=⟨m.sv.toNat,by have:=h.sv;omega⟩;have hN7:N<=7:=by have:=h.sv;omega
 have hyl:(v6 m).Yes.length<=1000:=by rw [yy3];exact W7 h.yl hc
 have hJ1: ∀c0,vy3 999999999 c0 m.sv m.act m.bef m.roll m.no (v6 m).Held (v6 m).Yes e.Term e.Kind e.Version e.Server e.Good e.Data=
   if c0=true then some (((m.sv,(),m.act,m.bef,m.roll,(v6 m).Yes,m.no,()),(v6 m).Held,(),()),((2:Int),())) else
   if e.Good=true then some (((m.sv,(),m.act,m.bef,m.roll,jo4 e.Server (v6 m).Yes N 1,m.no,()),(v6 m).Held,(),()),((0:Int),())) else some (((m.sv,(),m.act,m.bef,m.roll,(v6 m).Yes,true,()),(v6 m).Held,(),()),((0:Int),())):=by
  intro c0;rw [show (999999999:Nat)=999999998+1 from rfl,ki2,za1,za1];congr 1;cases hg:e.Good with
  |false=>rw [if_pos (show (!false)=true from rfl),if_neg (show ¬(false=true) by simp)]
  |true=>
   rw [if_neg (by simp),if_pos rfl];have hb:N*(2*(v6 m).Yes.length+3)<=7*2003:=Nat.mul_le_mul hN7 (by omega);have key:=qj6 m.sv m.act m.bef m.roll m.no (v6 m).Held (v6 m).Yes e.Term e.Kind e.Version e.Server true e.Data N (by omega) hN (by omega) N (999999997-N*(2*(v6 m).Yes.length+3)) 1 [] (by omega) (by omega) (by simp);rw [show (999999997-N*(2*(v6 m).Yes.length+3))+N*(2*(v6 m).Yes.length+3)+1=999999998 by omega] at key;exact key
 have hJ: ∀c0,vy2 BIG c0 m.sv m.act m.bef m.roll m.no (v6 m).Held (v6 m).Yes e.Term e.Kind e.Version e.Server e.Good e.Data=
   if c0=true then some (((m.sv,(),m.act,m.bef,m.roll,(v6 m).Yes,m.no,()),(v6 m).Held,(),()),((6:Int),())) else if inB e.Server m.sv=false then some (((m.sv,(),m.act,m.bef,m.roll,(v6 m).Yes,m.no,()),(v6 m).Held,(),()),((2:Int),())) else
   if e.Good=true then some (((m.sv,(),m.act,m.bef,m.roll,jo4 e.Server (v6 m).Yes N 1,m.no,()),(v6 m).Held,(),()),((0:Int),())) else some (((m.sv,(),m.act,m.bef,m.roll,(v6 m).Yes,true,()),(v6 m).Held,(),()),((0:Int),())):=by
  intro c0;rw [show BIG=999999999+1 from rfl,ki1,hJ1,hJ1,za1,za1];congr 1;unfold inB;by_cases h1:e.Server<1
  ·rw [if_pos (W4 h1),if_pos rfl,W5 (by omega),if_pos (show (false&&decide (e.Server<=m.sv))=false from rfl)]
  ·rw [if_neg (by simpa using h1)];by_cases h2:e.Server>m.sv
   ·rw [if_pos (W4 h2),show decide (e.Server<=m.sv)=false from W5 (by omega),Bool.and_false,if_pos rfl]
   ·rw [if_neg (by simpa using h2),W4 (show (1:Int)<=e.Server by omega),W4 (show e.Server<=m.sv by omega),if_neg (show ¬((true&&true)=false) by decide)]
 have hout:inB e.Server m.sv≠false->jo4 e.Server (v6 m).Yes N 1=(v6 {m with yes:=zh5 m.yes e.Server true}).Yes:=fun hs=>by
  have hs:=yk2 hs;refine ji8 (vh1 _ _ _ _) (kn0 (yr2 hi.yn)) fun x=>?_;show _↔x∈zi1 ((zh5 m.yes e.Server true).map Prod.fst);rw [jl6,(zd3 _).mem_iff,zw6];have hx:x∈(v6 m).Yes↔x∈m.yes.map Prod.fst:=(zd3 _).mem_iff;have hbd:x∈m.yes.map Prod.fst->1<=x/\x<=m.sv:=fun hm=>by obtain ⟨p,hp,rfl⟩:=U0.1 hm;exact hi.yb p hp
  rw [hx];constructor
  ·rintro ⟨_,_,h3⟩
   split
   ·rename_i hin;rcases h3 with rfl|h3
    ·exact hin
    ·exact h3
   ·rcases h3 with rfl|h3
    ·exact X4.2 (.inr (Q5.2 rfl))
    ·exact X4.2 (.inl h3)
  ·intro hm;split at hm
   ·have:=hbd hm;exact ⟨this.1,by omega,.inr hm⟩
   ·rcases X4.1 hm with hm|hm
    ·have:=hbd hm;exact ⟨this.1,by omega,.inr hm⟩
    ·have:=Q5.1 hm;subst this;exact ⟨hs.1,by omega,.inl rfl⟩
 rw [wv7,hJ,hJ,za1];have fin: ¬(e.Version<1\/e.Version≠m.roll)->(if inB e.Server m.sv=false then some (((m.sv,(),m.act,m.bef,m.roll,(v6 m).Yes,m.no,()),(v6 m).Held,(),()),((2:Int),())) else
   if e.Good=true then some (((m.sv,(),m.act,m.bef,m.roll,jo4 e.Server (v6 m).Yes N 1,m.no,()),(v6 m).Held,(),()),((0:Int),())) else some (((m.sv,(),m.act,m.bef,m.roll,(v6 m).Yes,true,()),(v6 m).Held,(),()),((0:Int),())))=some (((m.sv,(),m.act,m.bef,m.roll,(v6 (yr8 m e).1).Yes,(yr8 m e).1.no,()),(v6 m).Held,(),()),((yr8 m e).2,())):=by
  intro hn;rw [show yr8 m e=_ from if_neg hn];by_cases hs:inB e.Server m.sv=false
  ·rw [if_pos hs,if_pos hs]
  ·rw [if_neg hs,if_neg hs,hout hs];by_cases hg:e.Good=true
   ·rw [if_pos hg,if_pos hg]
   ·rw [if_neg hg,if_neg hg];rfl
 by_cases h1:e.Version<1
 ·rw [if_pos (W4 h1),if_pos rfl,show yr8 m e=(m,6) from if_pos (.inl h1)]
 ·rw [if_neg (by simpa using h1)];by_cases h2:e.Version=m.roll
  ·rw [show (e.Version != m.roll)=false by simpa using h2,if_neg (show ¬(false=true) by simp)];exact fin (by rintro (h|h);exact h1 h;exact h h2)
  ·rw [show (e.Version != m.roll)=true by simpa using h2,if_pos rfl,show yr8 m e=(m,6) from if_pos (.inr h2)]
abbrev rT (m:Mc):(Int×List Held×Int×Int×Int×List Int×Bool×Unit)×Unit×Unit×Unit:=((m.sv,(v6 m).Held,m.act,m.bef,m.roll,(v6 m).Yes,m.no,()),(),(),())
def wo4 (m:Mc) (hi:inv m) {c:Nat} (h:okM m c):(m.yes.length:Int)<=m.sv:=by
 obtain ⟨N,hN⟩: ∃N:Nat,m.sv=(N:Int):=⟨m.sv.toNat,by have:=h.sv;omega⟩;have:=kr9 N (m.yes.map Prod.fst) hi.yn fun x hx=>by obtain ⟨p,hp,rfl⟩:=U0.1 hx;have:=hi.yb p hp;omega
 rw [W9] at this;omega
def wr1 (m:Mc) {c:Nat} (h:okM m c) (hc:c<=1000) (hi:inv m) (e:Entry) (hd:e.Data.length<=6000) (hb:Byt e.Data):
  qy BIG m.sv (v6 m).Held m.act m.bef m.roll (v6 m).Yes m.no e=some (rT (yb7 m e).1,((yb7 m e).2,())):=by
 rw [ue4,ue9 m h hc e hd hb,wq8 m h hc hi e];unfold yb7;have fk: ∀(n:Int) (x y:Option (((Int×List Held×Int×Int×Int×List Int×Bool×Unit)×Unit×Unit×Unit)×Int×Unit)),j9 (e.Kind==n) x y=if e.Kind=n then x else y:=fun n x y=>by
  rw [za1];by_cases hk:e.Kind=n
  ·rw [if_pos (by simpa using hk),if_pos hk]
  ·rw [if_neg (by simpa using hk),if_neg hk]
 rw [fk,fk,fk,fk,fk,fk];by_cases k1:e.Kind=1
 ·rw [if_pos k1,if_pos k1]
 rw [if_neg k1,if_neg k1];by_cases k2:e.Kind=2
 ·rw [if_pos k2,if_pos k2,j6];unfold qa8;split
  ·rfl
  ·split
   ·rfl
   ·split<;>rfl
 rw [if_neg k2,if_neg k2];by_cases k3:e.Kind=3
 ·rw [if_pos k3,if_pos k3];obtain ⟨y,hy,hcase⟩:=vb6 (v6 m) e.Version (by rw [yk0];have:=h.hl;omega);have hy:qt BIG (⟨(v6 m).Held,m.act,m.bef,m.roll,(v6 m).Yes,m.no⟩:Registry) e.Version=some y:=hy;have hyk:decide (y<0)= !(zq2 m.held e.Version):=by
   rcases hcase with ⟨rfl,hno⟩|⟨i,hi',rfl,hv⟩
   ·cases hk:zq2 m.held e.Version with
    |false=>rfl
    |true=>obtain ⟨x,hx,hxv⟩:=(zz0 m e.Version).2 hk;exact absurd hxv (hno x hx)
   ·rw [(zz0 m e.Version).1 ⟨_,N1 hi',hv⟩,W5 (by omega)];rfl
  rw [hy,j6,hyk];unfold kc4;cases zq2 m.held e.Version with
  |false=>rfl
  |true=>
   rw [show (!true)=false from rfl,z6,if_neg (by simp)];by_cases h1:m.roll=0
   ·rw [show (m.roll != 0)=false by simpa using h1,z6,if_neg (fun h=>h h1)];by_cases h2:e.Version=m.act
    ·rw [show (e.Version==m.act)=true by simpa using h2,j7,if_pos h2]
    ·rw [show (e.Version==m.act)=false by simpa using h2,z6,if_neg h2];rfl
   ·rw [show (m.roll != 0)=true by simpa using h1,j7,if_pos h1]
 rw [if_neg k3,if_neg k3];by_cases k4:e.Kind=4
 ·rw [if_pos k4,if_pos k4,j6];unfold yr8;split
  ·rfl
  ·split
   ·rfl
   ·split<;>rfl
 rw [if_neg k4,if_neg k4];by_cases k5:e.Kind=5
 ·rw [if_pos k5,if_pos k5];have hJ1: ∀c0,ka7 999999999 c0 m.sv m.act m.bef m.roll m.no (v6 m).Held (v6 m).Yes e.Term e.Kind e.Version e.Server e.Good e.Data=if c0=true then some (rT m,((8:Int),())) else some (rT (yg6 {m with bef:=m.act,act:=e.Version}),((0:Int),())):=by
   intro c0;rw [show (999999999:Nat)=999999998+1 from rfl,kk9,za1,vd1];rfl
  have hJ: ∀c0,ka6 BIG c0 m.sv m.act m.bef m.roll m.no (v6 m).Held (v6 m).Yes e.Term e.Kind e.Version e.Server e.Good e.Data=if c0=true then some (rT m,((6:Int),())) else if m.no=true\/(m.yes.length:Int)<m.sv then some (rT m,((8:Int),())) else some (rT (yg6 {m with bef:=m.act,act:=e.Version}),((0:Int),())):=by
   intro c0;rw [show BIG=999999999+1 from rfl,kk8,hJ1,hJ1,za1,za1,if_pos rfl];congr 1;have hle:=wo4 m hi h;by_cases h1:m.no=true
   ·rw [if_pos h1,if_pos (.inl h1)]
   ·rw [if_neg h1,yy3];by_cases h2:(m.yes.length:Int)<m.sv
    ·rw [if_pos (show (((m.yes.length:Nat):Int) != m.sv)=true by simp;omega),if_pos (.inr h2)]
    ·rw [if_neg (show ¬(((m.yes.length:Nat):Int) != m.sv)=true by simp;omega),if_neg (by rintro (h|h);exact h1 h;exact h2 h)]
  rw [hJ,hJ,za1];by_cases h1:e.Version<1
  ·rw [if_pos (W4 h1),if_pos rfl,show jy3 m e=(m,6) from if_pos (.inl h1)]
  ·rw [if_neg (by simpa using h1)];by_cases h2:e.Version=m.roll
   ·rw [show (e.Version != m.roll)=false by simpa using h2,if_neg (show ¬(false=true) by simp),show jy3 m e=_ from if_neg (by rintro (h|h);exact h1 h;exact h h2)];by_cases hb:m.no=true\/(m.yes.length:Int)<m.sv
    ·rw [if_pos hb,if_pos hb]
    ·rw [if_neg hb,if_neg hb]
   ·rw [show (e.Version != m.roll)=true by simpa using h2,if_pos rfl,show jy3 m e=(m,6) from if_pos (.inr h2)]
 rw [if_neg k5,if_neg k5];by_cases k6:e.Kind=6
 ·rw [if_pos k6,if_pos k6];have hJ: ∀c0,jp0 BIG c0 m.sv m.act m.bef m.roll m.no (v6 m).Held (v6 m).Yes e.Term e.Kind e.Version e.Server e.Good e.Data=
    if c0=true then some (((m.sv,(),m.act,m.bef,m.roll,(v6 m).Yes,m.no,()),(v6 m).Held,(),()),((6:Int),())) else
    if e.Version=m.roll then some (((m.sv,(),m.act,m.bef,0,[],false,()),(v6 m).Held,(),()),((0:Int),())) else
    if m.roll≠0/\m.roll=m.bef then some (((m.sv,(),m.bef,0,0,[],false,()),(v6 m).Held,(),()),((0:Int),())) else some (((m.sv,(),m.bef,0,m.roll,(v6 m).Yes,m.no,()),(v6 m).Held,(),()),((0:Int),())):=by
   intro c0;rw [show BIG=999999999+1 from rfl,vs5,vd1,vd1,za1];congr 1;by_cases h1:e.Version=m.roll
   ·rw [if_pos h1,show (e.Version==m.roll)=true by simpa using h1,j7];rfl
   ·rw [if_neg h1,show (e.Version==m.roll)=false by simpa using h1,z6];by_cases h2:m.roll=0
    ·rw [show (m.roll != 0)=false by simpa using h2,z6,if_neg (fun hh=>hh.1 h2)]
    ·rw [show (m.roll != 0)=true by simpa using h2,j7];by_cases h3:m.roll=m.bef
     ·rw [if_pos ⟨h2,h3⟩,show (m.roll==m.bef)=true by simpa using h3,j7];rfl
     ·rw [if_neg (fun hh=>h3 hh.2),show (m.roll==m.bef)=false by simpa using h3,z6]
  have hstop: ∀a b:Int,v6 (yg6 {m with act:=a,bef:=b})=⟨(v6 m).Held,a,b,0,[],false⟩:=fun a b=>rfl;rw [we8,hJ,hJ,hJ,za1,za1];by_cases h1:e.Version<1
  ·rw [if_pos (W4 h1),if_pos rfl,show ji3 m e=(m,6) from if_pos (.inl h1)];rfl
  ·rw [if_neg (by simpa using h1)];by_cases h2:e.Version=m.roll
   ·have hne: ¬e.Version=m.act:=fun ha=>by have:=hi.rn (by omega);omega
    rw [show (e.Version != m.roll)=false by simpa using h2,if_neg (show ¬(false=true) by simp),if_neg (show ¬(false=true) by simp),if_pos h2,show ji3 m e=_ from if_neg (by rintro (h|h);exact h1 h;exact h.1 h2),if_neg hne];rfl
   ·rw [show (e.Version != m.roll)=true by simpa using h2,if_pos rfl];by_cases h3:e.Version=m.act
    ·rw [show (e.Version != m.act)=false by simpa using h3,if_neg (show ¬(false=true) by simp),if_neg h2,show ji3 m e=_ from if_neg (by rintro (h|h);exact h1 h;exact h.2 h3),if_pos h3];by_cases h4:m.roll=m.bef
     ·by_cases h5:m.roll=0
      ·obtain ⟨hy,hn⟩:=hi.rz h5;rw [if_neg (fun hh=>hh.1 h5),if_pos h4];have hY:(v6 m).Yes= []:=by show zi1 (m.yes.map Prod.fst)= [];rw [hy];rfl
       rw [hY,hn,h5];rfl
      ·rw [if_pos ⟨h5,h4⟩,if_pos h4];rfl
     ·rw [if_neg (fun hh=>h4 hh.2),if_neg h4];rfl
    ·rw [show (e.Version != m.act)=true by simpa using h3,if_pos rfl,show ji3 m e=(m,6) from if_pos (.inr ⟨h2,h3⟩)];rfl
 rw [if_neg k6,if_neg k6]
end Go.Y
namespace Go.Y
open Go.RowKit Go.V Go.X Go.Proofs
def qk6 (v:Int): ∀m:List (Int×List Int),zq2 m v=false->zx7 m v= []
 | [],_=>rfl
 |(y,b)::r,h=>by
  rw [zq2] at h;split at h
  ·cases h
  ·rename_i hv;show (if v=y then b else zx7 r v)= [];rw [if_neg hv];exact qk6 v r h
def vo4 (m:Mc) {c:Nat} (h:okM m c) (hc:c<=1000) (u:Int): ∃y,qt BIG (⟨(v6 m).Held,m.act,m.bef,m.roll,(v6 m).Yes,m.no⟩:Registry) u=some y/\decide (y>=0)=zq2 m.held u/\(zq2 m.held u=true->(0<=y/\y<(((v6 m).Held.length:Nat):Int))/\((v6 m).Held.getD y.toNat zt3).Data=zx7 m.held u):=by
 obtain ⟨y,hy,hcase⟩:=vb6 (v6 m) u (by rw [yk0];have:=h.hl;omega);refine ⟨y,hy,?_,fun hk=>?_⟩
 ·rcases hcase with ⟨rfl,hno⟩|⟨i,hi,rfl,hv⟩
  ·cases hk:zq2 m.held u with
   |false=>rfl
   |true=>obtain ⟨x,hx,hxv⟩:=(zz0 m u).2 hk;exact absurd hxv (hno x hx)
  ·rw [(zz0 m u).1 ⟨_,N1 hi,hv⟩,W4 (by omega)]
 ·rcases hcase with ⟨rfl,hno⟩|⟨i,hi,rfl,hv⟩
  ·obtain ⟨x,hx,hxv⟩:=(zz0 m u).2 hk;exact absurd hxv (hno x hx)
  ·refine ⟨⟨by omega,by omega⟩,?_⟩;rw [Y2,show ((i:Nat):Int).toNat=i by omega,Y0 hi];show ((v6 m).Held[i]).Data=_;rw [vg0 m (N1 hi),hv];rfl
section
variable (l:List Entry) (v:Int)
theorem j2 (m:Mc) {c:Nat} (h:okM m c) (hc:c<=1000) (i k:Nat) (hk:k<=10) (u:Int) (n:Nat):
  vy9 (n+1) l v (i:Int) (k:Int) u m.sv m.act m.bef m.roll m.no m.sv m.act m.bef m.roll m.no m.held m.yes (v6 m).Held (v6 m).Yes=jc6 n l v (i:Int) ((k+1:Nat):Int) m.sv m.act m.bef m.roll m.no m.sv m.act m.bef m.roll m.no m.held m.yes (v6 m).Held (v6 m).Yes:=by
 obtain ⟨y,hy,hd,hx⟩:=vo4 m h hc u;have hdl:(zx7 m.held u).length<=6000:=yd5 (P:=fun l=>l.length<=6000) (by simp) _ fun p hp=>h.dl p hp;rw [kj6,wb6 m u h,j6,hy,j6];dsimp only;rw [hd,zb6 (x:=(k:Int)+1) (by omega),show (k:Int)+1=((k+1:Nat):Int) by omega];simp only [beq_self_eq_true,M8,z6];cases hk:zq2 m.held u with
 |true=>
  obtain ⟨h1,h2⟩:=hx hk;rw [j7,if_pos h1,h2,kb1 _ _ (by omega),j6,W4 rfl];simp only [M8,z6]
 |false=>
  rw [qk6 u _ hk];simp [j9]
theorem vo5 (m:Mc) {c:Nat} (h:okM m c) (hc:c<=1000) (i:Nat) (hi:i<l.length) (hl:l.length<=1000) (n:Nat):
  jc6 (n+5) l v (i:Int) 0 m.sv m.act m.bef m.roll m.no m.sv m.act m.bef m.roll m.no m.held m.yes (v6 m).Held (v6 m).Yes=yu1 n l v ((i+1:Nat):Int) m.sv m.act m.bef m.roll m.no m.sv m.act m.bef m.roll m.no m.held m.yes (v6 m).Held (v6 m).Yes:=by
 rw [show n+5=(n+4)+1 from rfl,jm2,W4 (by decide),j7,show ((0:Int)==1)=false from rfl,z6,show (0:Int)=((0:Nat):Int) from rfl,show n+4=(n+3)+1 from rfl,j2 l v m h hc i 0 (by omega) v (n+3),
  show n+3=(n+2)+1 from rfl,jm2,W4 (by decide),j7,show (((0+1:Nat):Int)==1)=true from rfl,j7,if_pos (by omega),show n+2=(n+1)+1 from rfl,j2 l v m h hc i (0+1) (by omega) _ (n+1),
  jm2,W5 (by decide),z6,zb6 (by omega),show (i:Int)+1=((i+1:Nat):Int) by omega]
theorem wr7 (m:Mc) {c:Nat} (h:okM m c) (hc:c<=1000) (n:Nat):
  yu1 (n+1) l v ((l.length:Nat):Int) m.sv m.act m.bef m.roll m.no m.sv m.act m.bef m.roll m.no m.held m.yes (v6 m).Held (v6 m).Yes=some true:=by
 rw [jv7,W5 (by omega),z6,qb1 m h hc,j6];dsimp only;rw [qb1 m h hc,j6];dsimp only;have hlen:(v6 m).Held.length<=1000:=by rw [yk0];exact W7 h.hl hc
 have hyl:(v6 m).Yes.length<=1000:=by rw [yy3];exact W7 h.yl hc
 have hall:(v6 m).Held.all (fun x=>Nat.ble x.Data.length 1073741824)=true:=Y8.2 fun x hx=>W3 (by have:=jt1 m h x hx;omega);have hr:jp4 (v6 m).Held (v6 m).Yes (v6 m).Held (v6 m).Yes=true:=by
  unfold jp4;rw [W3 (by omega),W3 (by omega),hall];rfl
 unfold kz8;rw [hr];rfl
theorem kn3 {i:Nat} (hi:i<l.length):List.take 1 (List.drop i l)= [l[i]]:=by
 rw [V8 hi];rfl
theorem wo0 (m:Mc) {i:Nat} (h:okM m i) (hi:inv m) (hil:i<l.length) (hl:l.length<=100) (hd:(l[i]).Data.length<=6000) (hb:Byt (l[i]).Data) (n:Nat):
  yu1 (n+1) l v (i:Int) m.sv m.act m.bef m.roll m.no m.sv m.act m.bef m.roll m.no m.held m.yes (v6 m).Held (v6 m).Yes=
   jc6 n l v (i:Int) 0 (yb7 m l[i]).1.sv (yb7 m l[i]).1.act (yb7 m l[i]).1.bef (yb7 m l[i]).1.roll (yb7 m l[i]).1.no (yb7 m l[i]).1.sv (yb7 m l[i]).1.act (yb7 m l[i]).1.bef (yb7 m l[i]).1.roll (yb7 m l[i]).1.no (yb7 m l[i]).1.held (yb7 m l[i]).1.yes (v6 (yb7 m l[i]).1).Held (v6 (yb7 m l[i]).1).Yes:=by
 have hm:=h.app hd;have hg:l.getD (i:Int).toNat jd0=l[i]:=by rw [Y2,show (i:Int).toNat=i by omega,Y0 hil];rfl
 have ht:List.take ((IntKind.i64.wrap ((i:Int)+1)).toNat-(i:Int).toNat) (List.drop (i:Int).toNat l)= [l[i]]:=by
  rw [zb6 (by omega),show ((i:Int)+1).toNat-(i:Int).toNat=1 by omega,show (i:Int).toNat=i by omega,kn3 l hil]
 have hw:0<=(i:Int)/\(i:Int)<=IntKind.i64.wrap ((i:Int)+1)/\IntKind.i64.wrap ((i:Int)+1)<=((l.length:Nat):Int):=by rw [zb6 (by omega)];omega
 have ha:=wr0 ((l[i]).Data++marksB) m l[i] (by have:=h.sv;omega) (by omega) (by rw [X9];omega) (by rw [J9];exact R8 rfl);have hr:=wr1 m h (by omega) hi l[i] hd hb;rw [jv7,W4 (by omega),j7,if_pos hw,ht,qh8 _ (by omega),j6];dsimp only;rw [ha,j6];dsimp only;rw [if_pos hw,qh6 _ (by omega),j6];dsimp only;rw [show (!true)=false from rfl,z6,if_pos (by omega),hg,hr,j6];dsimp only;generalize yb7 m l[i]=a at hm;obtain ⟨m',r⟩:=a;dsimp only at hm⊢;rw [show (r != r)=false by simp,z6];obtain ⟨z,hz⟩:=jo5 (l[i]).Data (by omega) (l[i]).Term (l[i]).Kind (l[i]).Version (l[i]).Server (l[i]).Good yi5;rw [hz,j6,gl0 m' hm,j6,gl1,j6];dsimp only;rw [qb1 m' hm (by omega),j6];dsimp only;rw [vu4 _ _ _ _ _ _ (by rw [yk0];have:=hm.hl;omega) (fun x hx=>by have:=jt1 m' hm x hx;omega) (by rw [yy3];have:=hm.yl;omega),j6,yy3];dsimp only;rw [show (!true)=false from rfl,z6];simp only [beq_self_eq_true,M8,z6];rw [gy9 _ (U3 _),j6];rfl
theorem kr4 (hl:l.length<=100) (hd: ∀e∈l,e.Data.length<6000) (hb: ∀e∈l,Byt e.Data): ∀(j i n:Nat) (m:Mc),i+j=l.length->okM m i->inv m->
  yu1 (n+6*j+1) l v (i:Int) m.sv m.act m.bef m.roll m.no m.sv m.act m.bef m.roll m.no m.held m.yes (v6 m).Held (v6 m).Yes=some true
 |0,i,n,m,hj,h,hi=>by
  have:i=l.length:=by omega
  subst this;exact wr7 l v m h (by omega) n
 |j+1,i,n,m,hj,h,hi=>by
  have hil:i<l.length:=by omega
  have he:=N1 hil;have hdi:=hd _ he;rw [show n+6*(j+1)+1=((n+6*j+1)+5)+1 by omega,wo0 l v m h hi hil hl (by omega) (hb _ he),vo5 l v _ (h.app (by omega)) (by omega) i hil (by omega)];exact kr4 hl hd hb j (i+1) n _ (by omega) (h.app (by omega)) (hi.app _)
end
def does_true (s:Int) (l:List Entry) (v:Int) (hb: ∀e∈l,Byt e.Data):qe BIG s l v=some true:=by
 obtain ⟨b,hl,hlb⟩:=ge2 l;rw [ub3,qt8,j6,show (!true)=false from rfl,z6,hl,j6];cases b with
 |false=>rfl
 |true=>
  obtain ⟨h100,hd⟩:=hlb rfl;rw [show (!true)=false from rfl,z6,yl0];dsimp only;cases hs:inB s 7 with
  |false=>
   rw [show (!false)=true from rfl,j7,wh9,yl0,j6,hs];by_cases h1:s<1
   ·rw [W4 h1];rfl
   ·have h7:s>7:=by
     unfold inB at hs;rw [W4 (show (1:Int)<=s by omega),N6,decide_eq_false_iff_not] at hs;omega
    rw [W5 h1,W4 h7];rfl
  |true=>
   obtain ⟨h1,h7⟩:=yk2 (show inB s 7≠false by rw [hs];simp);rw [show (!true)=false from rfl,z6,wg2,yl0,j6,hs,show (!true)=false from rfl,z6,j6];dsimp only;rw [W5 (show ¬s<1 by omega),z6,W5 (show ¬s>7 by omega),z6];have key:=kr4 l v h100 hd hb l.length 0 (999999999-6*l.length) ⟨s,[],0,0,0,[],false⟩ (by omega) ⟨⟨h1,h7⟩,fun p hp=>(by cases hp),fun p hp=>(by cases hp),W6 _,fun p hp=>(by cases hp),W6 _⟩
    ⟨List.nodup_nil,fun p hp=>(by cases hp),List.nodup_nil,fun p hp=>(by cases hp),.inl rfl,.inl rfl,.inl rfl,fun _=>rfl,fun h=>absurd rfl h,fun h=>absurd rfl h,fun _=>⟨rfl,rfl⟩⟩
   rw [show (999999999-6*l.length)+6*l.length+1=BIG by unfold BIG;omega] at key;exact key
def goodEnts {l:List Entry} (h:Go.X.Good TT (.list (.user 0)) l): ∀e∈l,Byt e.Data:=fun e he b hbm=>by
 have h1:=(Go.X.GoodV.listB (T:=TT) (e:=.user 0) (h ⟨.list (.user 0),l⟩ (U1 ..))).2 e he;have h2:=(Go.X.GoodV.listB (T:=TT) (e:=.int .u8) (h1 ⟨.list (.int .u8),e.Data⟩ (Z4 _ (Z4 _ (Z4 _ (Z4 _ (Z4 _ (U1 ..)))))))).2 b hbm;exact Go.X.Good.int (T:=TT) (k:=.u8) h2
end Go.Y
