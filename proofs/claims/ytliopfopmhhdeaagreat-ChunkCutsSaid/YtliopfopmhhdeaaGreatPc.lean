import Derived.Test.YtliopfopmhhdeaaGreatPb
import Derived.Test.YtliopfopmhhdeaaGreatIc
set_option linter.defProp false
namespace Go.Y
open Go.RowKit Go.V Go.X
def qz7 (k:Nat):Int:=IntKind.u8.wrap (kb4 .u64 (IntKind.u64.wrap ((IntKind.u64.wrap (IntKind.i64.wrap (8000024+(k:Int))))*(11400714819323198485:Int))) (56:Int))
def yz7 (k:Nat):zc5 BIG 1 (k:Int)=some (qz7 k):=by
 rw [yc1,yu4];rfl
def marksB:List Int:=(List.range 12).map qz7
def qu1 (l:List Int) (h:l.length<=1000000):qe BIG l=some ((),((l++marksB,0,l.length),())):=by
 rw [kk0,yw8 (by omega),if_pos (by omega),if_pos (by simp;omega)];have:=qg0 (fun n k=>ji3 n l (k:Int) (l++(List.range k).map qz7)) 1 12 (some ((),((l++marksB,0,l.length),()))) (fun n k hk=>?_) (fun n=>?_) BIG (by decide)
 ·simpa using this
 ·show ji3 (n+1) l (k:Int) _=ji3 n l ((k+1:Nat):Int) _;rw [qa0,W6 (by omega),v6,yz7,j7,if_pos (by simp;omega),nx (len:=12) hk (by omega),Q2,List.range_succ,V9];rfl
 ·show ji3 (n+1) l ((12:Nat):Int) _=_;rw [qa0,W7 (by omega),z2,if_pos ⟨by omega,by omega,by rw [X9];omega⟩];simp [marksB]
def qt6 (l:List Int) (h:l.length<=1000000):qb BIG (l++marksB) 0 l.length l=some ((l++marksB,()),(true,())):=by
 have hm:marksB.length=12:=rfl;rw [kj7,yw8 (by omega),show (((l.length:Nat):Int) != ((l.length:Nat):Int))=false by simp,z2,if_pos (by rw [X9,hm];omega)];rw [show (((l.length:Nat):Int)+12).toNat-0=l.length+12 by omega];refine qg0 (fun n k=>ja9 n l 0 (l.length+12) (k:Int) (l++marksB)) 2 (l.length+12) _ (fun n k hk=>?_) (fun n=>?_) BIG (by unfold BIG;omega)
 ·show ja9 (n+1+1) l 0 (l.length+12) (k:Int) (l++marksB)=ja9 n l 0 (l.length+12) ((k+1:Nat):Int) (l++marksB);have e: ∀b,ji1 (n+1) l 0 (l.length+12) (k:Int) b (l++marksB)=if b=true then some ((l++marksB,()),(false,())) else ja9 n l 0 (l.length+12) ((k+1:Nat):Int) (l++marksB):=by
   intro b;rw [vh2,nx hk (by omega),zv4]
  have hk2:0+(k:Int).toNat<(l++marksB).length:=by rw [X9,hm];omega
  rw [jz9,W6 (by omega),v6];by_cases hkl:k<l.length
  ·rw [W6 (by omega),v6,if_pos (by omega),if_pos hk2,if_pos (by omega)];have:(l++marksB).getD (0+(k:Int).toNat) 0=l.getD (k:Int).toNat 0:=by
    rw [U0,Y2,Y2,X8 (by omega)]
   rw [this];simp only [beq_self_eq_true,J3,z2];rw [W7 (by omega),z2,e,if_neg (by simp)]
  ·rw [W7 (by omega),z2,W6 (by omega),v6,if_pos (by omega),if_pos hk2,yw8 (by omega),show ((k:Int)-(l.length:Int))=((k-l.length:Nat):Int) by omega,yz7,j7];have:(l++marksB).getD (0+(k:Int).toNat) 0=qz7 (k-l.length):=by
    rw [U0,Y2,Z2 (by omega),show (k:Int).toNat=k by omega];unfold marksB;rw [W4,List.getElem?_range (by omega)];rfl
   rw [this];simp only [beq_self_eq_true,J3];rw [e,if_neg (by simp)]
 ·show ja9 (n+1) l 0 (l.length+12) ((l.length+12:Nat):Int) (l++marksB)=_;rw [jz9,W7 (by omega),z2]
def qw8 (a:List Int) (h:a.length<=400000000):qf BIG a a=some true:=by
 rw [kk2];rw [show (((a.length:Nat):Int) != ((a.length:Nat):Int))=false by simp,z2];refine qg0 (fun n k=>ji4 n a a (k:Int)) 1 a.length _ (fun n k hk=>?_) (fun n=>?_) BIG (by unfold BIG;omega)
 ·show ji4 (n+1) a a (k:Int)=ji4 n a a ((k+1:Nat):Int);rw [qa1,W6 (by omega),v6,if_pos (by omega),if_pos (by omega),nx hk (by omega)];simp [z2]
 ·show ji4 (n+1) a a ((a.length:Nat):Int)=some true;rw [qa1,W7 (by omega),z2]
def zw9 (b:List Int) (k:Nat):List Int:=List.take 1024 (List.drop (k*1024) b)
def nP (b:List Int):Nat:=(b.length+1023)/1024
def jj3 (b:List Int):List Row8:=(List.range (nP b)).map fun k=>⟨zw9 b k⟩
def ys8 (b:List Int) (k:Nat):(zw9 b k).length<=1024:=by unfold zw9;rw [Y6];omega
def qv8 {b:List Int} {k:Nat} (h:k<nP b):1<=(zw9 b k).length:=by unfold zw9;unfold nP at h;rw [Y6,Q7];omega
def vg9 {b:List Int} {k:Nat} (h:k<nP b):zw9 b k≠ []:=fun e=>by have:=qv8 h;rw [e] at this;simp at this
def qc2 (b:List Int) (hb:b.length<=50000): ∀(m k:Nat) (r:List Row8),k+m=nP b->r.length=k->ji2 m k b 1024 r=some ((),(r++(List.range' k m).map (fun k=>(⟨zw9 b k⟩:Row8)),()))
 |0,k,r,hk,hr=>by
  have hc:(decide ((1024:Int)=1024)&&(Nat.beq ((b.length+1023)/1024) k&&Nat.ble b.length 1099511627776))=true:=by
   rw [X3,X3];refine ⟨by decide,?_,W5 (by omega)⟩;unfold nP at hk;rw [<-hk,J4];exact J1 k
  rw [qh3,hc,v6];simp
 |m+1,k,r,hk,hr=>by
  have hc:(decide ((1024:Int)=1024)&&(Nat.beq ((b.length+1023)/1024) (k+(m+1))&&Nat.ble b.length 1099511627776))=true:=by
   rw [X3,X3];refine ⟨by decide,?_,W5 (by omega)⟩;unfold nP at hk;rw [<-hk];exact J1 _
  have hn:nP b<=49:=by unfold nP;omega
  rw [qh2,hc,v6];show (j8 (qi BIG (zw9 b k)) fun y1=>_)=_;rw [yd2 (vg9 (by omega)) (ys8 b k),j7,if_pos (by simp;omega),qc2 b hb m (k+1) _ (by omega) (by simp [hr])];rw [List.range'_succ,U1,Q2];rfl
def vy1 (b:List Int) (hb:b.length<=50000):qd b=some ((),(jj3 b,())):=by
 have hc:(decide ((1024:Int)=1024)&&Nat.ble b.length 1099511627776)=true:=by
  rw [X3];exact ⟨by decide,W5 (by omega)⟩
 rw [kj9,kn0];show (match j6 (decide ((1024:Int)=1024)&&Nat.ble b.length 1099511627776) (some ((b.length+1023)/1024)) none with
  |some N=>ji2 N 0 b 1024 ([]:List Row8)
  |none=>none)=_
 rw [hc,v6];show ji2 (nP b) 0 b 1024 []=_;rw [qc2 b hb (nP b) 0 [] (by omega) rfl];unfold jj3;rw [List.range_eq_range',N1]
def jo2 (b:List Int):(jj3 b).length=nP b:=by unfold jj3;simp
def vh4 (b:List Int) (hb:b.length<=50000):qh BIG b=some ((),(jj3 b,())):=by
 rw [kk6];have hn:nP b<=49:=by unfold nP;omega
 have:=qg0 (fun n k=>ji6 n b ((k*1024:Nat):Int) ((List.range k).map fun k=>(⟨zw9 b k⟩:Row8))) 1 (nP b) (some ((),(jj3 b,()))) (fun n k hk=>?_) (fun n=>?_) BIG (by unfold BIG;omega)
 ·rw [show ((0*1024:Nat):Int)=0 from rfl] at this;exact this
 ·show ji6 (n+1) b ((k*1024:Nat):Int) _=ji6 n b (((k+1)*1024:Nat):Int) _;have hk':k*1024<b.length:=by unfold nP at hk;omega
  have hw:IntKind.i64.wrap (((k*1024:Nat):Int)+1024)=(((k+1)*1024:Nat):Int):=by rw [yw8 (by omega)];omega
  rw [qa3,W6 (by omega),v6,hw];have hg:qe9 (((k+1)*1024:Nat):Int) ((b.length:Nat):Int)=((min ((k+1)*1024) b.length:Nat):Int):=by unfold qe9;split<;>omega
  have hp:List.take ((((min ((k+1)*1024) b.length:Nat):Int)).toNat-((k*1024:Nat):Int).toNat) (List.drop ((k*1024:Nat):Int).toNat b)=zw9 b k:=by
   unfold zw9;rw [Z1,Z1];have hl:(List.drop (k*1024) b).length=b.length-k*1024:=Q7;by_cases h:(k+1)*1024<=b.length
   ·rw [V5 h,show (k+1)*1024-k*1024=1024 by omega]
   ·rw [Nat.min_eq_right (by omega),Q4 (by omega),Q4 (by omega)]
  rw [hg,hp,N1,if_pos (by omega),if_pos (by have:=ys8 b k;omega),if_pos (by simp;omega),List.range_succ,V9];rfl
 ·show ji6 (n+1) b ((nP b*1024:Nat):Int) _=_;rw [qa3,W7 (by unfold nP;omega),z2];rfl
def vi2 (l:List Row8) (hl:l.length<=100000) (hb: ∀x∈l,x.l.length<=400000000):qg BIG l l=some ((l,l,()),(true,())):=by
 rw [kk4,show (((l.length:Nat):Int) != ((l.length:Nat):Int))=false by simp,z2];refine qg0 (fun n k=>ji5 n (k:Int) l l) 1 l.length _ (fun n k hk=>?_) (fun n=>?_) BIG (by unfold BIG;omega)
 ·show ji5 (n+1) (k:Int) l l=ji5 n ((k+1:Nat):Int) l l;have hg:l.getD k yd8=l[k]:=by rw [Y2,Y0 hk];rfl
  have hs:l.set k (l.getD k yd8)=l:=by rw [hg];exact N5 hk
  rw [qa2,W6 (by omega),v6,Z1,if_pos (by omega),if_pos hk,if_pos (by omega),if_pos hk,qw8 _ (by rw [hg];exact hb _ (List.getElem_mem hk)),j7,hs,nx hk (by omega)];rfl
 ·show ji5 (n+1) ((l.length:Nat):Int) l l=_;rw [qa2,W7 (by omega),z2]
def kp7 (l:List Row8) (hl:l.length<=1048576) (hb: ∀x∈l,x.l.length<=1073741824):vx2 l=some (((),()),(true,())):=by
 unfold vx2;have:yi5 (fun y:Row8=>List.length y.l) l=true:=by
  unfold yi5;rw [X3,Y8];exact ⟨W5 hl,fun x hx=>W5 (hb x hx)⟩
 rw [this]
def ql7 {b:List Int} {x:Row8} (h:x∈jj3 b):x.l.length<=1024:=by
 unfold jj3 at h;obtain ⟨k,_,rfl⟩:=U2.1 h;exact ys8 b k
def chunkCuts_true (b:List Int):qy BIG b=some true:=by
 rw [kn2,qd5,j7];by_cases hb:50000<b.length
 ·rw [W6 (by omega),v6]
 ·have hb:b.length<=50000:=by omega
  have hm:marksB.length=12:=rfl;have hn:nP b<=49:=by unfold nP;omega
  have hk:=qt6 b (by omega);have ht:List.take b.length (List.drop 0 (b++marksB))=b:=by rw [N2];exact List.take_left' rfl
  rw [W7 (by omega),z2,qu1 b (by omega),j7]
  try dsimp only
  rw [if_pos (by rw [X9];omega),ht,vy1 b hb];rw [Z8];rw [j7,vh4 b hb,j7]
  try dsimp only
  rw [vi2 _ (by rw [jo2];omega) (fun x hx=>by have:=ql7 hx;omega),j7]
  try dsimp only
  have h1:0+b.length<=(b++marksB).length:=by rw [X9];omega
  have h2:((jj3 b).length+(jj3 b).length)*24<=140737488355328:=by rw [jo2];omega
  have h3:=kp7 (jj3 b++jj3 b) (by rw [X9,jo2];omega) (fun x hx=>by have:=ql7 ((X4.1 hx).elim id id);omega);simp only [v6,hk,j7,h1,h2,h3,ht,vy1 b hb,Z8,if_true]
end Go.Y
