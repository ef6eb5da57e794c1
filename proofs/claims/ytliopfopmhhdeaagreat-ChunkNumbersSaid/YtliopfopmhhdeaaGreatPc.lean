import Derived.Test.YtliopfopmhhdeaaGreatPb
import Derived.Test.YtliopfopmhhdeaaGreatIc
set_option linter.defProp false
namespace Go.Y
open Go.RowKit Go.V Go.X
def vo5 (k:Nat):Int:=IntKind.u8.wrap (ku6 .u64 (IntKind.u64.wrap ((IntKind.u64.wrap (IntKind.i64.wrap (8000024+(k:Int))))*(11400714819323198485:Int))) (56:Int))
def jg4 (k:Nat):zc0 BIG 1 (k:Int)=some (vo5 k):=by
 rw [zs9,zz5];rfl
def marksB:List Int:=(List.range 12).map vo5
def js5 (l:List Int) (h:l.length<=1000000):qp BIG l=some ((),((l++marksB,0,l.length),())):=by
 rw [gh4,zp9 (by omega),if_pos (by omega),if_pos (by simp;omega)];have:=yq4 (fun n k=>jp9 n l (k:Int) (l++(List.range k).map vo5)) 1 12 (some ((),((l++marksB,0,l.length),()))) (fun n k hk=>?_) (fun n=>?_) BIG (by decide)
 ·simpa using this
 ·show jp9 (n+1) l (k:Int) _=jp9 n l ((k+1:Nat):Int) _;rw [qm7,W6 (by omega),z6,jg4,z7,if_pos (by simp;omega),nx (len:=12) hk (by omega),Q2,List.range_succ,V9];rfl
 ·show jp9 (n+1) l ((12:Nat):Int) _=_;rw [qm7,W7 (by omega),z2,if_pos ⟨by omega,by omega,by rw [X9];omega⟩];simp [marksB]
def js3 (l:List Int) (h:l.length<=1000000):qg BIG (l++marksB) 0 l.length l=some ((l++marksB,()),(true,())):=by
 have hm:marksB.length=12:=rfl;rw [gg6,zp9 (by omega),show (((l.length:Nat):Int) != ((l.length:Nat):Int))=false by simp,z2,if_pos (by rw [X9,hm];omega)];rw [show (((l.length:Nat):Int)+12).toNat-0=l.length+12 by omega];refine yq4 (fun n k=>jh9 n l 0 (l.length+12) (k:Int) (l++marksB)) 2 (l.length+12) _ (fun n k hk=>?_) (fun n=>?_) BIG (by unfold BIG;omega)
 ·show jh9 (n+1+1) l 0 (l.length+12) (k:Int) (l++marksB)=jh9 n l 0 (l.length+12) ((k+1:Nat):Int) (l++marksB);have e: ∀b,jp5 (n+1) l 0 (l.length+12) (k:Int) b (l++marksB)=if b=true then some ((l++marksB,()),(false,())) else jh9 n l 0 (l.length+12) ((k+1:Nat):Int) (l++marksB):=by
   intro b;rw [vy0,nx hk (by omega),ze5]
  have hk2:0+(k:Int).toNat<(l++marksB).length:=by rw [X9,hm];omega
  rw [qm3,W6 (by omega),z6];by_cases hkl:k<l.length
  ·rw [W6 (by omega),z6,if_pos (by omega),if_pos hk2,if_pos (by omega)];have:(l++marksB).getD (0+(k:Int).toNat) 0=l.getD (k:Int).toNat 0:=by
    rw [U0,Y2,Y2,X8 (by omega)]
   rw [this];simp only [beq_self_eq_true,U5,z2];rw [W7 (by omega),z2,e,if_neg (by simp)]
  ·rw [W7 (by omega),z2,W6 (by omega),z6,if_pos (by omega),if_pos hk2,zp9 (by omega),show ((k:Int)-(l.length:Int))=((k-l.length:Nat):Int) by omega,jg4,z7];have:(l++marksB).getD (0+(k:Int).toNat) 0=vo5 (k-l.length):=by
    rw [U0,Y2,Z2 (by omega),show (k:Int).toNat=k by omega];unfold marksB;rw [W4,List.getElem?_range (by omega)];rfl
   rw [this];simp only [beq_self_eq_true,U5];rw [e,if_neg (by simp)]
 ·show jh9 (n+1) l 0 (l.length+12) ((l.length+12:Nat):Int) (l++marksB)=_;rw [qm3,W7 (by omega),z2]
def vl7 (a:List Int) (h:a.length<=400000000):qh BIG a a=some true:=by
 rw [kt4];rw [show (((a.length:Nat):Int) != ((a.length:Nat):Int))=false by simp,z2];refine yq4 (fun n k=>yr2 n a a (k:Int)) 1 a.length _ (fun n k hk=>?_) (fun n=>?_) BIG (by unfold BIG;omega)
 ·show yr2 (n+1) a a (k:Int)=yr2 n a a ((k+1:Nat):Int);rw [yv3,W6 (by omega),z6,if_pos (by omega),if_pos (by omega),nx hk (by omega)];simp [z2]
 ·show yr2 (n+1) a a ((a.length:Nat):Int)=some true;rw [yv3,W7 (by omega),z2]
def ya5 (b:List Int) (k:Nat):List Int:=List.take 1024 (List.drop (k*1024) b)
def nP (b:List Int):Nat:=(b.length+1023)/1024
def jq9 (b:List Int):List Row8:=(List.range (nP b)).map fun k=>⟨ya5 b k⟩
def yz3 (b:List Int) (k:Nat):(ya5 b k).length<=1024:=by unfold ya5;rw [Y6];omega
def vk6 {b:List Int} {k:Nat} (h:k<nP b):1<=(ya5 b k).length:=by unfold ya5;unfold nP at h;rw [Y6,Q7];omega
def vw6 {b:List Int} {k:Nat} (h:k<nP b):ya5 b k≠ []:=fun e=>by have:=vk6 h;rw [e] at this;simp at this
def qp0 (b:List Int) (hb:b.length<=50000): ∀(m k:Nat) (r:List Row8),k+m=nP b->r.length=k->jp8 m k b 1024 r=some ((),(r++(List.range' k m).map (fun k=>(⟨ya5 b k⟩:Row8)),()))
 |0,k,r,hk,hr=>by
  have hc:(decide ((1024:Int)=1024)&&(Nat.beq ((b.length+1023)/1024) k&&Nat.ble b.length 1099511627776))=true:=by
   rw [X3,X3];refine ⟨by decide,?_,W5 (by omega)⟩;unfold nP at hk;rw [<-hk,J6];exact J2 k
  rw [qu3,hc,z6];simp
 |m+1,k,r,hk,hr=>by
  have hc:(decide ((1024:Int)=1024)&&(Nat.beq ((b.length+1023)/1024) (k+(m+1))&&Nat.ble b.length 1099511627776))=true:=by
   rw [X3,X3];refine ⟨by decide,?_,W5 (by omega)⟩;unfold nP at hk;rw [<-hk];exact J2 _
  have hn:nP b<=49:=by unfold nP;omega
  rw [qu2,hc,z6];show (j5 (ql BIG (ya5 b k)) fun y1=>_)=_;rw [zt7 (vw6 (by omega)) (yz3 b k),z7,if_pos (by simp;omega),qp0 b hb m (k+1) _ (by omega) (by simp [hr])];rw [List.range'_succ,U1,Q2];rfl
def kq7 (b:List Int) (hb:b.length<=50000):qo b=some ((),(jq9 b,())):=by
 have hc:(decide ((1024:Int)=1024)&&Nat.ble b.length 1099511627776)=true:=by
  rw [X3];exact ⟨by decide,W5 (by omega)⟩
 rw [gh3,ga2];show (match z8 (decide ((1024:Int)=1024)&&Nat.ble b.length 1099511627776) (some ((b.length+1023)/1024)) none with
  |some N=>jp8 N 0 b 1024 ([]:List Row8)
  |none=>none)=_
 rw [hc,z6];show jp8 (nP b) 0 b 1024 []=_;rw [qp0 b hb (nP b) 0 [] (by omega) rfl];unfold jq9;rw [List.range_eq_range',M2]
def jw3 (b:List Int):(jq9 b).length=nP b:=by unfold jq9;simp
def vy3 (b:List Int) (hb:b.length<=50000):qs BIG b=some ((),(jq9 b,())):=by
 rw [gh8];have hn:nP b<=49:=by unfold nP;omega
 have:=yq4 (fun n k=>jq2 n b ((k*1024:Nat):Int) ((List.range k).map fun k=>(⟨ya5 b k⟩:Row8))) 1 (nP b) (some ((),(jq9 b,()))) (fun n k hk=>?_) (fun n=>?_) BIG (by unfold BIG;omega)
 ·rw [show ((0*1024:Nat):Int)=0 from rfl] at this;exact this
 ·show jq2 (n+1) b ((k*1024:Nat):Int) _=jq2 n b (((k+1)*1024:Nat):Int) _;have hk':k*1024<b.length:=by unfold nP at hk;omega
  have hw:IntKind.i64.wrap (((k*1024:Nat):Int)+1024)=(((k+1)*1024:Nat):Int):=by rw [zp9 (by omega)];omega
  rw [qn0,W6 (by omega),z6,hw];have hg:yp7 (((k+1)*1024:Nat):Int) ((b.length:Nat):Int)=((min ((k+1)*1024) b.length:Nat):Int):=by unfold yp7;split<;>omega
  have hp:List.take ((((min ((k+1)*1024) b.length:Nat):Int)).toNat-((k*1024:Nat):Int).toNat) (List.drop ((k*1024:Nat):Int).toNat b)=ya5 b k:=by
   unfold ya5;rw [Z1,Z1];have hl:(List.drop (k*1024) b).length=b.length-k*1024:=Q7;by_cases h:(k+1)*1024<=b.length
   ·rw [V6 h,show (k+1)*1024-k*1024=1024 by omega]
   ·rw [Nat.min_eq_right (by omega),Q4 (by omega),Q4 (by omega)]
  rw [hg,hp,M2,if_pos (by omega),if_pos (by have:=yz3 b k;omega),if_pos (by simp;omega),List.range_succ,V9];rfl
 ·show jq2 (n+1) b ((nP b*1024:Nat):Int) _=_;rw [qn0,W7 (by unfold nP;omega),z2];rfl
def vz2 (l:List Row8) (hl:l.length<=100000) (hb: ∀x∈l,x.l.length<=400000000):qr BIG l l=some ((l,l,()),(true,())):=by
 rw [gh6,show (((l.length:Nat):Int) != ((l.length:Nat):Int))=false by simp,z2];refine yq4 (fun n k=>jq1 n (k:Int) l l) 1 l.length _ (fun n k hk=>?_) (fun n=>?_) BIG (by unfold BIG;omega)
 ·show jq1 (n+1) (k:Int) l l=jq1 n ((k+1:Nat):Int) l l;have hg:l.getD k zz0=l[k]:=by rw [Y2,Y0 hk];rfl
  have hs:l.set k (l.getD k zz0)=l:=by rw [hg];exact N8 hk
  rw [qm9,W6 (by omega),z6,Z1,if_pos (by omega),if_pos hk,if_pos (by omega),if_pos hk,vl7 _ (by rw [hg];exact hb _ (List.getElem_mem hk)),z7,hs,nx hk (by omega)];rfl
 ·show jq1 (n+1) ((l.length:Nat):Int) l l=_;rw [qm9,W7 (by omega),z2]
def gj2 (l:List Row8) (hl:l.length<=1048576) (hb: ∀x∈l,x.l.length<=1073741824):ki5 l=some (((),()),(true,())):=by
 unfold ki5;have:zr5 (fun y:Row8=>List.length y.l) l=true:=by
  unfold zr5;rw [X3,Y8];exact ⟨W5 hl,fun x hx=>W5 (hb x hx)⟩
 rw [this]
def qz2 {b:List Int} {x:Row8} (h:x∈jq9 b):x.l.length<=1024:=by
 unfold jq9 at h;obtain ⟨k,_,rfl⟩:=U2.1 h;exact yz3 b k
def zv8 (b:List Int):qac BIG b=some true:=by
 rw [ky4,yf4,z7];by_cases hb:50000<b.length
 ·rw [W6 (by omega),z6]
 ·have hb:b.length<=50000:=by omega
  have hm:marksB.length=12:=rfl;have hn:nP b<=49:=by unfold nP;omega
  have hk:=js3 b (by omega);have ht:List.take b.length (List.drop 0 (b++marksB))=b:=by rw [N0];exact List.take_left' rfl
  rw [W7 (by omega),z2,js5 b (by omega),z7]
  try dsimp only
  rw [if_pos (by rw [X9];omega),ht,kq7 b hb];rw [Z8];rw [z7,vy3 b hb,z7]
  try dsimp only
  rw [vz2 _ (by rw [jw3];omega) (fun x hx=>by have:=qz2 hx;omega),z7]
  try dsimp only
  have h1:0+b.length<=(b++marksB).length:=by rw [X9];omega
  have h2:((jq9 b).length+(jq9 b).length)*24<=140737488355328:=by rw [jw3];omega
  have h3:=gj2 (jq9 b++jq9 b) (by rw [X9,jw3];omega) (fun x hx=>by have:=qz2 ((X4.1 hx).elim id id);omega);simp only [z6,hk,z7,h1,h2,h3,ht,kq7 b hb,Z8,if_true]
end Go.Y
