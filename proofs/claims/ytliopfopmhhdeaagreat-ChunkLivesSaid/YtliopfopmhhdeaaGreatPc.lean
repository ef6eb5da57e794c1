import Derived.Test.YtliopfopmhhdeaaGreatPb
import Derived.Test.YtliopfopmhhdeaaGreatIc
set_option linter.defProp false
namespace Go.Y
open Go.RowKit Go.V Go.X
def vl0 (k:Nat):Int:=IntKind.u8.wrap (ko1 .u64 (IntKind.u64.wrap ((IntKind.u64.wrap (IntKind.i64.wrap (8000024+(k:Int))))*(11400714819323198485:Int))) (56:Int))
def je4 (k:Nat):zb6 BIG 1 (k:Int)=some (vl0 k):=by
 rw [zs1,zy6];rfl
def marksB:List Int:=(List.range 12).map vl0
def ve9 (l:List Int) (h:l.length<=1000000):qo BIG l=some ((),((l++marksB,0,l.length),())):=by
 rw [ga1,yh0 (by omega),if_pos (by omega),if_pos (by simp;omega)];have:=je1 (fun n k=>jn7 n l (k:Int) (l++(List.range k).map vl0)) 1 12 (some ((),((l++marksB,0,l.length),()))) (fun n k hk=>?_) (fun n=>?_) BIG (by decide)
 ·simpa using this
 ·show jn7 (n+1) l (k:Int) _=jn7 n l ((k+1:Nat):Int) _;rw [qj1,W6 (by omega),z2,je4,z6,if_pos (by simp;omega),nx (len:=12) hk (by omega),Q2,List.range_succ,J0];rfl
 ·show jn7 (n+1) l ((12:Nat):Int) _=_;rw [qj1,W7 (by omega),z1,if_pos ⟨by omega,by omega,by rw [X9];omega⟩];simp [marksB]
def ve4 (l:List Int) (h:l.length<=1000000):qf BIG (l++marksB) 0 l.length l=some ((l++marksB,()),(true,())):=by
 have hm:marksB.length=12:=rfl;rw [kz1,yh0 (by omega),show (((l.length:Nat):Int) != ((l.length:Nat):Int))=false by simp,z1,if_pos (by rw [X9,hm];omega)];rw [show (((l.length:Nat):Int)+12).toNat-0=l.length+12 by omega];refine je1 (fun n k=>jg0 n l 0 (l.length+12) (k:Int) (l++marksB)) 2 (l.length+12) _ (fun n k hk=>?_) (fun n=>?_) BIG (by unfold BIG;omega)
 ·show jg0 (n+1+1) l 0 (l.length+12) (k:Int) (l++marksB)=jg0 n l 0 (l.length+12) ((k+1:Nat):Int) (l++marksB);have e: ∀b,jn2 (n+1) l 0 (l.length+12) (k:Int) b (l++marksB)=if b=true then some ((l++marksB,()),(false,())) else jg0 n l 0 (l.length+12) ((k+1:Nat):Int) (l++marksB):=by
   intro b;rw [vt6,nx hk (by omega),zd2]
  have hk2:0+(k:Int).toNat<(l++marksB).length:=by rw [X9,hm];omega
  rw [qi5,W6 (by omega),z2];by_cases hkl:k<l.length
  ·rw [W6 (by omega),z2,if_pos (by omega),if_pos hk2,if_pos (by omega)];have:(l++marksB).getD (0+(k:Int).toNat) 0=l.getD (k:Int).toNat 0:=by
    rw [U0,Y2,Y2,X8 (by omega)]
   rw [this];simp only [beq_self_eq_true,U6,z1];rw [W7 (by omega),z1,e,if_neg (by simp)]
  ·rw [W7 (by omega),z1,W6 (by omega),z2,if_pos (by omega),if_pos hk2,yh0 (by omega),show ((k:Int)-(l.length:Int))=((k-l.length:Nat):Int) by omega,je4,z6];have:(l++marksB).getD (0+(k:Int).toNat) 0=vl0 (k-l.length):=by
    rw [U0,Y2,Z2 (by omega),show (k:Int).toNat=k by omega];unfold marksB;rw [W4,List.getElem?_range (by omega)];rfl
   rw [this];simp only [beq_self_eq_true,U6];rw [e,if_neg (by simp)]
 ·show jg0 (n+1) l 0 (l.length+12) ((l.length+12:Nat):Int) (l++marksB)=_;rw [qi5,W7 (by omega),z1]
def ge2 (l:List Row8) (hl:l.length<=1048576) (hb: ∀x∈l,x.l.length<=1073741824):kj5 l=some (((),()),(true,())):=by
 unfold kj5;have:zq3 (fun y:Row8=>List.length y.l) l=true:=by
  unfold zq3;rw [X3,Y8];exact ⟨W5 hl,fun x hx=>W5 (hb x hx)⟩
 rw [this]
end Go.Y
