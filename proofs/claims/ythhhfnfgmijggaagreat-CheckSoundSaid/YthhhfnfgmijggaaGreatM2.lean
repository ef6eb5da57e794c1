import Derived.Test.YthhhfnfgmijggaaGreatIb
import Derived.Test.YthhhfnfgmijggaaGreatM1
import Derived.Test.YthhhfnfgmijggaaGreatIa
import Derived.Test.YthhhfnfgmijggaaGreatIc
set_option linter.defProp false
namespace Go.Y
open Go.RowKit Go.V Go.X Go.Proofs
def zp5 (x:Int):Prop:=x=1\/x=2\/x=4\/x=8
instance (x:Int):Decidable (zp5 x):=by unfold zp5;infer_instance
def zg7 (b:List Bool) (at_ sz:Int):Int:=if b.length≠512\/ ¬zp5 sz then 2 else if at_< -512\/at_> -sz then 112 else 0
def yy9 (b:List Bool) (p:Nat):Nat->List Bool
 |0=>b
 |k+1=>(yy9 b p k).set (p+k) true
def jd6 (b p): ∀k,(yy9 b p k).length=b.length
 |0=>rfl
 |k+1=>by rw [yy9,Q3,jd6 b p k]
def ja1 {b at_ sz} (h:zg7 b at_ sz=0):b.length=512/\zp5 sz/\ -512<=at_/\at_<= -sz:=by
 unfold zg7 at h;split at h
 ·cases h
 ·rename_i a;split at h
  ·cases h
  ·rename_i d;exact ⟨by omega,Classical.not_not.1 fun c=>a (.inr c),by omega,by omega⟩
def yv6 (b:List Bool) (at_ sz:Int):List Bool×Int:=if zg7 b at_ sz=0 then (yy9 b (at_+512).toNat sz.toNat,0) else ([],zg7 b at_ sz)
def qj0 (b:List Bool) (p m:Nat) (k:Nat):Bool:=(List.range' k (m-k)).all fun i=>b.getD (p+i) false
def vz8 (b p m k) (h:k<m):qj0 b p m k=(b.getD (p+k) false&&qj0 b p m (k+1)):=by
 unfold qj0;obtain ⟨d,a⟩: ∃d,m-k=d+1:=⟨m-k-1,by omega⟩;rw [a,List.range'_succ,V1,show m-(k+1)=d by omega]
def kt6 (b p m):qj0 b p m m=true:=by unfold qj0;simp
def vk1 (b:List Bool) (at_ sz:Int):Int:=if zg7 b at_ sz=0 then (if qj0 b (at_+512).toNat sz.toNat 0=true then 0 else 110) else zg7 b at_ sz
def yf1 (a b r:List Bool):Nat->List Bool
 |0=>r
 |k+1=>(yf1 a b r k).set k (a.getD k false&&b.getD k false)
def je1 (a b r): ∀k,(yf1 a b r k).length=r.length
 |0=>rfl
 |k+1=>by rw [yf1,Q3,je1 a b r k]
def yn3 (a b r j): ∀k,(yf1 a b r k)[j]?=if j<k/\j<r.length then some (a.getD j false&&b.getD j false) else r[j]?
 |0=>by simp [yf1]
 |k+1=>by
  rw [yf1,List.getElem?_set,yn3 a b r j k,je1];by_cases d:k=j
  ·subst d;simp only [Nat.lt_irrefl,false_and,if_false,true_and,if_true];by_cases c:k<r.length
   ·rw [if_pos c,if_pos ⟨by omega,c⟩]
   ·rw [if_neg c,if_neg (fun h=>c h.2),Y5 (by omega)]
  ·rw [if_neg d];by_cases c:j<k/\j<r.length
   ·rw [if_pos c,if_pos ⟨by omega,c.2⟩]
   ·rw [if_neg c,if_neg (fun h=>c ⟨by omega,h.2⟩)]
def qa1 (a b:List Bool):List Bool:=if a.length=512/\b.length=512 then yf1 a b (List.replicate 512 false) 512 else []
def qo3 (b) (h:b.length=512):qcm v3 b=some ((),.inl (b,())):=by
 rw [go5,show (((b.length:Nat):Int) != 512)=false by simp [h],z8,if_pos (by omega)]
def kn2 (b) (h: ¬b.length=512):qcm v3 b=some ((),.inr (2,())):=by
 rw [go5,show (((b.length:Nat):Int) != 512)=true by simp only [bne_iff_ne,ne_eq];omega,j4]
def qr8 (x:Int):Bool:=decide (zp5 x)
def wp9 {R} (x:Int) (f:Bool->Option R):z9 (x==1) (f (x==1)) (z9 (x==2) (f (x==2)) (z9 (x==4) (f (x==4)) (f (x==8))))=f (qr8 x):=by
 by_cases a:x=1
 ·subst a;rfl
 by_cases b:x=2
 ·subst b;rfl
 by_cases c:x=4
 ·subst c;rfl
 by_cases d:x=8
 ·subst d;rfl
 have e:qr8 x=false:=W7 (by unfold zp5;omega);rw [show (x==1)=false by simpa using a,show (x==2)=false by simpa using b,show (x==4)=false by simpa using c,show (x==8)=false by simpa using d,e];rfl
def zam7 (b:List Bool) (hl:b.length=512) (at_ sz:Int):qm v3 b at_ sz=some (((b,()),()),if zg7 b at_ sz=0 then .inl (((at_+512).toNat,sz.toNat),()) else .inr (zg7 b at_ sz,())):=by
 obtain ⟨n,e⟩: ∃n:Nat,(v3:Nat)=n+1+1+1+1:=⟨999999996,rfl⟩;rw [zap4,wp9 sz (fun c=>qr2 v3 at_ sz c b),e,gc8];unfold zg7 qr8;by_cases hs:zp5 sz
 ·rw [W6 hs,j4,gc7,if_neg (c:=b.length≠512\/ ¬zp5 sz) (fun h=>h.elim (fun h=>h hl) (fun h=>h hs))];have hs':=hs;unfold zp5 at hs';rw [za1 (x:=0-sz) (by omega),Int.zero_sub];by_cases h1:at_< -512
  ·rw [W6 h1,j4,ju9,j4,if_pos (c:=at_< -512\/at_> -sz) (.inl h1),if_neg (by decide)]
  ·by_cases h2:at_> -sz
   ·rw [W7 h1,z8,ju9,W6 h2,j4,if_pos (c:=at_< -512\/at_> -sz) (.inr h2),if_neg (by decide)]
   ·rw [W7 h1,z8,ju9,W7 h2,z8,if_neg (c:=at_< -512\/at_> -sz) (fun h=>h.elim h1 h2),if_pos rfl,gc9,za1 (x:=512+at_) (by omega),if_pos (by omega),if_pos (by omega),Int.add_comm 512 at_,J5,M1]
 ·rw [W7 hs,z8,if_pos (c:=b.length≠512\/ ¬zp5 sz) (.inr hs),if_neg (by decide)]
def zam8 (b:List Bool) (hl:b.length=512) (at_ sz:Int):ql v3 b at_ sz=some ((),if zg7 b at_ sz=0 then .inl (List.take sz.toNat (List.drop (at_+512).toNat b),()) else .inr (zg7 b at_ sz,())):=by
 obtain ⟨n,e⟩: ∃n:Nat,(v3:Nat)=n+1+1+1+1:=⟨999999996,rfl⟩;rw [zap3,wp9 sz (fun c=>qr1 v3 b at_ sz c),e,gc5];unfold zg7 qr8;by_cases hs:zp5 sz
 ·rw [W6 hs,j4,gc4,if_neg (c:=b.length≠512\/ ¬zp5 sz) (fun h=>h.elim (fun h=>h hl) (fun h=>h hs))];have hs':=hs;unfold zp5 at hs';rw [za1 (x:=0-sz) (by omega),Int.zero_sub];by_cases h1:at_< -512
  ·rw [W6 h1,j4,ju8,j4,if_pos (c:=at_< -512\/at_> -sz) (.inl h1),if_neg (by decide)]
  ·by_cases h2:at_> -sz
   ·rw [W7 h1,z8,ju8,W6 h2,j4,if_pos (c:=at_< -512\/at_> -sz) (.inr h2),if_neg (by decide)]
   ·rw [W7 h1,z8,ju8,W7 h2,z8,if_neg (c:=at_< -512\/at_> -sz) (fun h=>h.elim h1 h2),if_pos rfl,gc6,za1 (x:=512+at_) (by omega),if_pos (by omega),if_pos (by omega),Int.add_comm 512 at_,N3,M1,
     show List.take (((512:Nat):Int).toNat-(at_+512).toNat) (List.drop (at_+512).toNat b)=List.drop (at_+512).toNat b from Q5 (by rw [Q8,hl];omega),
     if_pos (by rw [Q8,hl];omega)]
 ·rw [W7 hs,z8,if_pos (c:=b.length≠512\/ ¬zp5 sz) (.inr hs),if_neg (by decide)]
def jq3 {b} (h: ¬b.length=512) (at_ sz):zg7 b at_ sz=2:=by unfold zg7;rw [if_pos (.inl h)]
def set1 (b at_ sz):qay v3 b at_ sz=some (((b,()),(at_,()),(sz,()),()),if zg7 b at_ sz=0 then .inl (yy9 b (at_+512).toNat sz.toNat,()) else .inr (zg7 b at_ sz,())):=by
 rw [un3];by_cases a:b.length=512
 ·rw [qo3 b a,z5];show (if 512<=b.length then z6 (qm v3 (List.take 512 (List.drop 0 b)) at_ sz) _ else none)=_;rw [if_pos (by omega),N3,Q5 (by omega),zam7 b a,z5];by_cases h:zg7 b at_ sz=0
  ·rw [if_pos h,if_pos h];obtain ⟨_,c,e,f⟩:=ja1 h;unfold zp5 at c;show ys8 v3 (at_+512).toNat sz.toNat ((sz.toNat:Nat):Int) 0 b at_ sz b=_;refine vi0 (fun n k=>ys8 n (at_+512).toNat sz.toNat ((sz.toNat:Nat):Int) (k:Int) b at_ sz (yy9 b (at_+512).toNat k)) 1 sz.toNat _ (fun n k d=>?_) (fun n=>?_) v3 (by unfold v3;omega)
   ·show ys8 (n+1) _ _ _ (k:Int) _ _ _ _=ys8 n (at_+512).toNat sz.toNat ((sz.toNat:Nat):Int) ((k+1:Nat):Int) b at_ sz (yy9 b (at_+512).toNat (k+1));rw [qf5,W6 (by omega),j4,if_pos (by omega),nx d (by omega),yy9,Z1]
   ·show ys8 (n+1) _ _ _ ((sz.toNat:Nat):Int) _ _ _ _=_;rw [qf5,W7 (by omega),z8]
  ·rw [if_neg h,if_neg h]
 ·rw [kn2 b a,z5,jq3 a,if_neg (by decide)]
def zan9 (b at_ sz):qdu v3 b at_ sz=some (yv6 b at_ sz):=by
 rw [ux3,ur1,set1,z5];unfold yv6;by_cases h:zg7 b at_ sz=0
 ·rw [if_pos h,if_pos h];show z6 (z6 (qbk 0) _) _=_;rw [gm9,z5,z5]
 ·rw [if_neg h,if_neg h];show z6 (z6 (qbl 0 (zg7 b at_ sz)) _) _=_;rw [gn0,z5,z5]
def wo1 (b p m k) (a:k<m):(List.take m (List.drop p b)).getD k false=b.getD (p+k) false:=by
 rw [Y2,Y2,Z3,if_pos a,Q7]
def zar3 (b at_ sz):qz v3 b at_ sz=some (((b,()),(at_,()),(sz,()),()),if zg7 b at_ sz=0 then (if qj0 b (at_+512).toNat sz.toNat 0=true then .inl (true,()) else .inr (110,())) else .inr (zg7 b at_ sz,())):=by
 rw [zar1];by_cases c:b.length=512
 ·rw [qo3 b c,z5];show z6 (ql v3 b at_ sz) _=_;rw [zam8 b c,z5];by_cases h:zg7 b at_ sz=0
  ·rw [if_pos h,if_pos h];obtain ⟨_,e,f,g⟩:=ja1 h;unfold zp5 at e;have a:(List.take sz.toNat (List.drop (at_+512).toNat b)).length=sz.toNat:=by rw [Y6,Q8,c];omega
   show jj4 v3 (List.take sz.toNat (List.drop (at_+512).toNat b)) (((List.take sz.toNat (List.drop (at_+512).toNat b)).length:Nat):Int) 0 b at_ sz=_;rw [a];refine wr4 (fun n k=>jj4 n (List.take sz.toNat (List.drop (at_+512).toNat b)) ((sz.toNat:Nat):Int) (k:Int) b at_ sz) 2 sz.toNat (fun k=>some (((b,()),(at_,()),(sz,()),()),(if qj0 b (at_+512).toNat sz.toNat k=true then .inl (true,()) else .inr (110,())))) (fun n k d=>?_) (fun n=>?_) sz.toNat 0 v3 (by omega) (by unfold v3;omega)
   ·show jj4 (n+1+1) _ _ (k:Int) _ _ _=_\/_;rw [show jj4 (n+1+1) (List.take sz.toNat (List.drop (at_+512).toNat b)) ((sz.toNat:Nat):Int) (k:Int) b at_ sz=z9 (!(b.getD ((at_+512).toNat+k) false)) (some (((b,()),(at_,()),(sz,()),()),.inr ((110:Int),()))) (jj4 n (List.take sz.toNat (List.drop (at_+512).toNat b)) ((sz.toNat:Nat):Int) ((k+1:Nat):Int) b at_ sz) by
     rw [va7,W6 (by omega),j4,if_pos (by rw [a];omega),Z1,wo1 _ _ _ _ d,gd8,nx d (by omega)]]
    simp only [vz8 b _ _ k d];cases b.getD ((at_+512).toNat+k) false with
    |true=>exact .inr ⟨rfl,rfl⟩
    |false=>exact .inl rfl
   ·show jj4 (n+1) _ _ ((sz.toNat:Nat):Int) _ _ _=_;rw [va7,W7 (by omega),z8,kt6,if_pos rfl]
  ·rw [if_neg h,if_neg h]
 ·rw [kn2 b c,z5,jq3 c,if_neg (by decide)]
def zan8 (b at_ sz):qdt v3 b at_ sz=some (vk1 b at_ sz):=by
 rw [ux1,uq8,zar3,z5];unfold vk1;by_cases h:zg7 b at_ sz=0
 ·rw [if_pos h,if_pos h];by_cases a:qj0 b (at_+512).toNat sz.toNat 0=true
  ·rw [if_pos a,if_pos a];show z6 (z6 (qcr 0) _) _=_;rw [ut4,z5,z5]
  ·rw [if_neg a,if_neg a];show z6 (z6 (qce 0 110) _) _=_;rw [go2,z5,z5]
 ·rw [if_neg h,if_neg h];show z6 (z6 (qce 0 (zg7 b at_ sz)) _) _=_;rw [go2,z5,z5]
def kc1 (a b r k):(yf1 a b r k).getD k false=r.getD k false:=by
 rw [Y2,yn3,if_neg (fun h=>Nat.lt_irrefl _ h.1),<-List.getD_eq_getElem?_getD]
def zal4 (a b):qv v3 a b=some (((a,()),(b,()),()),if a.length=512/\b.length=512 then .inl (yf1 a b a 512,()) else .inr (2,())):=by
 rw [zaq4];by_cases c:a.length=512
 ·rw [qo3 a c,z5];show (if 512<=a.length then z6 (qcm v3 b) _ else none)=_;rw [if_pos (by omega)];by_cases d:b.length=512
  ·rw [qo3 b d,z5,if_pos ⟨c,d⟩];show jj3 v3 b 0 a b (List.take 512 (List.drop 0 a))=_;rw [N3,Q5 (by omega)];refine vi0 (fun n k=>jj3 n b (k:Int) a b (yf1 a b a k)) 2 512 _ (fun n k f=>?_) (fun n=>?_) v3 (by unfold v3;omega)
   ·show jj3 (n+1+1) b (k:Int) a b (yf1 a b a k)=jj3 n b ((k+1:Nat):Int) a b (yf1 a b a (k+1));have e: ∀r,kq7 (n+1) b (k:Int) a b r=jj3 n b ((k+1:Nat):Int) a b r:=fun r=>by rw [gd3,nx f (by omega)]
    rw [va6,W6 (by omega),j4,if_pos (by omega),if_pos (by omega),e,e,if_pos (by omega),if_pos (by omega),if_pos (by omega),U2,Z1,kc1,yf1];cases a.getD k false<;>rfl
   ·show jj3 (n+1) b ((512:Nat):Int) a b _=_;rw [va6,W7 (by omega),z8]
  ·rw [kn2 b d,z5,if_neg (fun h=>d h.2)]
 ·rw [kn2 a c,z5,if_neg (fun h=>c h.1)]
def vh5 (a b) (c:a.length=512):yf1 a b a 512=yf1 a b (List.replicate 512 false) 512:=by
 apply R4;intro j;rw [yn3,yn3,Z9,c];by_cases h:j<512/\j<512
 ·rw [if_pos h,if_pos h]
 ·rw [if_neg h,if_neg h,Y5 (by omega),Y5 (by rw [Z9];omega)]
def wv2 (a b):qcx v3 a b=some (qa1 a b):=by
 rw [uu4,up1,zal4,z5];unfold qa1;by_cases h:a.length=512/\b.length=512
 ·rw [if_pos h,if_pos h];show z6 (z6 (qbk 0) _) _=_;rw [gm9,z5,z5,vh5 a b h.1]
 ·rw [if_neg h,if_neg h];show z6 (z6 (qbl 0 2) _) _=_;rw [gn0,z5,z5]
def zam4:qgb v3=some (List.replicate 512 false):=by rw [zag3,if_pos (by omega)]
end Go.Y
namespace Go.Y
open Go.RowKit Go.V Go.X Go.Proofs
def uh7 (x):qgk v3 [1,2,4,8] x=z9 (x==1) (some 0) (z9 (x==2) (some 1) (z9 (x==4) (some 2) (z9 (x==8) (some 3) (some (-1))))):=by kernel_rfl
def zd0 (x:Int):Bool:=x==1||(x==2||(x==4||x==8))
def zp7 (x):qfy v3 [1,2,4,8] x=some (zd0 x):=by
 rw [zaf7,uh7];unfold zd0;cases x==1<;>cases x==2<;>cases x==4<;>cases x==8<;>rfl
def gg1 (x a b):qdc v3 x a b=some (decide (a<=x)&&decide (x<=b)):=by rw [uv0,zy3]
def yd5 (n m:Int):Bool:=decide (0<=n)&&decide (n<=m)
def zk6 (i:Ins):Bool:=if i.UseImm=true then i.Src==0&&(decide (-2147483648<=i.Imm)&&decide (i.Imm<2147483648)) else yd5 i.Src 10&&i.Imm==0
def jo3 (i:Ins):Bool:=decide (-32768<=i.Off)&&decide (i.Off<32768)
def zg2 (i:Ins):Bool:=
 if 1<=i.Op/\i.Op<=12 then yd5 i.Dst 9&&(zk6 i&&(i.Off==0&&i.Size==0))
 else if i.Op=13 then yd5 i.Dst 9&&(i.Src==0&&(!i.UseImm&&(i.Off==0&&(i.Imm==0&&i.Size==0))))
 else if i.Op=14 then yd5 i.Dst 9&&(yd5 i.Src 10&&(jo3 i&&(zd0 i.Size&&(!i.Narrow&&(!i.UseImm&&i.Imm==0)))))
 else if i.Op=15 then yd5 i.Dst 10&&(jo3 i&&(zd0 i.Size&&(zk6 i&& !i.Narrow)))
 else if i.Op=16 then jo3 i&&(!i.Narrow&&(i.Dst==0&&(i.Src==0&&(!i.UseImm&&(i.Imm==0&&i.Size==0)))))
 else if 17<=i.Op/\i.Op<=27 then yd5 i.Dst 10&&(jo3 i&&(zk6 i&&i.Size==0))
 else decide (i.Op=28)&&(!i.Narrow&&(i.Dst==0&&(i.Src==0&&(!i.UseImm&&(i.Off==0&&(i.Imm==0&&i.Size==0))))))
def vu0 (i):qdq v3 i=some (decide (16<=i.Op)&&decide (i.Op<=27)):=by rw [uw7,zy3]
def kw1 (op):qco v3 op=some (if 1<=op/\op<=12 then 201 else if op=13 then 193 else if op=14 then 181 else if op=15 then 186 else if op=16 then 144 else if 17<=op/\op<=27 then 218 else if op=28 then 128 else 0):=by
 rw [ut0];simp only [ki7,j6]
 grind
def vy2 (i):qa v3 i=some (zg2 i):=by
 rw [zan2,kw1];obtain ⟨op,nw,d,s,u,b,c,sz⟩:=i;simp only [z5];have j: ∀(n:Nat) (f m:Int) (z:Bool) (x:Ins),vi9 (n+1) f m z op nw d s u b c sz x.Op x.Narrow x.Dst x.Src x.UseImm x.Off x.Imm x.Size=
   some (f != 0&&((op==x.Op&&(nw==x.Narrow&&(d==x.Dst&&(s==x.Src&&(u==x.UseImm&&(b==x.Off&&(c==x.Imm&&sz==x.Size)))))))&&((decide (0<=d)&&decide (d<=m))&&((decide (0<=s)&&decide (s<=10))&&((decide (-32768<=b)&&decide (b<=32767))&&((decide (-2147483648<=c)&&decide (c<=2147483647))&&z)))))):=by
  intro n f m z x;simp only [ky8,gg1,z5,zy3]
 have a: ∀(n:Nat) (f m:Int) (z:Bool) (o:Int) (p:Bool) (q r:Int) (t:Bool) (v w y:Int),vi9 (n+1) f m z op nw d s u b c sz o p q r t v w y=_:=fun n f m z o p q r t v w y=>j n f m z ⟨o,p,q,r,t,v,w,y⟩;by_cases e:1<=op/\op<=12
 ·rw [if_pos e];cases nw<;>cases u<;>simp only [zu3,zu4,zu5,zu6,zu7,zu8,zu9,zv0,zv1,a,zp7,z5,W9,U6,j4,z8,show (w9 .i64 201 3 != 0)=true from by decide,show (w9 .i64 201 4 != 0)=false from by decide,show (w9 .i64 201 8 != 0)=true from by decide,show (w9 .i64 201 16 != 0)=false from by decide,show (w9 .i64 201 32 != 0)=false from by decide,show (w9 .i64 201 64 != 0)=true from by decide,show (w9 .i64 201 1 != 0)=true from by decide,show (w9 .i64 201 32==0)=true from by decide]<;>(refine congrArg some ?_;rw [U4];simp [zg2,zk6,yd5,jo3, *]<;>grind)
 by_cases g:op=13
 ·rw [if_neg e,if_pos g];cases nw<;>cases u<;>simp only [zu3,zu4,zu5,zu6,zu7,zu8,zu9,zv0,zv1,a,zp7,z5,W9,U6,j4,z8,show (w9 .i64 193 3 != 0)=true from by decide,show (w9 .i64 193 4 != 0)=false from by decide,show (w9 .i64 193 8 != 0)=false from by decide,show (w9 .i64 193 16 != 0)=false from by decide,show (w9 .i64 193 32 != 0)=false from by decide,show (w9 .i64 193 64 != 0)=true from by decide,show (w9 .i64 193 1 != 0)=true from by decide,show (w9 .i64 193 32==0)=true from by decide]<;>(refine congrArg some ?_;rw [U4];simp [zg2,zk6,yd5,jo3, *]<;>grind)
 by_cases h:op=14
 ·rw [if_neg e,if_neg g,if_pos h];cases nw<;>cases u<;>simp only [zu3,zu4,zu5,zu6,zu7,zu8,zu9,zv0,zv1,a,zp7,z5,W9,U6,j4,z8,show (w9 .i64 181 3 != 0)=true from by decide,show (w9 .i64 181 4 != 0)=true from by decide,show (w9 .i64 181 8 != 0)=false from by decide,show (w9 .i64 181 16 != 0)=true from by decide,show (w9 .i64 181 32 != 0)=true from by decide,show (w9 .i64 181 64 != 0)=false from by decide,show (w9 .i64 181 1 != 0)=true from by decide,show (w9 .i64 181 32==0)=false from by decide]<;>(refine congrArg some ?_;rw [U4];simp [zg2,zk6,yd5,jo3, *]<;>grind)
 by_cases k:op=15
 ·rw [if_neg e,if_neg g,if_neg h,if_pos k];cases nw<;>cases u<;>simp only [zu3,zu4,zu5,zu6,zu7,zu8,zu9,zv0,zv1,a,zp7,z5,W9,U6,j4,z8,show (w9 .i64 186 3 != 0)=true from by decide,show (w9 .i64 186 4 != 0)=false from by decide,show (w9 .i64 186 8 != 0)=true from by decide,show (w9 .i64 186 16 != 0)=true from by decide,show (w9 .i64 186 32 != 0)=true from by decide,show (w9 .i64 186 64 != 0)=false from by decide,show (w9 .i64 186 1 != 0)=false from by decide,show (w9 .i64 186 32==0)=false from by decide]<;>(refine congrArg some ?_;rw [U4];simp [zg2,zk6,yd5,jo3, *]<;>grind)
 by_cases l:op=16
 ·rw [if_neg e,if_neg g,if_neg h,if_neg k,if_pos l];cases nw<;>cases u<;>simp only [zu3,zu4,zu5,zu6,zu7,zu8,zu9,zv0,zv1,a,zp7,z5,W9,U6,j4,z8,show (w9 .i64 144 3 != 0)=false from by decide,show (w9 .i64 144 4 != 0)=false from by decide,show (w9 .i64 144 8 != 0)=false from by decide,show (w9 .i64 144 16 != 0)=true from by decide,show (w9 .i64 144 32 != 0)=false from by decide,show (w9 .i64 144 64 != 0)=false from by decide,show (w9 .i64 144 1 != 0)=false from by decide,show (w9 .i64 144 32==0)=true from by decide]<;>(refine congrArg some ?_;rw [U4];simp [zg2,zk6,yd5,jo3, *]<;>grind)
 by_cases A:17<=op/\op<=27
 ·rw [if_neg e,if_neg g,if_neg h,if_neg k,if_neg l,if_pos A];cases nw<;>cases u<;>simp only [zu3,zu4,zu5,zu6,zu7,zu8,zu9,zv0,zv1,a,zp7,z5,W9,U6,j4,z8,show (w9 .i64 218 3 != 0)=true from by decide,show (w9 .i64 218 4 != 0)=false from by decide,show (w9 .i64 218 8 != 0)=true from by decide,show (w9 .i64 218 16 != 0)=true from by decide,show (w9 .i64 218 32 != 0)=false from by decide,show (w9 .i64 218 64 != 0)=true from by decide,show (w9 .i64 218 1 != 0)=false from by decide,show (w9 .i64 218 32==0)=true from by decide]<;>(refine congrArg some ?_;rw [U4];simp [zg2,zk6,yd5,jo3, *]<;>grind)
 by_cases B:op=28
 ·rw [if_neg e,if_neg g,if_neg h,if_neg k,if_neg l,if_neg A,if_pos B];cases nw<;>cases u<;>simp only [zu3,zu4,zu5,zu6,zu7,zu8,zu9,zv0,zv1,a,zp7,z5,W9,U6,j4,z8,show (w9 .i64 128 3 != 0)=false from by decide,show (w9 .i64 128 4 != 0)=false from by decide,show (w9 .i64 128 8 != 0)=false from by decide,show (w9 .i64 128 16 != 0)=false from by decide,show (w9 .i64 128 32 != 0)=false from by decide,show (w9 .i64 128 64 != 0)=false from by decide,show (w9 .i64 128 1 != 0)=false from by decide,show (w9 .i64 128 32==0)=true from by decide]<;>(refine congrArg some ?_;rw [U4];simp [zg2,zk6,yd5,jo3, *]<;>grind)
 ·rw [if_neg e,if_neg g,if_neg h,if_neg k,if_neg l,if_neg A,if_neg B];cases nw<;>cases u<;>simp only [zu3,zu4,zu5,zu6,zu7,zu8,zu9,zv0,zv1,a,zp7,z5,W9,U6,j4,z8,show (w9 .i64 0 3 != 0)=false from by decide,show (w9 .i64 0 4 != 0)=false from by decide,show (w9 .i64 0 8 != 0)=false from by decide,show (w9 .i64 0 16 != 0)=false from by decide,show (w9 .i64 0 32 != 0)=false from by decide,show (w9 .i64 0 64 != 0)=false from by decide,show (w9 .i64 0 1 != 0)=false from by decide,show (w9 .i64 0 32==0)=true from by decide]<;>(refine congrArg some ?_;rw [U4];simp [zg2,zk6,yd5,jo3, *]<;>grind)
def ui2 (x y):qdx v3 x y=some (decide (x<y)):=by
 rw [ux8,zad9,z5];simp [j6]
def ins1 (a):qgf v3 [a]=some ([a],()):=by kernel_rfl
def zal1 (a b):qgi v3 [a,b] 0 2=z6 (qdx v3 b a) (fun y=>z9 y (some ([b,a],())) (some ([a,b],()))):=by kernel_rfl
def zal2 (a b):qgf v3 [a,b]=z6 (z6 (qgi v3 [a,b] 0 2) fun y=>some (y.1,())) fun y=>some (y.1,()):=by kernel_rfl
def ins2 (a b):qgf v3 [a,b]=some (if b<a then [b,a] else [a,b],()):=by
 rw [zal2,zal1,ui2,z5];by_cases h:b<a
 ·rw [if_pos h,W6 h];rfl
 ·rw [if_neg h,W7 h];rfl
def cut1 (a b):qgl v3 [a,b] 1 1=some (([a,b],()),()):=by kernel_rfl
def com1 (a):qgh v3 [a]=some (([a],()),((0,1),())):=by kernel_rfl
def com2 (a b):qgh v3 [a,b]=z9 (b==a) (some (([a,0],()),((0,1),()))) (some (([a,b],()),((0,2),()))):=by kernel_rfl
def com3 (a b):qgj v3 [a,b] 1 1=some (([a,b],()),((1,1),())):=by kernel_rfl
def yr5 (i:Ins) (nx a:Int):List Int:=if i.Op=16 then [a] else if 17<=i.Op/\i.Op<=27 then (if a<nx then [a,nx] else if nx<a then [nx,a] else [nx]) else [nx]
def zw7 (l:List Ins) (at_:Int):List Int:=
 if 0<=at_/\at_<l.length then
  let i:=l.getD at_.toNat v8
  if zg2 i=true/\i.Op≠28 then yr5 i (IntKind.i64.wrap (at_+1)) (IntKind.i64.wrap (IntKind.i64.wrap (at_+1)+i.Off)) else []
 else []
def Part (y:List Int) (o n:Nat) (l:List Int):Prop:=o+n<=y.length/\List.take n (List.drop o y)=l
def wi3 (l at_): ∃y o n,qak v3 l at_=some ((),((y,o,n),()))/\Part y o n (zw7 l at_):=by
 have a: ∀b,(b=false->0<=at_/\at_<((l.length:Nat):Int))-> ∃y o n,jl1 v3 l at_ b=some ((),((y,o,n),()))/\Part y o n (if b=true then [] else yr5 (l.getD at_.toNat v8) (IntKind.i64.wrap (at_+1)) (IntKind.i64.wrap (IntKind.i64.wrap (at_+1)+(l.getD at_.toNat v8).Off))):=by
  intro b p;rw [kg2,j6];by_cases c:b=true
  ·rw [if_pos c,if_pos c];exact ⟨[],0,0,rfl,by simp,rfl⟩
  ·rw [if_neg c,if_neg c];have f:=p (by simpa using c);rw [if_pos f,if_pos f,vu0,z5];simp only [kg3,if_pos f];generalize l.getD at_.toNat v8=i;generalize IntKind.i64.wrap (at_+1)=nx;generalize IntKind.i64.wrap (nx+i.Off)=to;unfold yr5;by_cases d:i.Op=16
   ·rw [if_pos d,d];refine ⟨[nx,to],1,1,?_,by simp,rfl⟩;have q:(((([nx,to]:List Int).length:Nat):Int).toNat)-1=1:=rfl;rw [show (decide (16<=(16:Int))&&decide ((16:Int)<=27))=true from rfl,show ((16:Int)==16)=true from rfl,j4,j4,if_pos (by simp),q,cut1,z5,com3,z5]
   ·rw [if_neg d];have j:(i.Op==16)=false:=by simpa using d
    by_cases m:17<=i.Op/\i.Op<=27
    ·rw [if_pos m,j,show (decide (16<=i.Op)&&decide (i.Op<=27))=true from by simp;omega,j4,z8,ins2,z5];by_cases g:to<nx
     ·rw [if_pos g,if_pos g,com2,show (nx==to)=false from by simp;omega,z8,z5];exact ⟨_,_,_,rfl,by simp,rfl⟩
     ·rw [if_neg g,if_neg g,com2];by_cases k:nx<to
      ·rw [if_pos k,show (to==nx)=false from by simp;omega,z8,z5];exact ⟨_,_,_,rfl,by simp,rfl⟩
      ·rw [if_neg k,show (to==nx)=true from by simp;omega,j4,z5];exact ⟨_,_,_,rfl,by simp,rfl⟩
    ·rw [if_neg m,j,show (decide (16<=i.Op)&&decide (i.Op<=27))=false from by simp;omega,z8,z8,ins1,z5,com1,z5];exact ⟨_,_,_,rfl,by simp,rfl⟩
 rw [ul4];unfold zw7;by_cases g:at_<0
 ·rw [W6 g,j4,if_neg (by omega)];simpa using a true (by simp)
 rw [W7 g,z8];by_cases k:at_>=((l.length:Nat):Int)
 ·rw [W6 k,j4,if_neg (by omega)];simpa using a true (by simp)
 have f:0<=at_/\at_<((l.length:Nat):Int):=by omega
 rw [W7 k,z8,if_pos f,if_pos f,vy2,z5];simp only [if_pos f];cases hr:zg2 (l.getD at_.toNat v8) with
 |false=>simpa [j4] using a true (by simp)
 |true=>
  simp only [W9,z8,true_and];by_cases e:(l.getD at_.toNat v8).Op=28
  ·rw [if_neg (fun h=>h e),show ((l.getD at_.toNat v8).Op==28)=true from by simpa using e];simpa using a true (by simp)
  ·rw [if_pos e,show ((l.getD at_.toNat v8).Op==28)=false from by simpa using e];simpa using a false (fun _=>f)
def ke1 (l a):(zw7 l a).length<=400000000:=by
 unfold zw7 yr5;grind
def jg9 (a:Nat->Int):Nat->Nat->Option Fault
 |_,0=>none
 |k,m+1=>if a k=0 then jg9 a (k+1) m else some ⟨a k,(k:Int)⟩
def vk5 {α} (f:Nat->Nat->Option α) (p:α->Fault) (a:Nat->Int) (c len b:Nat) (F:Fault)
  (step: ∀n k,k<len->b<=n->(a k=0/\f (n+c) k=f n (k+1))\/(a k≠0/\ ∃Y,f (n+c) k=some Y/\p Y=⟨a k,(k:Int)⟩))
  (d:(∀k,k<len->a k=0)-> ∀n,b<=n-> ∃Y,f n len=some Y/\p Y=F):
  ∀m k n,k+m=len->c*m+b<=n->(∀j,j<k->a j=0)-> ∃Y,f n k=some Y/\p Y=(jg9 a k m).getD F
 |0,k,n,q,o,h=>by
  have:k=len:=by omega
  subst this;exact d h n (by omega)
 |m+1,k,n,q,o,h=>by
  rw [Nat.mul_succ] at o;obtain ⟨g,rfl⟩: ∃g,n=g+c:=⟨n-c,by omega⟩;unfold jg9;rcases step g k (by omega) (by omega) with ⟨i,l⟩|⟨i,Y,l,r⟩
  ·rw [if_pos i,l];exact vk5 f p a c len b F step d m (k+1) g (by omega) (by omega) (fun j s=>by
    by_cases e:j=k
    ·subst e;exact i
    ·exact h j (by omega))
  ·rw [if_neg i];exact ⟨Y,l,r⟩
def yj0 (xs:List Int) (r:List Bool):List Bool:=xs.foldl (fun r x=>r.set x.toNat true) r
def ue9 (l:List Ins) (r:List Bool) (k:Nat):List Bool:=if r.getD k false=true then yj0 (zw7 l (k:Int)) r else r
def stP (l:List Ins):Nat->List Bool
 |0=>(List.replicate l.length false).set 0 true
 |k+1=>ue9 l (stP l k) k
def jd7: ∀(xs r),(yj0 xs r).length=r.length
 | [],_=>rfl
 |x::xs,r=>by
  show (yj0 xs (r.set x.toNat true)).length=_;rw [jd7 xs,Q3]
def qm0 (l): ∀k,(stP l k).length=l.length
 |0=>by unfold stP;rw [Q3,Z9]
 |k+1=>by
  unfold stP ue9;split
  ·rw [jd7,qm0 l k]
  ·exact qm0 l k
def vd1 (r:List Bool) (k:Nat):r.set k (r.getD k false)=r:=by
 by_cases h:k<r.length
 ·rw [Y2,Y0 h];exact M3 h
 ·exact List.set_eq_of_length_le (by omega)
def kw3 (r:List Bool) (k j:Nat) (b:Bool):(r.set k b).getD j false=if k=j/\j<r.length then b else r.getD j false:=by
 rw [Y2,Y2,List.getElem?_set];by_cases h:k=j
 ·subst h;by_cases a:k<r.length
  ·rw [if_pos rfl,if_pos a,if_pos ⟨rfl,a⟩];rfl
  ·rw [if_pos rfl,if_neg a,if_neg (fun h=>a h.2),Y5 (by omega)]
 ·rw [if_neg h,if_neg (fun c=>h c.1)]
def qc2: ∀(xs r j),(∀x∈xs,x.toNat≠j)->(yj0 xs r).getD j false=r.getD j false
 | [],_,_,_=>rfl
 |x::xs,r,j,h=>by
  show (yj0 xs (r.set x.toNat true)).getD j false=_;rw [qc2 xs _ j (fun y a=>h y (Z4 _ a)),kw3,if_neg (fun b=>h x (U8) b.1)]
def vg3 (xs:List Int) (r:List Bool) (j:Nat) (h:j<xs.length):yj0 (xs.take (j+1)) r=(yj0 (xs.take j) r).set (xs.getD j 0).toNat true:=by
 unfold yj0;rw [List.take_add_one,List.foldl_append,Y0 h,Y2,Y0 h];rfl
def Fwd (l:List Ins):Prop:= ∀k,k<l.length-> ∀x∈zw7 l (k:Int),(k:Int)<x/\x<l.length
def c1 (l:List Ins) (k:Nat):Int:=if zg2 (l.getD k v8)=true then 0 else 4
def km4 (i:Ins):Bool:=decide (16<=i.Op)&&decide (i.Op<=27)
def c2 (l:List Ins) (k:Nat):Int:=if km4 (l.getD k v8)=true then (if (l.getD k v8).Off<0 then 100 else if (k:Int)+1+(l.getD k v8).Off>=(l.length:Int) then 101 else 0) else 0
def c3 (l:List Ins) (k:Nat):Int:=if k+1=l.length/\(l.getD k v8).Op≠28/\(l.getD k v8).Op≠16 then 102 else 0
def c4 (l:List Ins) (k:Nat):Int:=if (stP l (k+1)).getD k false=true then 0 else 103
def zq3 (l:List Ins):Fault:=
 if l.length=0 then ⟨6,0⟩ else if l.length>4096 then ⟨3,0⟩ else
  (jg9 (c1 l) 0 l.length).getD ((jg9 (c2 l) 0 l.length).getD ((jg9 (c3 l) 0 l.length).getD ((jg9 (c4 l) 0 l.length).getD ⟨0,0⟩)))
def yg6 {l k} (h:c1 l k=0):zg2 (l.getD k v8)=true:=by
 unfold c1 at h;split at h
 ·assumption
 ·cases h
def zy7 (i) (h:zg2 i=true): -32768<=i.Off/\i.Off<=32767/\1<=i.Op/\i.Op<=28:=by
 unfold zg2 at h
 grind [zk6,jo3,yd5,zd0]
def gh9 {l} (q:l.length<=4096) (j: ∀k,k<l.length->c1 l k=0) (m: ∀k,k<l.length->c2 l k=0) (n: ∀k,k<l.length->c3 l k=0):Fwd l:=by
 intro k d x a;have r:=yg6 (j k d);have b:=m k d;have e:=n k d;have s:=zy7 _ r;unfold c2 km4 at b;unfold c3 at e;unfold zw7 at a;rw [if_pos (by omega)] at a;simp only [Z1] at a;generalize l.getD k v8=i at *;split at a
 ·rename_i o;obtain ⟨_,f⟩:=o;rw [za1 (x:=(k:Int)+1) (by omega),za1 (by omega)] at a;unfold yr5 at a;by_cases c:i.Op=16
  ·rw [if_pos c] at a;simp only [Z0,J1,or_false] at a;subst a;rw [if_pos (by simp;omega)] at b;split at b
   ·cases b
   ·split at b
    ·cases b
    ·omega
  ·rw [if_neg c] at a;have g:k+1≠l.length:=by
    intro p;rw [if_pos ⟨p,f,c⟩] at e;cases e
   by_cases h:17<=i.Op/\i.Op<=27
   ·rw [if_pos h] at a;rw [if_pos (by simp;omega)] at b;split at b
    ·cases b
    ·split at b
     ·cases b
     ·split at a
      ·simp only [Z0,J1,or_false] at a;rcases a with rfl|rfl<;>omega
      ·split at a
       ·simp only [Z0,J1,or_false] at a;rcases a with rfl|rfl<;>omega
       ·simp only [Z0,J1,or_false] at a;subst a;omega
   ·rw [if_neg h] at a;simp only [Z0,J1,or_false] at a;subst a;omega
 ·cases a
def jm5 (b x):qcg v3 b x=some (if b=true then x else 0):=by
 rw [us1];cases b<;>rfl
def p1 (l:List Ins) (k:Nat) (a:k<l.length):qft v3 (k:Int) l=some (((l,()),()),(c1 l k,())):=by
 rw [zae7,if_pos (by omega),vy2,z5,jm5,z5,Z1];unfold c1;cases zg2 (l.getD k v8)<;>rfl
def p2 (l k) (c:k<l.length) (d:l.length<=4096) (b:c1 l k=0):qfu v3 (k:Int) l=some (((l,()),()),(c2 l k,())):=by
 have e:=zy7 _ (yg6 b);rw [zae9,if_pos (by omega),if_pos (by omega),vu0,z5,Z1,za1 (x:=(k:Int)+1) (by omega),za1 (by omega),jm5];unfold c2 km4;generalize l.getD k v8=i at *;cases decide (16<=i.Op)&&decide (i.Op<=27) with
 |false=>rfl
 |true=>
  rw [W9,z8,if_pos rfl];by_cases h:i.Off<0
  ·rw [W6 (by omega),j4,if_pos h]
  ·rw [W7 (by omega),z8,if_neg h,z5];by_cases a:(k:Int)+1+i.Off>=(l.length:Int)
   ·rw [W6 a,if_pos a];rfl
   ·rw [W7 a,if_neg a];rfl
def p3 (l:List Ins) (k:Nat) (e:k<l.length) (f:l.length<=4096):qfv v3 (k:Int) l=some (((l,()),()),(c3 l k,())):=by
 rw [zaf1,za1 (by omega),j6];unfold c3;simp only [Z1];by_cases h:k+1=l.length
 ·rw [if_pos (by simp;omega),if_pos (by omega),j6];by_cases a:(l.getD k v8).Op=28
  ·rw [if_neg (by simpa using a),if_neg (fun d=>d.2.1 a),jm5,z5];rfl
  ·rw [if_pos (by simpa using a),if_pos (by omega),jm5,z5];by_cases b:(l.getD k v8).Op=16
   ·rw [if_neg (c:=k+1=l.length/\(l.getD k v8).Op≠28/\(l.getD k v8).Op≠16) (fun d=>d.2.2 b),b];rfl
   ·rw [if_pos (c:=k+1=l.length/\(l.getD k v8).Op≠28/\(l.getD k v8).Op≠16) ⟨h,a,b⟩,if_pos (by simpa using b)]
 ·rw [if_neg (by simp;omega),if_neg (fun d=>h d.1),jm5,z5];rfl
def uj4 {y xs o m} (h:Part y o m xs) (j) (a:j<m):y.getD (o+j) 0=xs.getD j 0/\xs.length=m:=by
 obtain ⟨c,b⟩:=h;subst b;refine ⟨?_,by rw [Y6,Q8];omega⟩;rw [Y2,Y2,Z3,if_pos a,Q7]
def uh6 (xs:List Int) (j:Nat) (a:j<xs.length):xs.getD j 0∈xs:=by
 rw [Y2,Y0 a];exact List.getElem_mem a
def p4 {l} (z:l.length<=4096) (t:Fwd l) (k) (u:k<l.length):qab v3 (k:Int) l (stP l k)=some (((l,()),((),()),stP l (k+1),()),(c4 l k,())):=by
 obtain ⟨y,o,m,e,c⟩:=wi3 l (k:Int);rw [uk1,e,z5];dsimp only;have A:(zw7 l (k:Int)).length=m:=by
  rw [<-c.2,Y6,Q8];have:=c.1;omega
 have a:=qm0 l k;have B:=ke1 l (k:Int);have v: ∀j,(if (stP l k).getD k false=true then yj0 ((zw7 l (k:Int)).take j) (stP l k) else stP l k).length=l.length:=by
  intro j;split
  ·rw [jd7,a]
  ·exact a
 have h: ∀j,(if (stP l k).getD k false=true then yj0 ((zw7 l (k:Int)).take j) (stP l k) else stP l k).getD k false=(stP l k).getD k false:=by
  intro j;split
  ·refine qc2 _ _ _ fun x i=>?_;have:=t k u x (K8 i);omega
  ·rfl
 have e0:(if (stP l k).getD k false=true then yj0 ((zw7 l (k:Int)).take 0) (stP l k) else stP l k)=stP l k:=by
  rw [List.take_zero];split<;>rfl
 have Q:=vi0 (fun n j=>yx2 n (k:Int) o m ((m:Nat):Int) ((j:Nat):Int) l (if (stP l k).getD k false=true then yj0 ((zw7 l (k:Int)).take j) (stP l k) else stP l k) y) 2 m (some (((l,()),((),()),stP l (k+1),()),(c4 l k,()))) (fun n j p=>?_) (fun n=>?_) v3 (by unfold v3;omega)
 ·rw [e0] at Q;exact Q
 ·show yx2 (n+1+1) (k:Int) o m ((m:Nat):Int) ((j:Nat):Int) l _ y=yx2 n (k:Int) o m ((m:Nat):Int) ((j+1:Nat):Int) l _ y;have i:=(uj4 c j p).1;have C:=t k u _ (uh6 (zw7 l (k:Int)) j (by omega));rw [qe6,W6 (by omega),j4,if_pos (by omega),if_pos (by have:=c.1;omega),Z1,i];have d:=v j;have b:=h j;have w:=vg3 (zw7 l (k:Int)) (stP l k) j (by omega);generalize (zw7 l (k:Int)).getD j 0=x at *;by_cases f:(stP l k).getD k false=true
  ·simp only [if_pos f] at d b⊢;rw [w];generalize yj0 ((zw7 l (k:Int)).take j) (stP l k)=r at *;have q:0<=x/\x<((r.length:Nat):Int):=by omega
   have s:0<=(k:Int)/\(k:Int)<((r.length:Nat):Int):=by omega
   simp only [if_pos q,if_pos s,qe5,nx (len:=m) p (by omega),Z1,b,f,j6,ite_self]
  ·simp only [if_neg f] at d b⊢;generalize D:stP l k=r at *;have q:0<=x/\x<((r.length:Nat):Int):=by omega
   have s:0<=(k:Int)/\(k:Int)<((r.length:Nat):Int):=by omega
   simp only [if_pos q,if_pos s,qe5,nx (len:=m) p (by omega),Z1,j6];by_cases g:r.getD x.toNat false=true
   ·rw [if_pos g,<-g,vd1]
   ·rw [if_neg g,Bool.eq_false_iff.2 f,<-Bool.eq_false_iff.2 g,vd1]
 ·show yx2 (n+1) (k:Int) o m ((m:Nat):Int) ((m:Nat):Int) l _ y=_;have d:=v m;have b:(if (stP l k).getD k false=true then yj0 ((zw7 l (k:Int)).take m) (stP l k) else stP l k)=stP l (k+1):=by
   rw [Q5 (by omega)];rfl
  rw [b] at d⊢;rw [qe6,W7 (by omega),z8,if_pos (by omega),jm5,z5,Z1];unfold c4;cases (stP l (k+1)).getD k false<;>rfl
def vs9 (l):qdd v3 l=some (zq3 l):=by
 rw [uv2];unfold zq3;by_cases d:l.length=0
 ·rw [if_pos d,d];rfl
 rw [if_neg d,show (((l.length:Nat):Int)==0)=false from beq_eq_false_iff_ne.2 (by omega),z8];by_cases h:l.length>4096
 ·rw [if_pos h,W6 (by omega),j4]
 rw [if_neg h,W7 (by omega),z8,if_pos (by omega),if_pos (by rw [Z9];omega),Z1];have e: ∃Y,qe v3 ((l.length:Nat):Int) l (stP l 0)=some Y/\Y.2.1=(jg9 (c1 l) 0 l.length).getD ((jg9 (c2 l) 0 l.length).getD ((jg9 (c3 l) 0 l.length).getD ((jg9 (c4 l) 0 l.length).getD ⟨0,0⟩))):=by
  rw [zao0];refine vk5 (fun n k=>jq9 n ((l.length:Nat):Int) ((l.length:Nat):Int) ((k:Nat):Int) l (stP l 0) 0 0) (fun Y=>Y.2.1) (c1 l) 1 l.length 50000 _ (fun n k b c=>?_) (fun f n c=>?_) l.length 0 _ (by omega) (by omega) (by omega)
  ·obtain ⟨n,rfl⟩: ∃j,n=j+1:=⟨n-1,by omega⟩;show _\/_/\ ∃Y,jq9 (n+2) _ _ _ _ _ _ _=_/\_;by_cases a:c1 l k=0
   ·refine .inl ⟨a,?_⟩;show jq9 (n+2) _ _ _ _ _ _ _=jq9 (n+1) _ _ _ _ _ _ _;rw [ju7,W6 (by omega),j4,p1 l k b,z5,a,nx b (by omega)];dsimp only;rw [show ((0:Int) != 0)=false from rfl,z8]
   ·refine .inr ⟨a,?_⟩;rw [ju7,W6 (by omega),j4,p1 l k b,z5];dsimp only;rw [show (c1 l k != 0)=true by simpa using a,j4];exact ⟨_,rfl,rfl⟩
  obtain ⟨n,rfl⟩: ∃j,n=j+2:=⟨n-2,by omega⟩;show ∃Y,jq9 (n+2) _ _ _ _ _ _ _=_/\_;rw [ju7,W7 (by omega),z8];refine vk5 (fun n k=>yt0 n ((l.length:Nat):Int) ((l.length:Nat):Int) ((k:Nat):Int) l (stP l 0) 0 0) (fun Y=>Y.2.1) (c2 l) 1 l.length 40000 _ (fun n k b c=>?_) (fun m n c=>?_) l.length 0 _ (by omega) (by omega) (by omega)
  ·obtain ⟨n,rfl⟩: ∃j,n=j+1:=⟨n-1,by omega⟩;show _\/_/\ ∃Y,yt0 (n+2) _ _ _ _ _ _ _=_/\_;by_cases a:c2 l k=0
   ·refine .inl ⟨a,?_⟩;show yt0 (n+2) _ _ _ _ _ _ _=yt0 (n+1) _ _ _ _ _ _ _;rw [je6,W6 (by omega),j4,p2 l k b (by omega) (f k b),z5,a,nx b (by omega)];dsimp only;rw [show ((0:Int) != 0)=false from rfl,z8]
   ·refine .inr ⟨a,?_⟩;rw [je6,W6 (by omega),j4,p2 l k b (by omega) (f k b),z5];dsimp only;rw [show (c2 l k != 0)=true by simpa using a,j4];exact ⟨_,rfl,rfl⟩
  obtain ⟨n,rfl⟩: ∃j,n=j+2:=⟨n-2,by omega⟩;show ∃Y,yt0 (n+2) _ _ _ _ _ _ _=_/\_;rw [je6,W7 (by omega),z8];refine vk5 (fun n k=>yt1 n ((l.length:Nat):Int) ((l.length:Nat):Int) ((k:Nat):Int) l (stP l 0) 0 0) (fun Y=>Y.2.1) (c3 l) 1 l.length 30000 _ (fun n k b c=>?_) (fun o n c=>?_) l.length 0 _ (by omega) (by omega) (by omega)
  ·obtain ⟨n,rfl⟩: ∃j,n=j+1:=⟨n-1,by omega⟩;show _\/_/\ ∃Y,yt1 (n+2) _ _ _ _ _ _ _=_/\_;by_cases a:c3 l k=0
   ·refine .inl ⟨a,?_⟩;show yt1 (n+2) _ _ _ _ _ _ _=yt1 (n+1) _ _ _ _ _ _ _;rw [je7,W6 (by omega),j4,p3 l k b (by omega),z5,a,nx b (by omega)];dsimp only;rw [show ((0:Int) != 0)=false from rfl,z8]
   ·refine .inr ⟨a,?_⟩;rw [je7,W6 (by omega),j4,p3 l k b (by omega),z5];dsimp only;rw [show (c3 l k != 0)=true by simpa using a,j4];exact ⟨_,rfl,rfl⟩
  obtain ⟨n,rfl⟩: ∃j,n=j+2:=⟨n-2,by omega⟩;show ∃Y,yt1 (n+2) _ _ _ _ _ _ _=_/\_;rw [je7,W7 (by omega),z8];have i:=gh9 (by omega) f m o;refine vk5 (fun n k=>yt2 n ((l.length:Nat):Int) ((l.length:Nat):Int) ((k:Nat):Int) l (stP l k) 0 0) (fun Y=>Y.2.1) (c4 l) 1 l.length 20000 _ (fun n k b c=>?_) (fun q n c=>?_) l.length 0 _ (by omega) (by omega) (by omega)
  ·obtain ⟨n,rfl⟩: ∃j,n=j+1:=⟨n-1,by omega⟩;show _\/_/\ ∃Y,yt2 (n+2) _ _ _ _ _ _ _=_/\_;by_cases a:c4 l k=0
   ·refine .inl ⟨a,?_⟩;show yt2 (n+2) _ _ _ _ _ _ _=yt2 (n+1) _ _ _ _ _ _ _;rw [je8,W6 (by omega),j4,p4 (by omega) i k b,z5,a,nx b (by omega)];dsimp only;rw [show ((0:Int) != 0)=false from rfl,z8]
   ·refine .inr ⟨a,?_⟩;rw [je8,W6 (by omega),j4,p4 (by omega) i k b,z5];dsimp only;rw [show (c4 l k != 0)=true by simpa using a,j4];exact ⟨_,rfl,rfl⟩
  obtain ⟨n,rfl⟩: ∃j,n=j+2:=⟨n-2,by omega⟩;show ∃Y,yt2 (n+2) _ _ _ _ _ _ _=_/\_;rw [je8,W7 (by omega),z8];exact ⟨_,rfl,rfl⟩
 obtain ⟨Y,g,p⟩:=e;have g:qe v3 ((l.length:Nat):Int) l ((List.replicate l.length false).set 0 true)=some Y:=g;rw [g,z5,p]
def qg7 (code): ∀m k F,jg9 code k m=some F-> ∃j,k<=j/\j<k+m/\code j≠0/\F=⟨code j,(j:Int)⟩
 |0,_,_,h=>by cases h
 |m+1,k,F,h=>by
  unfold jg9 at h;split at h
  ·obtain ⟨j,d,e,a,b⟩:=qg7 code m (k+1) F h;exact ⟨j,by omega,by omega,a,b⟩
  ·rename_i c;cases h;exact ⟨k,by omega,by omega,c,rfl⟩
def yg4 (code): ∀m k,jg9 code k m=none-> ∀j,k<=j->j<k+m->code j=0
 |0,_,_,j,a,b=>by omega
 |m+1,k,h,j,a,b=>by
  unfold jg9 at h;split at h
  ·rename_i c;by_cases e:j=k
   ·rw [e];exact c
   ·exact yg4 code m (k+1) h j (by omega) (by omega)
  ·cases h
structure Okay (l:List Ins):Prop where
 pos:0<l.length
 len:l.length<=4096
 z1: ∀k,k<l.length->c1 l k=0
 z2: ∀k,k<l.length->c2 l k=0
 z3: ∀k,k<l.length->c3 l k=0
 z4: ∀k,k<l.length->c4 l k=0
def yp4 {o:Option Fault} {d:Fault} (h: ∀F,o=some F->F.Err≠0) (a:(o.getD d).Err=0):o=none/\d.Err=0:=by
 cases o with
 |none=>exact ⟨rfl,a⟩
 |some F=>exact absurd a (h F rfl)
def ja6 (code m k F) (h:jg9 code k m=some F):F.Err≠0:=by
 obtain ⟨j,_,_,a,rfl⟩:=qg7 code m k F h;exact a
def qk4 {l} (h:(zq3 l).Err=0):Okay l:=by
 unfold zq3 at h;by_cases b:l.length=0
 ·rw [if_pos b] at h;cases h
 rw [if_neg b] at h;by_cases c:l.length>4096
 ·rw [if_pos c] at h;cases h
 rw [if_neg c] at h;obtain ⟨d,h⟩:=yp4 (ja6 _ _ _) h;obtain ⟨e,h⟩:=yp4 (ja6 _ _ _) h;obtain ⟨f,h⟩:=yp4 (ja6 _ _ _) h;obtain ⟨g,h⟩:=yp4 (ja6 _ _ _) h;exact ⟨by omega,by omega,fun k a=>yg4 _ _ _ d k (by omega) (by omega),fun k a=>yg4 _ _ _ e k (by omega) (by omega),fun k a=>yg4 _ _ _ f k (by omega) (by omega),fun k a=>yg4 _ _ _ g k (by omega) (by omega)⟩
def Okay.fwd {l} (h:Okay l):Fwd l:=gh9 h.len h.z1 h.z2 h.z3
end Go.Y
namespace Go.Y
open Go.RowKit Go.V Go.X Go.Proofs
def zl1 {x m:Int} (a:0<=x) (b:0<m): ¬x.tmod m<0:=by
 have:=Int.tmod_nonneg m a;omega
def do32 (op a b:Int) (ha:0<=b):X.qb v3 op 32 a b=some (yx5 op 32 a b):=by
 obtain ⟨n,e⟩: ∃n:Nat,(v3:Nat)=n+1:=⟨999999999,rfl⟩;have hj: ∀c:Bool,c=(((op==4)||(op==5))&&(b==0))->X.qp5 (n+1) op c 32 a b=some (yx5 op 32 a b):=fun c hc=>by
  rw [X.qz7,hc];unfold yx5;cases hcc:(((op==(4:Int))||(op==(5:Int)))&&(b==(0:Int))) with
  |true=>rfl
  |false=>
   rw [z8,if_neg (show ¬(false=true) by decide)];by_cases h1:op=1
   ·subst h1;rw [if_pos (rfl:(1:Int)=1)];rw [if_pos (by decide:(((1:Int)==1)=true))];rw [X.gr6,z5];rfl
   by_cases h2:op=2
   ·subst h2;rw [if_neg (by decide: ¬((2:Int)=1)),if_pos (rfl:(2:Int)=2)];rw [if_neg (by decide: ¬(((2:Int)==1)=true)),if_pos (by decide:(((2:Int)==2)=true))];rw [X.gs5,z5];rfl
   by_cases h3:op=3
   ·subst h3;rw [if_neg (by decide: ¬((3:Int)=1)),if_neg (by decide: ¬((3:Int)=2)),if_pos (rfl:(3:Int)=3)];rw [if_neg (by decide: ¬(((3:Int)==1)=true)),if_neg (by decide: ¬(((3:Int)==2)=true)),if_pos (by decide:(((3:Int)==3)=true))];rw [X.gs6,z5];rfl
   by_cases h4:op=4
   ·subst h4;rw [if_neg (by decide: ¬((4:Int)=1)),if_neg (by decide: ¬((4:Int)=2)),if_neg (by decide: ¬((4:Int)=3)),if_pos (rfl:(4:Int)=4)];rw [if_neg (by decide: ¬(((4:Int)==1)=true)),if_neg (by decide: ¬(((4:Int)==2)=true)),if_neg (by decide: ¬(((4:Int)==3)=true)),if_pos (by decide:(((4:Int)==4)=true))];rw [X.gs7,if_neg (fun h=>by subst h;exact absurd hcc (by decide)),z5];rfl
   by_cases h5:op=5
   ·subst h5;rw [if_neg (by decide: ¬((5:Int)=1)),if_neg (by decide: ¬((5:Int)=2)),if_neg (by decide: ¬((5:Int)=3)),if_neg (by decide: ¬((5:Int)=4)),if_pos (rfl:(5:Int)=5)];rw [if_neg (by decide: ¬(((5:Int)==1)=true)),if_neg (by decide: ¬(((5:Int)==2)=true)),if_neg (by decide: ¬(((5:Int)==3)=true)),if_neg (by decide: ¬(((5:Int)==4)=true)),if_pos (by decide:(((5:Int)==5)=true))];rw [X.gs8,if_neg (fun h=>by subst h;exact absurd hcc (by decide)),z5];rfl
   by_cases h6:op=6
   ·subst h6;rw [if_neg (by decide: ¬((6:Int)=1)),if_neg (by decide: ¬((6:Int)=2)),if_neg (by decide: ¬((6:Int)=3)),if_neg (by decide: ¬((6:Int)=4)),if_neg (by decide: ¬((6:Int)=5)),if_pos (rfl:(6:Int)=6)];rw [if_neg (by decide: ¬(((6:Int)==1)=true)),if_neg (by decide: ¬(((6:Int)==2)=true)),if_neg (by decide: ¬(((6:Int)==3)=true)),if_neg (by decide: ¬(((6:Int)==4)=true)),if_neg (by decide: ¬(((6:Int)==5)=true)),if_pos (by decide:(((6:Int)==6)=true))];rw [X.gs9,z5];rfl
   by_cases h7:op=7
   ·subst h7;rw [if_neg (by decide: ¬((7:Int)=1)),if_neg (by decide: ¬((7:Int)=2)),if_neg (by decide: ¬((7:Int)=3)),if_neg (by decide: ¬((7:Int)=4)),if_neg (by decide: ¬((7:Int)=5)),if_neg (by decide: ¬((7:Int)=6)),if_pos (rfl:(7:Int)=7)];rw [if_neg (by decide: ¬(((7:Int)==1)=true)),if_neg (by decide: ¬(((7:Int)==2)=true)),if_neg (by decide: ¬(((7:Int)==3)=true)),if_neg (by decide: ¬(((7:Int)==4)=true)),if_neg (by decide: ¬(((7:Int)==5)=true)),if_neg (by decide: ¬(((7:Int)==6)=true)),if_pos (by decide:(((7:Int)==7)=true))];rw [X.gt0,z5];rfl
   by_cases h8:op=8
   ·subst h8;rw [if_neg (by decide: ¬((8:Int)=1)),if_neg (by decide: ¬((8:Int)=2)),if_neg (by decide: ¬((8:Int)=3)),if_neg (by decide: ¬((8:Int)=4)),if_neg (by decide: ¬((8:Int)=5)),if_neg (by decide: ¬((8:Int)=6)),if_neg (by decide: ¬((8:Int)=7)),if_pos (rfl:(8:Int)=8)];rw [if_neg (by decide: ¬(((8:Int)==1)=true)),if_neg (by decide: ¬(((8:Int)==2)=true)),if_neg (by decide: ¬(((8:Int)==3)=true)),if_neg (by decide: ¬(((8:Int)==4)=true)),if_neg (by decide: ¬(((8:Int)==5)=true)),if_neg (by decide: ¬(((8:Int)==6)=true)),if_neg (by decide: ¬(((8:Int)==7)=true)),if_pos (by decide:(((8:Int)==8)=true))];rw [X.gt1,z5];rfl
   by_cases h9:op=9
   ·subst h9;rw [if_neg (by decide: ¬((9:Int)=1)),if_neg (by decide: ¬((9:Int)=2)),if_neg (by decide: ¬((9:Int)=3)),if_neg (by decide: ¬((9:Int)=4)),if_neg (by decide: ¬((9:Int)=5)),if_neg (by decide: ¬((9:Int)=6)),if_neg (by decide: ¬((9:Int)=7)),if_neg (by decide: ¬((9:Int)=8)),if_pos (rfl:(9:Int)=9)];rw [if_neg (by decide: ¬(((9:Int)==1)=true)),if_neg (by decide: ¬(((9:Int)==2)=true)),if_neg (by decide: ¬(((9:Int)==3)=true)),if_neg (by decide: ¬(((9:Int)==4)=true)),if_neg (by decide: ¬(((9:Int)==5)=true)),if_neg (by decide: ¬(((9:Int)==6)=true)),if_neg (by decide: ¬(((9:Int)==7)=true)),if_neg (by decide: ¬(((9:Int)==8)=true)),if_pos (by decide:(((9:Int)==9)=true))];rw [X.gt2,if_neg (by decide),if_neg (zl1 ha (by decide)),z5];rfl
   by_cases h10:op=10
   ·subst h10;rw [if_neg (by decide: ¬((10:Int)=1)),if_neg (by decide: ¬((10:Int)=2)),if_neg (by decide: ¬((10:Int)=3)),if_neg (by decide: ¬((10:Int)=4)),if_neg (by decide: ¬((10:Int)=5)),if_neg (by decide: ¬((10:Int)=6)),if_neg (by decide: ¬((10:Int)=7)),if_neg (by decide: ¬((10:Int)=8)),if_neg (by decide: ¬((10:Int)=9)),if_pos (rfl:(10:Int)=10)];rw [if_neg (by decide: ¬(((10:Int)==1)=true)),if_neg (by decide: ¬(((10:Int)==2)=true)),if_neg (by decide: ¬(((10:Int)==3)=true)),if_neg (by decide: ¬(((10:Int)==4)=true)),if_neg (by decide: ¬(((10:Int)==5)=true)),if_neg (by decide: ¬(((10:Int)==6)=true)),if_neg (by decide: ¬(((10:Int)==7)=true)),if_neg (by decide: ¬(((10:Int)==8)=true)),if_neg (by decide: ¬(((10:Int)==9)=true)),if_pos (by decide:(((10:Int)==10)=true))];rw [X.gq7,if_neg (by decide),if_neg (zl1 ha (by decide)),z5];rfl
   by_cases h11:op=11
   ·subst h11;rw [if_neg (by decide: ¬((11:Int)=1)),if_neg (by decide: ¬((11:Int)=2)),if_neg (by decide: ¬((11:Int)=3)),if_neg (by decide: ¬((11:Int)=4)),if_neg (by decide: ¬((11:Int)=5)),if_neg (by decide: ¬((11:Int)=6)),if_neg (by decide: ¬((11:Int)=7)),if_neg (by decide: ¬((11:Int)=8)),if_neg (by decide: ¬((11:Int)=9)),if_neg (by decide: ¬((11:Int)=10)),if_pos (rfl:(11:Int)=11)];rw [if_neg (by decide: ¬(((11:Int)==1)=true)),if_neg (by decide: ¬(((11:Int)==2)=true)),if_neg (by decide: ¬(((11:Int)==3)=true)),if_neg (by decide: ¬(((11:Int)==4)=true)),if_neg (by decide: ¬(((11:Int)==5)=true)),if_neg (by decide: ¬(((11:Int)==6)=true)),if_neg (by decide: ¬(((11:Int)==7)=true)),if_neg (by decide: ¬(((11:Int)==8)=true)),if_neg (by decide: ¬(((11:Int)==9)=true)),if_neg (by decide: ¬(((11:Int)==10)=true)),if_pos (by decide:(((11:Int)==11)=true))];rw [X.gq8,if_neg (by decide),if_neg (zl1 ha (by decide)),z5];rfl
   by_cases h12:op=12
   ·subst h12;rw [if_neg (by decide: ¬((12:Int)=1)),if_neg (by decide: ¬((12:Int)=2)),if_neg (by decide: ¬((12:Int)=3)),if_neg (by decide: ¬((12:Int)=4)),if_neg (by decide: ¬((12:Int)=5)),if_neg (by decide: ¬((12:Int)=6)),if_neg (by decide: ¬((12:Int)=7)),if_neg (by decide: ¬((12:Int)=8)),if_neg (by decide: ¬((12:Int)=9)),if_neg (by decide: ¬((12:Int)=10)),if_neg (by decide: ¬((12:Int)=11)),if_pos (rfl:(12:Int)=12)];rw [if_neg (by decide: ¬(((12:Int)==1)=true)),if_neg (by decide: ¬(((12:Int)==2)=true)),if_neg (by decide: ¬(((12:Int)==3)=true)),if_neg (by decide: ¬(((12:Int)==4)=true)),if_neg (by decide: ¬(((12:Int)==5)=true)),if_neg (by decide: ¬(((12:Int)==6)=true)),if_neg (by decide: ¬(((12:Int)==7)=true)),if_neg (by decide: ¬(((12:Int)==8)=true)),if_neg (by decide: ¬(((12:Int)==9)=true)),if_neg (by decide: ¬(((12:Int)==10)=true)),if_neg (by decide: ¬(((12:Int)==11)=true)),if_pos (by decide:(((12:Int)==12)=true))];rw [X.gq9,z5];rfl
   by_cases h13:op=13
   ·subst h13;rw [if_neg (by decide: ¬((13:Int)=1)),if_neg (by decide: ¬((13:Int)=2)),if_neg (by decide: ¬((13:Int)=3)),if_neg (by decide: ¬((13:Int)=4)),if_neg (by decide: ¬((13:Int)=5)),if_neg (by decide: ¬((13:Int)=6)),if_neg (by decide: ¬((13:Int)=7)),if_neg (by decide: ¬((13:Int)=8)),if_neg (by decide: ¬((13:Int)=9)),if_neg (by decide: ¬((13:Int)=10)),if_neg (by decide: ¬((13:Int)=11)),if_neg (by decide: ¬((13:Int)=12)),if_pos (rfl:(13:Int)=13)];rw [if_neg (by decide: ¬(((13:Int)==1)=true)),if_neg (by decide: ¬(((13:Int)==2)=true)),if_neg (by decide: ¬(((13:Int)==3)=true)),if_neg (by decide: ¬(((13:Int)==4)=true)),if_neg (by decide: ¬(((13:Int)==5)=true)),if_neg (by decide: ¬(((13:Int)==6)=true)),if_neg (by decide: ¬(((13:Int)==7)=true)),if_neg (by decide: ¬(((13:Int)==8)=true)),if_neg (by decide: ¬(((13:Int)==9)=true)),if_neg (by decide: ¬(((13:Int)==10)=true)),if_neg (by decide: ¬(((13:Int)==11)=true)),if_neg (by decide: ¬(((13:Int)==12)=true)),if_pos (by decide:(((13:Int)==13)=true))];rw [X.gr0,z5];rfl
   rw [if_neg h1,if_neg h2,if_neg h3,if_neg h4,if_neg h5,if_neg h6,if_neg h7,if_neg h8,if_neg h9,if_neg h10,if_neg h11,if_neg h12,if_neg h13];rw [if_neg (by simpa using h1),if_neg (by simpa using h2),if_neg (by simpa using h3),if_neg (by simpa using h4),if_neg (by simpa using h5),if_neg (by simpa using h6),if_neg (by simpa using h7),if_neg (by simpa using h8),if_neg (by simpa using h9),if_neg (by simpa using h10),if_neg (by simpa using h11),if_neg (by simpa using h12),if_neg (by simpa using h13)]
 rw [X.wt3,e];cases h4:(op==(4:Int)) with
 |true=>rw [j4,hj _ (by rw [h4];rfl)]
 |false=>
  rw [z8];cases h5:(op==(5:Int)) with
  |true=>rw [j4,hj _ (by rw [h4,h5];rfl)]
  |false=>rw [z8,hj _ (by rw [h4,h5];rfl)]
def do64 (op a b:Int) (ha:0<=b):X.qbc v3 op 64 a b=some (jy3 op 64 a b):=by
 obtain ⟨n,e⟩: ∃n:Nat,(v3:Nat)=n+1:=⟨999999999,rfl⟩;have hj: ∀c:Bool,c=(((op==4)||(op==5))&&(b==0))->X.jl3 (n+1) op c 64 a b=some (jy3 op 64 a b):=fun c hc=>by
  rw [X.qf7,hc];unfold jy3;cases hcc:(((op==(4:Int))||(op==(5:Int)))&&(b==(0:Int))) with
  |true=>rfl
  |false=>
   rw [z8,if_neg (show ¬(false=true) by decide)];by_cases h1:op=1
   ·subst h1;rw [if_pos (rfl:(1:Int)=1)];rw [if_pos (by decide:(((1:Int)==1)=true))];rw [X.gr1,z5];rfl
   by_cases h2:op=2
   ·subst h2;rw [if_neg (by decide: ¬((2:Int)=1)),if_pos (rfl:(2:Int)=2)];rw [if_neg (by decide: ¬(((2:Int)==1)=true)),if_pos (by decide:(((2:Int)==2)=true))];rw [X.gr2,z5];rfl
   by_cases h3:op=3
   ·subst h3;rw [if_neg (by decide: ¬((3:Int)=1)),if_neg (by decide: ¬((3:Int)=2)),if_pos (rfl:(3:Int)=3)];rw [if_neg (by decide: ¬(((3:Int)==1)=true)),if_neg (by decide: ¬(((3:Int)==2)=true)),if_pos (by decide:(((3:Int)==3)=true))];rw [X.gr3,z5];rfl
   by_cases h4:op=4
   ·subst h4;rw [if_neg (by decide: ¬((4:Int)=1)),if_neg (by decide: ¬((4:Int)=2)),if_neg (by decide: ¬((4:Int)=3)),if_pos (rfl:(4:Int)=4)];rw [if_neg (by decide: ¬(((4:Int)==1)=true)),if_neg (by decide: ¬(((4:Int)==2)=true)),if_neg (by decide: ¬(((4:Int)==3)=true)),if_pos (by decide:(((4:Int)==4)=true))];rw [X.gr4,if_neg (fun h=>by subst h;exact absurd hcc (by decide)),z5];rfl
   by_cases h5:op=5
   ·subst h5;rw [if_neg (by decide: ¬((5:Int)=1)),if_neg (by decide: ¬((5:Int)=2)),if_neg (by decide: ¬((5:Int)=3)),if_neg (by decide: ¬((5:Int)=4)),if_pos (rfl:(5:Int)=5)];rw [if_neg (by decide: ¬(((5:Int)==1)=true)),if_neg (by decide: ¬(((5:Int)==2)=true)),if_neg (by decide: ¬(((5:Int)==3)=true)),if_neg (by decide: ¬(((5:Int)==4)=true)),if_pos (by decide:(((5:Int)==5)=true))];rw [X.gr5,if_neg (fun h=>by subst h;exact absurd hcc (by decide)),z5];rfl
   by_cases h6:op=6
   ·subst h6;rw [if_neg (by decide: ¬((6:Int)=1)),if_neg (by decide: ¬((6:Int)=2)),if_neg (by decide: ¬((6:Int)=3)),if_neg (by decide: ¬((6:Int)=4)),if_neg (by decide: ¬((6:Int)=5)),if_pos (rfl:(6:Int)=6)];rw [if_neg (by decide: ¬(((6:Int)==1)=true)),if_neg (by decide: ¬(((6:Int)==2)=true)),if_neg (by decide: ¬(((6:Int)==3)=true)),if_neg (by decide: ¬(((6:Int)==4)=true)),if_neg (by decide: ¬(((6:Int)==5)=true)),if_pos (by decide:(((6:Int)==6)=true))];rw [X.gr7,z5];rfl
   by_cases h7:op=7
   ·subst h7;rw [if_neg (by decide: ¬((7:Int)=1)),if_neg (by decide: ¬((7:Int)=2)),if_neg (by decide: ¬((7:Int)=3)),if_neg (by decide: ¬((7:Int)=4)),if_neg (by decide: ¬((7:Int)=5)),if_neg (by decide: ¬((7:Int)=6)),if_pos (rfl:(7:Int)=7)];rw [if_neg (by decide: ¬(((7:Int)==1)=true)),if_neg (by decide: ¬(((7:Int)==2)=true)),if_neg (by decide: ¬(((7:Int)==3)=true)),if_neg (by decide: ¬(((7:Int)==4)=true)),if_neg (by decide: ¬(((7:Int)==5)=true)),if_neg (by decide: ¬(((7:Int)==6)=true)),if_pos (by decide:(((7:Int)==7)=true))];rw [X.gr8,z5];rfl
   by_cases h8:op=8
   ·subst h8;rw [if_neg (by decide: ¬((8:Int)=1)),if_neg (by decide: ¬((8:Int)=2)),if_neg (by decide: ¬((8:Int)=3)),if_neg (by decide: ¬((8:Int)=4)),if_neg (by decide: ¬((8:Int)=5)),if_neg (by decide: ¬((8:Int)=6)),if_neg (by decide: ¬((8:Int)=7)),if_pos (rfl:(8:Int)=8)];rw [if_neg (by decide: ¬(((8:Int)==1)=true)),if_neg (by decide: ¬(((8:Int)==2)=true)),if_neg (by decide: ¬(((8:Int)==3)=true)),if_neg (by decide: ¬(((8:Int)==4)=true)),if_neg (by decide: ¬(((8:Int)==5)=true)),if_neg (by decide: ¬(((8:Int)==6)=true)),if_neg (by decide: ¬(((8:Int)==7)=true)),if_pos (by decide:(((8:Int)==8)=true))];rw [X.gr9,z5];rfl
   by_cases h9:op=9
   ·subst h9;rw [if_neg (by decide: ¬((9:Int)=1)),if_neg (by decide: ¬((9:Int)=2)),if_neg (by decide: ¬((9:Int)=3)),if_neg (by decide: ¬((9:Int)=4)),if_neg (by decide: ¬((9:Int)=5)),if_neg (by decide: ¬((9:Int)=6)),if_neg (by decide: ¬((9:Int)=7)),if_neg (by decide: ¬((9:Int)=8)),if_pos (rfl:(9:Int)=9)];rw [if_neg (by decide: ¬(((9:Int)==1)=true)),if_neg (by decide: ¬(((9:Int)==2)=true)),if_neg (by decide: ¬(((9:Int)==3)=true)),if_neg (by decide: ¬(((9:Int)==4)=true)),if_neg (by decide: ¬(((9:Int)==5)=true)),if_neg (by decide: ¬(((9:Int)==6)=true)),if_neg (by decide: ¬(((9:Int)==7)=true)),if_neg (by decide: ¬(((9:Int)==8)=true)),if_pos (by decide:(((9:Int)==9)=true))];rw [X.gs0,if_neg (by decide),if_neg (zl1 ha (by decide)),z5];rfl
   by_cases h10:op=10
   ·subst h10;rw [if_neg (by decide: ¬((10:Int)=1)),if_neg (by decide: ¬((10:Int)=2)),if_neg (by decide: ¬((10:Int)=3)),if_neg (by decide: ¬((10:Int)=4)),if_neg (by decide: ¬((10:Int)=5)),if_neg (by decide: ¬((10:Int)=6)),if_neg (by decide: ¬((10:Int)=7)),if_neg (by decide: ¬((10:Int)=8)),if_neg (by decide: ¬((10:Int)=9)),if_pos (rfl:(10:Int)=10)];rw [if_neg (by decide: ¬(((10:Int)==1)=true)),if_neg (by decide: ¬(((10:Int)==2)=true)),if_neg (by decide: ¬(((10:Int)==3)=true)),if_neg (by decide: ¬(((10:Int)==4)=true)),if_neg (by decide: ¬(((10:Int)==5)=true)),if_neg (by decide: ¬(((10:Int)==6)=true)),if_neg (by decide: ¬(((10:Int)==7)=true)),if_neg (by decide: ¬(((10:Int)==8)=true)),if_neg (by decide: ¬(((10:Int)==9)=true)),if_pos (by decide:(((10:Int)==10)=true))];rw [X.gs1,if_neg (by decide),if_neg (zl1 ha (by decide)),z5];rfl
   by_cases h11:op=11
   ·subst h11;rw [if_neg (by decide: ¬((11:Int)=1)),if_neg (by decide: ¬((11:Int)=2)),if_neg (by decide: ¬((11:Int)=3)),if_neg (by decide: ¬((11:Int)=4)),if_neg (by decide: ¬((11:Int)=5)),if_neg (by decide: ¬((11:Int)=6)),if_neg (by decide: ¬((11:Int)=7)),if_neg (by decide: ¬((11:Int)=8)),if_neg (by decide: ¬((11:Int)=9)),if_neg (by decide: ¬((11:Int)=10)),if_pos (rfl:(11:Int)=11)];rw [if_neg (by decide: ¬(((11:Int)==1)=true)),if_neg (by decide: ¬(((11:Int)==2)=true)),if_neg (by decide: ¬(((11:Int)==3)=true)),if_neg (by decide: ¬(((11:Int)==4)=true)),if_neg (by decide: ¬(((11:Int)==5)=true)),if_neg (by decide: ¬(((11:Int)==6)=true)),if_neg (by decide: ¬(((11:Int)==7)=true)),if_neg (by decide: ¬(((11:Int)==8)=true)),if_neg (by decide: ¬(((11:Int)==9)=true)),if_neg (by decide: ¬(((11:Int)==10)=true)),if_pos (by decide:(((11:Int)==11)=true))];rw [X.gs2,if_neg (by decide),if_neg (zl1 ha (by decide)),z5];rfl
   by_cases h12:op=12
   ·subst h12;rw [if_neg (by decide: ¬((12:Int)=1)),if_neg (by decide: ¬((12:Int)=2)),if_neg (by decide: ¬((12:Int)=3)),if_neg (by decide: ¬((12:Int)=4)),if_neg (by decide: ¬((12:Int)=5)),if_neg (by decide: ¬((12:Int)=6)),if_neg (by decide: ¬((12:Int)=7)),if_neg (by decide: ¬((12:Int)=8)),if_neg (by decide: ¬((12:Int)=9)),if_neg (by decide: ¬((12:Int)=10)),if_neg (by decide: ¬((12:Int)=11)),if_pos (rfl:(12:Int)=12)];rw [if_neg (by decide: ¬(((12:Int)==1)=true)),if_neg (by decide: ¬(((12:Int)==2)=true)),if_neg (by decide: ¬(((12:Int)==3)=true)),if_neg (by decide: ¬(((12:Int)==4)=true)),if_neg (by decide: ¬(((12:Int)==5)=true)),if_neg (by decide: ¬(((12:Int)==6)=true)),if_neg (by decide: ¬(((12:Int)==7)=true)),if_neg (by decide: ¬(((12:Int)==8)=true)),if_neg (by decide: ¬(((12:Int)==9)=true)),if_neg (by decide: ¬(((12:Int)==10)=true)),if_neg (by decide: ¬(((12:Int)==11)=true)),if_pos (by decide:(((12:Int)==12)=true))];rw [X.gs3,z5];rfl
   by_cases h13:op=13
   ·subst h13;rw [if_neg (by decide: ¬((13:Int)=1)),if_neg (by decide: ¬((13:Int)=2)),if_neg (by decide: ¬((13:Int)=3)),if_neg (by decide: ¬((13:Int)=4)),if_neg (by decide: ¬((13:Int)=5)),if_neg (by decide: ¬((13:Int)=6)),if_neg (by decide: ¬((13:Int)=7)),if_neg (by decide: ¬((13:Int)=8)),if_neg (by decide: ¬((13:Int)=9)),if_neg (by decide: ¬((13:Int)=10)),if_neg (by decide: ¬((13:Int)=11)),if_neg (by decide: ¬((13:Int)=12)),if_pos (rfl:(13:Int)=13)];rw [if_neg (by decide: ¬(((13:Int)==1)=true)),if_neg (by decide: ¬(((13:Int)==2)=true)),if_neg (by decide: ¬(((13:Int)==3)=true)),if_neg (by decide: ¬(((13:Int)==4)=true)),if_neg (by decide: ¬(((13:Int)==5)=true)),if_neg (by decide: ¬(((13:Int)==6)=true)),if_neg (by decide: ¬(((13:Int)==7)=true)),if_neg (by decide: ¬(((13:Int)==8)=true)),if_neg (by decide: ¬(((13:Int)==9)=true)),if_neg (by decide: ¬(((13:Int)==10)=true)),if_neg (by decide: ¬(((13:Int)==11)=true)),if_neg (by decide: ¬(((13:Int)==12)=true)),if_pos (by decide:(((13:Int)==13)=true))];rw [X.gs4,z5];rfl
   rw [if_neg h1,if_neg h2,if_neg h3,if_neg h4,if_neg h5,if_neg h6,if_neg h7,if_neg h8,if_neg h9,if_neg h10,if_neg h11,if_neg h12,if_neg h13];rw [if_neg (by simpa using h1),if_neg (by simpa using h2),if_neg (by simpa using h3),if_neg (by simpa using h4),if_neg (by simpa using h5),if_neg (by simpa using h6),if_neg (by simpa using h7),if_neg (by simpa using h8),if_neg (by simpa using h9),if_neg (by simpa using h10),if_neg (by simpa using h11),if_neg (by simpa using h12),if_neg (by simpa using h13)]
 rw [X.gm3,e];cases h4:(op==(4:Int)) with
 |true=>rw [j4,hj _ (by rw [h4];rfl)]
 |false=>
  rw [z8];cases h5:(op==(5:Int)) with
  |true=>rw [j4,hj _ (by rw [h4,h5];rfl)]
  |false=>rw [z8,hj _ (by rw [h4,h5];rfl)]
def kr6 (x):q8 (IntKind.u32.wrap x):=by rw [zc7];omega
def vs6 (nw a b) (c:0<=b):qcb v3 11 nw a b=some (za4 11 nw a b):=by
 rw [vq5];cases nw with
 |true=>
  rw [j4,do32 _ _ _ (kr6 b).1,z5];have:yx5 11 32 (IntKind.u32.wrap a) (IntKind.u32.wrap b)=(yq8 (IntKind.u32.wrap a) (IntKind.u32.wrap b) 32,0):=rfl;unfold za4 za6;rw [if_pos rfl,this];show some (IntKind.u64.wrap (yq8 _ _ 32),(0:Int))=some (yq8 _ _ 32,0);rw [zf4];exact ⟨(kr6 _).1,(kr6 _).2⟩
 |false=>rw [z8,do64 _ _ _ c,z5];rfl
def zam2 (a b):qfm v3 a b=some (yf0 a b):=by rw [zad3];rfl
def wn9: ∀i:Fin 256,(uf0[i.val]?).map (fun b=>(b.toNat:Int))=some (tab0.getD i.val 0):=by decide+kernel
def gv1: ∀i:Fin 256,0<=tab0.getD i.val 0/\tab0.getD i.val 0<=8:=by decide+kernel
def u8in (x):0<=IntKind.u8.wrap x/\IntKind.u8.wrap x<256:=by rw [zy9];omega
def zas4 {R} (x:Int) (K:Int->Option R):jj7 uf0 (IntKind.u8.wrap x) K=K (tab0.getD (IntKind.u8.wrap x).toNat 0):=by
 have h:=u8in x;have:=wn9 ⟨(IntKind.u8.wrap x).toNat,by omega⟩;unfold jj7;rw [if_pos h.1];simp only at this;cases hs:uf0[(IntKind.u8.wrap x).toNat]? with
 |none=>rw [hs] at this;cases this
 |some b=>rw [hs] at this;simp only [Z8,X0] at this;rw [<-this]
def zal8 (x:Int):qx v3 x=some (jn3 x):=by
 obtain ⟨n,e⟩: ∃n:Nat,(v3:Nat)=n+1+1+1:=⟨999999997,rfl⟩;have j2: ∀s0 s2:Int,0<=s2/\s2<=1000->kr0 (n+1) s0 s2=some (s2+tab0.getD (IntKind.u8.wrap s0).toNat 0):=fun s0 s2 h=>by
  have h1:=u8in s0;have h2:=gv1 ⟨(IntKind.u8.wrap s0).toNat,by omega⟩;simp only at h2;rw [gd6,zas4,za1 (x:=tab0.getD _ 0) (by omega),za1 (by omega)]
 have j1: ∀s0 s2:Int,0<=s2/\s2<=900->kq9 (n+1+1) s0 s2=some (if decide (s0>=(256:Int))=true then (s2+8)+tab0.getD (IntKind.u8.wrap (zb1 .u64 s0 8)).toNat 0 else s2+tab0.getD (IntKind.u8.wrap s0).toNat 0):=fun s0 s2 h=>by
  rw [gd5,za1 (by omega),j2 _ _ (by omega),j2 _ _ (by omega),zb5]
 have j0: ∀s0 s2:Int,0<=s2/\s2<=800->kq8 (n+1+1+1) s0 s2=some (if decide (s0>=(65536:Int))=true then (if decide (zb1 .u64 s0 16>=(256:Int))=true then (s2+16+8)+tab0.getD (IntKind.u8.wrap (zb1 .u64 (zb1 .u64 s0 16) 8)).toNat 0 else s2+16+tab0.getD (IntKind.u8.wrap (zb1 .u64 s0 16)).toNat 0) else if decide (s0>=(256:Int))=true then (s2+8)+tab0.getD (IntKind.u8.wrap (zb1 .u64 s0 8)).toNat 0 else s2+tab0.getD (IntKind.u8.wrap s0).toNat 0):=fun s0 s2 h=>by
  rw [gd4,za1 (by omega),j1 _ _ (by omega),j1 _ _ (by omega),zb5]
 rw [zaq7,e,j0 _ _ (by omega),j0 _ _ (by omega),zb5];unfold jn3;simp only [show (48:Int)+8=56 from rfl,show (16:Int)+8=24 from rfl,show (32:Int)+16=48 from rfl,show (32:Int)+8=40 from rfl,show (0:Int)+16=16 from rfl,show (0:Int)+8=8 from rfl]
end Go.Y
namespace Go.Y
open Go.RowKit Go.V Go.X Go.Proofs
def wq2 (x): ¬zi1 x 1=0:=by unfold zi1;split<;>omega
end Go.Y
namespace Go.Y
open Go.RowKit Go.V Go.X Go.Proofs
def zz1 (nw):qo v3 nw=some (zh1 nw):=by rw [zap7];cases nw<;>rfl
def zc1 (s):qp v3 s=some (q9 s):=by rw [zap8];rfl
def gk0 (x):qbz v3 x=some (zq0 x):=by rw [ur6];rfl
def qa6 (s):X.qs v3 s=some (qs s):=by rw [X.zaq2,gk0,z5];rfl
def wp6 (s nw):X.qf v3 s nw=some (qf s nw):=by rw [X.zao2,zz1,z5,zb5,zb5];rfl
def wW (nw:Bool) (u v:j5):Work:=⟨u.Lo,u.Hi,v.Lo,v.Hi,nw,j9 nw,if nw then 32 else 64⟩
def tW (w:Work):Twork:=⟨⟨w.a_Lo,w.a_Hi⟩,⟨w.b_Lo,w.b_Hi⟩,w.narrow,w.most,w.size⟩
def yc3 (nw u v):tW (wW nw u v)=wk nw u v:=rfl
def zr9 (nw a b):X.qaq v3 nw a b=some (wW nw (qf a nw) (qf b nw)):=by
 rw [X.um4,wp6,z5,wp6,z5];cases nw<;>rfl
def pS (o:Option j5):Unit×((Span×Unit)⊕(Unit×Unit)):=((),match o with|some r=>.inl (r,())|none=>.inr ((),()))
def zh3 (c):qn v3 c=some ((),if c=true then .inl () else .inr ((),())):=by rw [zap6];cases c<;>rfl
def vm5 (w x y):X.qca v3 w x y=some (qca (tW w) x y):=by rw [X.ur7];rfl
def jw3 (w):X.qac v3 w=some (qac (tW w)):=by
 rw [X.uk3,qa6,z5,qa6,z5,zy3];rfl
def gh8 (x):X.qci v3 x=some (qci x):=by
 have h:0<=jn3 x:=by
  have a: ∀k:Int,0<=tab0.getD (IntKind.u8.wrap k).toNat 0:=fun k=>by
   have b:=u8in k;exact (gv1 ⟨(IntKind.u8.wrap k).toNat,by omega⟩).1
  unfold jn3
  repeat' split
  all_goals first|exact Int.add_nonneg (by decide) (a _)
 rw [X.us2,zal8,z5,if_neg (by omega)];rfl
def zaj1 (w:Work):qbo v3 w=some (pS (zs3 (tW w))):=by
 obtain ⟨n,e⟩: ∃n:Nat,(v3:Nat)=n+1:=⟨999999999,rfl⟩;rw [up8,zh3,z5,zh3,z5,e,ki1,vm5,z5];show _=some (pS (zk5 (za3 (decide (w.b_Hi<=IntKind.u64.wrap (w.most-w.a_Hi))||decide (w.b_Lo>IntKind.u64.wrap (w.most-w.a_Lo)))) none _));cases decide (w.b_Hi<=IntKind.u64.wrap (w.most-w.a_Hi))<;>cases decide (w.b_Lo>IntKind.u64.wrap (w.most-w.a_Lo))<;>rfl
def zas3 (w:Work):qbt v3 w=some (pS (zs7 (tW w))):=by
 obtain ⟨n,e⟩: ∃n:Nat,(v3:Nat)=n+1:=⟨999999999,rfl⟩;rw [uq6,zh3,z5,zh3,z5,e,ki5,vm5,z5];show _=some (pS (zk5 (za3 (decide (w.a_Lo>=w.b_Hi)||decide (w.a_Hi<w.b_Lo))) none _));cases decide (w.a_Lo>=w.b_Hi)<;>cases decide (w.a_Hi<w.b_Lo)<;>rfl
def ui7 (w:Work):qbp v3 w=some (pS (zs4 (tW w))):=by
 obtain ⟨n,e⟩: ∃n:Nat,(v3:Nat)=n+1:=⟨999999999,rfl⟩;rw [uq0,zam2,z5,zh3,z5,zh3,z5,e,ki2];show _=some (pS (zk5 (za3 (((yf0 w.a_Hi w.b_Hi).1==(0:Int))&&decide ((yf0 w.a_Hi w.b_Hi).2<=w.most))) none _));cases ((yf0 w.a_Hi w.b_Hi).1==(0:Int))<;>cases decide ((yf0 w.a_Hi w.b_Hi).2<=w.most)<;>rfl
def zaj9 (w):X.qct v3 w=some (qct (tW w)):=by
 rw [X.ut6,if_neg (wq2 _),if_neg (wq2 _)];rfl
def zal9 (w):X.qcu v3 w=some (qcu (tW w)):=by
 rw [X.ut8,zb5];rfl
def zaj2 (w):X.qcj v3 w=some (qcj (tW w)):=by
 rw [X.us3,jw3,z5,gk0,z5,zb5];rfl
def or_v (w):X.qck v3 w=some (qck (tW w)):=by
 rw [X.us5,jw3,z5,gk0,z5,gh8,z5,zb5];rfl
def zas5 (w):X.qcl v3 w=some (qcl (tW w)):=by
 rw [X.us7,jw3,z5,gk0,z5,gh8,z5,zb5];rfl
def zam0 (w):X.qcv v3 w=some (qcv (tW w)):=by rw [X.uu0];rfl
def zam3 (w):qek v3 w=some (pS (zk2 (tW w))):=by
 rw [zaa3,zh3,z5,vm5,z5];show _=some (pS (if (w.a_Hi==(0:Int))=true then some ⟨w.a_Lo,w.a_Hi⟩ else zk5 (za3 (decide (w.a_Lo>(0:Int)))) none _));cases (w.a_Hi==(0:Int))<;>cases decide (w.a_Lo>(0:Int))<;>rfl
def zar9 (w:Work) (hs:0<w.size) (hb:0<=w.b_Lo):qbs v3 w=some (pS (zs6 (tW w))):=by
 obtain ⟨n,e⟩: ∃n:Nat,(v3:Nat)=n+1:=⟨999999999,rfl⟩;have ht:=zl1 hb hs;rw [uq4,if_neg (by omega),qa6,z5,if_neg ht,zh3,z5,zh3,z5,e,ki4,if_neg ht,if_neg ht];show _=some (pS (zk5 (za3 (qs (⟨w.b_Lo,w.b_Hi⟩:j5)&&decide (w.a_Hi<=zb1 .u64 w.most (w.b_Lo.tmod w.size)))) none _));cases qs (⟨w.b_Lo,w.b_Hi⟩:j5)<;>cases decide (w.a_Hi<=zb1 .u64 w.most (w.b_Lo.tmod w.size))<;>rfl
def zas0 (w:Work) (hs:0<w.size) (hb:0<=w.b_Lo) (hc:0<=w.b_Hi):X.qax v3 w=some (qax (tW w)):=by
 obtain ⟨n,e⟩: ∃n:Nat,(v3:Nat)=n+1:=⟨999999999,rfl⟩;have ht:=zl1 hb hs;have hu:=zl1 hc hs;rw [X.un1,qa6,z5,if_neg (by omega),if_neg (by omega),e,X.qf4,X.qf4,if_neg hu,if_neg ht,if_neg (by omega),if_neg (by omega),zb5,zb5];rfl
def qj3 (w x):X.qw v3 w x=some (qw (tW w) x):=by
 rw [X.zaq6,if_neg (by rw [v7];omega)];rfl
def vu5 (w s):X.qav v3 w s=some (qav (tW w) s):=by
 rw [X.um9,qj3,z5,qj3,z5];rfl
def zar7 (w:Work) (hb:0<=w.b_Lo):qbr v3 w=some (pS (zs5 (tW w))):=by
 obtain ⟨n,e⟩: ∃n:Nat,(v3:Nat)=n+1:=⟨999999999,rfl⟩;rw [uq2,qa6,z5,vu5,z5,zh3,z5,zh3,z5,e,ki3,vs6 _ _ _ hb,z5,vs6 _ _ _ hb,z5];show _=some (pS (zk5 (za3 (qs (⟨w.b_Lo,w.b_Hi⟩:j5)&& !(qav (tW w) (⟨w.a_Lo,w.a_Hi⟩:j5)))) none _));cases qs (⟨w.b_Lo,w.b_Hi⟩:j5)<;>cases qav (tW w) (⟨w.a_Lo,w.a_Hi⟩:j5)<;>rfl
end Go.Y
namespace Go.Y
open Go.RowKit Go.V Go.X Go.Proofs
def doP (nw x):(match (pS x).2 with| .inl z=>(z6 (qag nw z.1.Lo z.1.Hi) fun y=>some ((),((⟨y.2.1.1,y.2.1.2.1⟩:Span),())))| .inr _=>(z6 (qbe nw 0 0) fun y=>some ((),((⟨y.2.1.1,y.2.1.2.1⟩:Span),()))))=some ((),(x.getD (zh1 nw),())):=by
 cases x with
 |none=>show z6 (qbe nw 0 0) _=_;rw [uo3,zz1,z5,z5];rfl
 |some r=>show z6 (qag nw r.Lo r.Hi) _=_;rw [gk8,z5];rfl
def doT (nw r):(z6 (qag nw r.Lo r.Hi) fun y=>some ((),((⟨y.2.1.1,y.2.1.2.1⟩:Span),())))=some ((),(r,())):=by rw [gk8,z5]
def doR (k) (e:1<=k/\k<=13) (nw a b):span_Do k nw a b=if ((!q9 a)|| !q9 b)=true then zh1 nw else (zc2 k (wk nw (qf a nw) (qf b nw))).getD (zh1 nw):=by
 rw [zs2,vl8];unfold q9;by_cases c:a.Lo<=a.Hi
 ·by_cases d:b.Lo<=b.Hi
  ·rw [if_pos ⟨e,c,d⟩,W6 c,W6 d];rfl
  ·rw [if_neg (fun h=>d h.2.2),W7 d,W6 c];rfl
 ·rw [if_neg (fun h=>c h.2.1),W7 c];rfl
def do1 (nw a b) (d:q8 a.Lo/\q8 a.Hi) (e:q8 b.Lo/\q8 b.Hi):qk v3 1 nw a b=some ((),(span_Do 1 nw a b,())):=by
 have c: ∀w,zc2 1 w=zs3 w:=fun w=>by
  unfold zc2;rw [if_pos (rfl:(1:Int)=1)]
 rw [doR 1 (by decide),c,yj5,zs0,z5,if_pos (rfl:(1:Int)=1),zc1,z5,zz1,z5,zc1,z5,zr9,z5];cases h1:q9 a with
 |false=>rfl
 |true=>
  cases h2:q9 b with
  |false=>rfl
  |true=>
   rw [W9,z8,z8,zaj1,z5,yc3];exact doP nw _
def do2 (nw a b) (d:q8 a.Lo/\q8 a.Hi) (e:q8 b.Lo/\q8 b.Hi):qk v3 2 nw a b=some ((),(span_Do 2 nw a b,())):=by
 have c: ∀w,zc2 2 w=zs7 w:=fun w=>by
  unfold zc2;rw [if_neg (by decide: ¬((2:Int)=1)),if_pos (rfl:(2:Int)=2)]
 rw [doR 2 (by decide),c,yj5,zs0,z5,if_neg (by decide: ¬((2:Int)=1)),if_pos (rfl:(2:Int)=2),zc1,z5,zz1,z5,zc1,z5,zr9,z5];cases h1:q9 a with
 |false=>rfl
 |true=>
  cases h2:q9 b with
  |false=>rfl
  |true=>
   rw [W9,z8,z8,zas3,z5,yc3];exact doP nw _
def do3 (nw a b) (d:q8 a.Lo/\q8 a.Hi) (e:q8 b.Lo/\q8 b.Hi):qk v3 3 nw a b=some ((),(span_Do 3 nw a b,())):=by
 have c: ∀w,zc2 3 w=zs4 w:=fun w=>by
  unfold zc2;rw [if_neg (by decide: ¬((3:Int)=1)),if_neg (by decide: ¬((3:Int)=2)),if_pos (rfl:(3:Int)=3)]
 rw [doR 3 (by decide),c,yj5,zs0,z5,if_neg (by decide: ¬((3:Int)=1)),if_neg (by decide: ¬((3:Int)=2)),if_pos (rfl:(3:Int)=3),zc1,z5,zz1,z5,zc1,z5,zr9,z5];cases h1:q9 a with
 |false=>rfl
 |true=>
  cases h2:q9 b with
  |false=>rfl
  |true=>
   rw [W9,z8,z8,ui7,z5,yc3];exact doP nw _
def do4 (nw a b) (d:q8 a.Lo/\q8 a.Hi) (e:q8 b.Lo/\q8 b.Hi):qk v3 4 nw a b=some ((),(span_Do 4 nw a b,())):=by
 have c: ∀w,zc2 4 w=some (qct w):=fun w=>by
  unfold zc2;rw [if_neg (by decide: ¬((4:Int)=1)),if_neg (by decide: ¬((4:Int)=2)),if_neg (by decide: ¬((4:Int)=3)),if_pos (rfl:(4:Int)=4)]
 rw [doR 4 (by decide),c,yj5,zs0,z5,if_neg (by decide: ¬((4:Int)=1)),if_neg (by decide: ¬((4:Int)=2)),if_neg (by decide: ¬((4:Int)=3)),if_pos (rfl:(4:Int)=4),zc1,z5,zz1,z5,zc1,z5,zr9,z5];cases h1:q9 a with
 |false=>rfl
 |true=>
  cases h2:q9 b with
  |false=>rfl
  |true=>
   rw [W9,z8,z8,zaj9,z5,yc3];exact doT nw _
def do5 (nw a b) (d:q8 a.Lo/\q8 a.Hi) (e:q8 b.Lo/\q8 b.Hi):qk v3 5 nw a b=some ((),(span_Do 5 nw a b,())):=by
 have c: ∀w,zc2 5 w=some (qcu w):=fun w=>by
  unfold zc2;rw [if_neg (by decide: ¬((5:Int)=1)),if_neg (by decide: ¬((5:Int)=2)),if_neg (by decide: ¬((5:Int)=3)),if_neg (by decide: ¬((5:Int)=4)),if_pos (rfl:(5:Int)=5)]
 rw [doR 5 (by decide),c,yj5,zs0,z5,if_neg (by decide: ¬((5:Int)=1)),if_neg (by decide: ¬((5:Int)=2)),if_neg (by decide: ¬((5:Int)=3)),if_neg (by decide: ¬((5:Int)=4)),if_pos (rfl:(5:Int)=5),zc1,z5,zz1,z5,zc1,z5,zr9,z5];cases h1:q9 a with
 |false=>rfl
 |true=>
  cases h2:q9 b with
  |false=>rfl
  |true=>
   rw [W9,z8,z8,zal9,z5,yc3];exact doT nw _
def do6 (nw a b) (d:q8 a.Lo/\q8 a.Hi) (e:q8 b.Lo/\q8 b.Hi):qk v3 6 nw a b=some ((),(span_Do 6 nw a b,())):=by
 have c: ∀w,zc2 6 w=some (qcj w):=fun w=>by
  unfold zc2;rw [if_neg (by decide: ¬((6:Int)=1)),if_neg (by decide: ¬((6:Int)=2)),if_neg (by decide: ¬((6:Int)=3)),if_neg (by decide: ¬((6:Int)=4)),if_neg (by decide: ¬((6:Int)=5)),if_pos (rfl:(6:Int)=6)]
 rw [doR 6 (by decide),c,yj5,zs0,z5,if_neg (by decide: ¬((6:Int)=1)),if_neg (by decide: ¬((6:Int)=2)),if_neg (by decide: ¬((6:Int)=3)),if_neg (by decide: ¬((6:Int)=4)),if_neg (by decide: ¬((6:Int)=5)),if_pos (rfl:(6:Int)=6),zc1,z5,zz1,z5,zc1,z5,zr9,z5];cases h1:q9 a with
 |false=>rfl
 |true=>
  cases h2:q9 b with
  |false=>rfl
  |true=>
   rw [W9,z8,z8,zaj2,z5,yc3];exact doT nw _
def do7 (nw a b) (d:q8 a.Lo/\q8 a.Hi) (e:q8 b.Lo/\q8 b.Hi):qk v3 7 nw a b=some ((),(span_Do 7 nw a b,())):=by
 have c: ∀w,zc2 7 w=some (qck w):=fun w=>by
  unfold zc2;rw [if_neg (by decide: ¬((7:Int)=1)),if_neg (by decide: ¬((7:Int)=2)),if_neg (by decide: ¬((7:Int)=3)),if_neg (by decide: ¬((7:Int)=4)),if_neg (by decide: ¬((7:Int)=5)),if_neg (by decide: ¬((7:Int)=6)),if_pos (rfl:(7:Int)=7)]
 rw [doR 7 (by decide),c,yj5,zs0,z5,if_neg (by decide: ¬((7:Int)=1)),if_neg (by decide: ¬((7:Int)=2)),if_neg (by decide: ¬((7:Int)=3)),if_neg (by decide: ¬((7:Int)=4)),if_neg (by decide: ¬((7:Int)=5)),if_neg (by decide: ¬((7:Int)=6)),if_pos (rfl:(7:Int)=7),zc1,z5,zz1,z5,zc1,z5,zr9,z5];cases h1:q9 a with
 |false=>rfl
 |true=>
  cases h2:q9 b with
  |false=>rfl
  |true=>
   rw [W9,z8,z8,or_v,z5,yc3];exact doT nw _
def do8 (nw a b) (d:q8 a.Lo/\q8 a.Hi) (e:q8 b.Lo/\q8 b.Hi):qk v3 8 nw a b=some ((),(span_Do 8 nw a b,())):=by
 have c: ∀w,zc2 8 w=some (qcl w):=fun w=>by
  unfold zc2;rw [if_neg (by decide: ¬((8:Int)=1)),if_neg (by decide: ¬((8:Int)=2)),if_neg (by decide: ¬((8:Int)=3)),if_neg (by decide: ¬((8:Int)=4)),if_neg (by decide: ¬((8:Int)=5)),if_neg (by decide: ¬((8:Int)=6)),if_neg (by decide: ¬((8:Int)=7)),if_pos (rfl:(8:Int)=8)]
 rw [doR 8 (by decide),c,yj5,zs0,z5,if_neg (by decide: ¬((8:Int)=1)),if_neg (by decide: ¬((8:Int)=2)),if_neg (by decide: ¬((8:Int)=3)),if_neg (by decide: ¬((8:Int)=4)),if_neg (by decide: ¬((8:Int)=5)),if_neg (by decide: ¬((8:Int)=6)),if_neg (by decide: ¬((8:Int)=7)),if_pos (rfl:(8:Int)=8),zc1,z5,zz1,z5,zc1,z5,zr9,z5];cases h1:q9 a with
 |false=>rfl
 |true=>
  cases h2:q9 b with
  |false=>rfl
  |true=>
   rw [W9,z8,z8,zas5,z5,yc3];exact doT nw _
def do9 (nw a b) (c:q8 a.Lo/\q8 a.Hi) (d:q8 b.Lo/\q8 b.Hi):qk v3 9 nw a b=some ((),(span_Do 9 nw a b,())):=by
 have e: ∀w,zc2 9 w=zs6 w:=fun w=>by
  unfold zc2;rw [if_neg (by decide: ¬((9:Int)=1)),if_neg (by decide: ¬((9:Int)=2)),if_neg (by decide: ¬((9:Int)=3)),if_neg (by decide: ¬((9:Int)=4)),if_neg (by decide: ¬((9:Int)=5)),if_neg (by decide: ¬((9:Int)=6)),if_neg (by decide: ¬((9:Int)=7)),if_neg (by decide: ¬((9:Int)=8)),if_pos (rfl:(9:Int)=9)]
 rw [doR 9 (by decide),e,yj5,zs0,z5,if_neg (by decide: ¬((9:Int)=1)),if_neg (by decide: ¬((9:Int)=2)),if_neg (by decide: ¬((9:Int)=3)),if_neg (by decide: ¬((9:Int)=4)),if_neg (by decide: ¬((9:Int)=5)),if_neg (by decide: ¬((9:Int)=6)),if_neg (by decide: ¬((9:Int)=7)),if_neg (by decide: ¬((9:Int)=8)),if_pos (rfl:(9:Int)=9),zc1,z5,zz1,z5,zc1,z5,zr9,z5];cases h1:q9 a with
 |false=>rfl
 |true=>
  cases h2:q9 b with
  |false=>rfl
  |true=>
   have h:=(zm0 (nw:=nw) c (of_decide_eq_true h1)).u;have f:=(zm0 (nw:=nw) d (of_decide_eq_true h2)).u;have g:0<(wW nw (qf a nw) (qf b nw)).size:=by unfold wW;cases nw;exact (by decide:(0:Int)<64);exact (by decide:(0:Int)<32)
   rw [W9,z8,z8,zar9 _ g f.1.1,z5,yc3];exact doP nw _
def do10 (nw a b) (d:q8 a.Lo/\q8 a.Hi) (e:q8 b.Lo/\q8 b.Hi):qk v3 10 nw a b=some ((),(span_Do 10 nw a b,())):=by
 have f: ∀w,zc2 10 w=some (qax w):=fun w=>by
  unfold zc2;rw [if_neg (by decide: ¬((10:Int)=1)),if_neg (by decide: ¬((10:Int)=2)),if_neg (by decide: ¬((10:Int)=3)),if_neg (by decide: ¬((10:Int)=4)),if_neg (by decide: ¬((10:Int)=5)),if_neg (by decide: ¬((10:Int)=6)),if_neg (by decide: ¬((10:Int)=7)),if_neg (by decide: ¬((10:Int)=8)),if_neg (by decide: ¬((10:Int)=9)),if_pos (rfl:(10:Int)=10)]
 rw [doR 10 (by decide),f,yj5,zs0,z5,if_neg (by decide: ¬((10:Int)=1)),if_neg (by decide: ¬((10:Int)=2)),if_neg (by decide: ¬((10:Int)=3)),if_neg (by decide: ¬((10:Int)=4)),if_neg (by decide: ¬((10:Int)=5)),if_neg (by decide: ¬((10:Int)=6)),if_neg (by decide: ¬((10:Int)=7)),if_neg (by decide: ¬((10:Int)=8)),if_neg (by decide: ¬((10:Int)=9)),if_pos (rfl:(10:Int)=10),zc1,z5,zz1,z5,zc1,z5,zr9,z5];cases h1:q9 a with
 |false=>rfl
 |true=>
  cases h2:q9 b with
  |false=>rfl
  |true=>
   have h:=(zm0 (nw:=nw) d (of_decide_eq_true h1)).u;have c:=(zm0 (nw:=nw) e (of_decide_eq_true h2)).u;have g:0<(wW nw (qf a nw) (qf b nw)).size:=by unfold wW;cases nw;exact (by decide:(0:Int)<64);exact (by decide:(0:Int)<32)
   rw [W9,z8,z8,zas0 _ g c.1.1 c.2.1,z5,yc3];exact doT nw _
def do11 (nw a b) (c:q8 a.Lo/\q8 a.Hi) (d:q8 b.Lo/\q8 b.Hi):qk v3 11 nw a b=some ((),(span_Do 11 nw a b,())):=by
 have e: ∀w,zc2 11 w=zs5 w:=fun w=>by
  unfold zc2;rw [if_neg (by decide: ¬((11:Int)=1)),if_neg (by decide: ¬((11:Int)=2)),if_neg (by decide: ¬((11:Int)=3)),if_neg (by decide: ¬((11:Int)=4)),if_neg (by decide: ¬((11:Int)=5)),if_neg (by decide: ¬((11:Int)=6)),if_neg (by decide: ¬((11:Int)=7)),if_neg (by decide: ¬((11:Int)=8)),if_neg (by decide: ¬((11:Int)=9)),if_neg (by decide: ¬((11:Int)=10)),if_pos (rfl:(11:Int)=11)]
 rw [doR 11 (by decide),e,yj5,zs0,z5,if_neg (by decide: ¬((11:Int)=1)),if_neg (by decide: ¬((11:Int)=2)),if_neg (by decide: ¬((11:Int)=3)),if_neg (by decide: ¬((11:Int)=4)),if_neg (by decide: ¬((11:Int)=5)),if_neg (by decide: ¬((11:Int)=6)),if_neg (by decide: ¬((11:Int)=7)),if_neg (by decide: ¬((11:Int)=8)),if_neg (by decide: ¬((11:Int)=9)),if_neg (by decide: ¬((11:Int)=10)),if_pos (rfl:(11:Int)=11),zc1,z5,zz1,z5,zc1,z5,zr9,z5];cases h1:q9 a with
 |false=>rfl
 |true=>
  cases h2:q9 b with
  |false=>rfl
  |true=>
   have g:=(zm0 (nw:=nw) c (of_decide_eq_true h1)).u;have f:=(zm0 (nw:=nw) d (of_decide_eq_true h2)).u;rw [W9,z8,z8,zar7 _ f.1.1,z5,yc3];exact doP nw _
def do12 (nw a b) (d:q8 a.Lo/\q8 a.Hi) (e:q8 b.Lo/\q8 b.Hi):qk v3 12 nw a b=some ((),(span_Do 12 nw a b,())):=by
 have c: ∀w,zc2 12 w=some (qcv w):=fun w=>by
  unfold zc2;rw [if_neg (by decide: ¬((12:Int)=1)),if_neg (by decide: ¬((12:Int)=2)),if_neg (by decide: ¬((12:Int)=3)),if_neg (by decide: ¬((12:Int)=4)),if_neg (by decide: ¬((12:Int)=5)),if_neg (by decide: ¬((12:Int)=6)),if_neg (by decide: ¬((12:Int)=7)),if_neg (by decide: ¬((12:Int)=8)),if_neg (by decide: ¬((12:Int)=9)),if_neg (by decide: ¬((12:Int)=10)),if_neg (by decide: ¬((12:Int)=11)),if_pos (rfl:(12:Int)=12)]
 rw [doR 12 (by decide),c,yj5,zs0,z5,if_neg (by decide: ¬((12:Int)=1)),if_neg (by decide: ¬((12:Int)=2)),if_neg (by decide: ¬((12:Int)=3)),if_neg (by decide: ¬((12:Int)=4)),if_neg (by decide: ¬((12:Int)=5)),if_neg (by decide: ¬((12:Int)=6)),if_neg (by decide: ¬((12:Int)=7)),if_neg (by decide: ¬((12:Int)=8)),if_neg (by decide: ¬((12:Int)=9)),if_neg (by decide: ¬((12:Int)=10)),if_neg (by decide: ¬((12:Int)=11)),if_pos (rfl:(12:Int)=12),zc1,z5,zz1,z5,zc1,z5,zr9,z5];cases h1:q9 a with
 |false=>rfl
 |true=>
  cases h2:q9 b with
  |false=>rfl
  |true=>
   rw [W9,z8,z8,zam0,z5,yc3];exact doT nw _
def do13 (nw a b) (d:q8 a.Lo/\q8 a.Hi) (e:q8 b.Lo/\q8 b.Hi):qk v3 13 nw a b=some ((),(span_Do 13 nw a b,())):=by
 have c: ∀w,zc2 13 w=zk2 w:=fun w=>by
  unfold zc2;rw [if_neg (by decide: ¬((13:Int)=1)),if_neg (by decide: ¬((13:Int)=2)),if_neg (by decide: ¬((13:Int)=3)),if_neg (by decide: ¬((13:Int)=4)),if_neg (by decide: ¬((13:Int)=5)),if_neg (by decide: ¬((13:Int)=6)),if_neg (by decide: ¬((13:Int)=7)),if_neg (by decide: ¬((13:Int)=8)),if_neg (by decide: ¬((13:Int)=9)),if_neg (by decide: ¬((13:Int)=10)),if_neg (by decide: ¬((13:Int)=11)),if_neg (by decide: ¬((13:Int)=12))]
 rw [doR 13 (by decide),c,yj5,zs0,z5,if_neg (by decide: ¬((13:Int)=1)),if_neg (by decide: ¬((13:Int)=2)),if_neg (by decide: ¬((13:Int)=3)),if_neg (by decide: ¬((13:Int)=4)),if_neg (by decide: ¬((13:Int)=5)),if_neg (by decide: ¬((13:Int)=6)),if_neg (by decide: ¬((13:Int)=7)),if_neg (by decide: ¬((13:Int)=8)),if_neg (by decide: ¬((13:Int)=9)),if_neg (by decide: ¬((13:Int)=10)),if_neg (by decide: ¬((13:Int)=11)),if_neg (by decide: ¬((13:Int)=12)),if_pos (rfl:(13:Int)=13),zc1,z5,zz1,z5,zc1,z5,zr9,z5];cases h1:q9 a with
 |false=>rfl
 |true=>
  cases h2:q9 b with
  |false=>rfl
  |true=>
   rw [W9,z8,z8,zam3,z5,yc3];exact doP nw _
def do_v (op nw a b) (c:q8 a.Lo/\q8 a.Hi) (d:q8 b.Lo/\q8 b.Hi):qk v3 op nw a b=some ((),(span_Do op nw a b,())):=by
 by_cases j:op=1
 ·subst j;exact do1 nw a b c d
 by_cases k:op=2
 ·subst k;exact do2 nw a b c d
 by_cases l:op=3
 ·subst l;exact do3 nw a b c d
 by_cases m:op=4
 ·subst m;exact do4 nw a b c d
 by_cases n:op=5
 ·subst n;exact do5 nw a b c d
 by_cases o:op=6
 ·subst o;exact do6 nw a b c d
 by_cases p:op=7
 ·subst p;exact do7 nw a b c d
 by_cases q:op=8
 ·subst q;exact do8 nw a b c d
 by_cases r:op=9
 ·subst r;exact do9 nw a b c d
 by_cases e:op=10
 ·subst e;exact do10 nw a b c d
 by_cases f:op=11
 ·subst f;exact do11 nw a b c d
 by_cases g:op=12
 ·subst g;exact do12 nw a b c d
 by_cases i:op=13
 ·subst i;exact do13 nw a b c d
 rw [yj5,zs0,z5,if_neg j,if_neg k,if_neg l,if_neg m,if_neg n,if_neg o,if_neg p,if_neg q,if_neg r,if_neg e,if_neg f,if_neg g,if_neg i,zz1,z5,zs2,if_neg (fun h=>by have:=h.1;omega),vl8]
end Go.Y
namespace Go.Y
open Go.RowKit Go.V Go.X Go.Proofs
def jp4 (nw):j9 nw<=18446744073709551615:=by cases nw<;>decide
def finE (nw:Bool) (a b:j5) (o:Option (j5×j5)):Span×Span×Bool:=match o with|none=>(⟨0,0⟩,⟨0,0⟩,false)|some x=>(if a.Hi>j9 nw then a else x.1,if b.Hi>j9 nw then b else x.2,true)
def ky3 {op} (a:17<=op/\op<=26):17<=jg5 op/\jg5 op<=26:=by
 unfold jg5
 repeat' split
 all_goals omega
def ifE (op:Int) (nw yes:Bool) (a b:j5):Span×Span×Bool:=if (17<=op/\op<=27)/\a.Lo<=a.Hi/\b.Lo<=b.Hi then finE nw a b (qb1 nw op yes (qf a nw) (qf b nw)) else (a,b,true)
def kk5 (op nw yes a b) (c:q8 a.Lo/\q8 a.Hi) (d:q8 b.Lo/\q8 b.Hi):zr5 op nw yes a b=ifE op nw yes a b:=by
 unfold ifE;by_cases h:(17<=op/\op<=27)/\a.Lo<=a.Hi/\b.Lo<=b.Hi
 ·rw [if_pos h,jr8 h.1 c d h.2.1 h.2.2];rfl
 ·rw [if_neg h];unfold zr5;rw [if_pos];unfold q9;simp only [V5,decide_eq_true_eq,V4,decide_eq_false_iff_not];omega
end Go.Y
namespace Go.Y
open Go.RowKit Go.V Go.X Go.Proofs
def Rt (s:j5):Prop:=s.Lo<=s.Hi
def Snd (o:Option (j5×j5)) (u v:j5) (p q:Int):Prop:= ∃x y,o=some (x,y)/\Rt x/\Rt y/\Hs x p/\Hs y q/\Wi x u/\Wi y v
def Snd.swap {o u v p q} (h:Snd o u v p q):Snd (jj8 o) v u q p:=by
 obtain ⟨x,y,rfl,a,b,c,d,e,f⟩:=h;exact ⟨y,x,rfl,b,a,d,c,f,e⟩
def jm3 {o u v p q} (x y) (c:o=some (x,y)) (a:Rt x/\Hs x p/\Wi x u) (b:Rt y/\Hs y q/\Wi y v):Snd o u v p q:=
 ⟨x,y,c,a.1,b.1,a.2.1,b.2.1,a.2.2,b.2.2⟩
def jv7 {u v p q} (a:Hs u p) (b:Hs v q):Snd (some (u,v)) u v p q:=
 jm3 u v rfl ⟨J3 a.1 a.2,a,U0 _,U0 _⟩ ⟨J3 b.1 b.2,b,U0 _,U0 _⟩
def gi2 {u v p q} (a:Hs u p) (b:Hs v q) (h:p>q):Snd (gtE u v) u v p q:=by
 have p1:=a.1;have p2:=a.2;have c:=b.1;have d:=b.2;refine jm3 _ _ (if_pos (by omega)) ⟨?_,⟨?_,?_⟩,?_,?_⟩ ⟨?_,⟨?_,?_⟩,?_,?_⟩
 all_goals simp only [Rt]
 all_goals omega
def gi0 {u v p q} (a:Hs u p) (b:Hs v q) (h:p>=q):Snd (geE u v) u v p q:=by
 have p1:=a.1;have p2:=a.2;have c:=b.1;have d:=b.2;refine jm3 _ _ (if_pos (by omega)) ⟨?_,⟨?_,?_⟩,?_,?_⟩ ⟨?_,⟨?_,?_⟩,?_,?_⟩
 all_goals simp only [Rt]
 all_goals omega
def gv7 {u v p q} (a:Hs u p) (b:Hs v q) (h:p≠q):Rt (woE u v)/\Hs (woE u v) p/\Wi (woE u v) u:=by
 have p1:=a.1;have p2:=a.2;have d:=b.1;have e:=b.2;unfold woE;by_cases c:u.Lo=u.Hi\/v.Lo≠v.Hi
 ·rw [if_pos c];exact ⟨by unfold Rt;omega,a,U0 _,U0 _⟩
 ·rw [if_neg c];refine ⟨?_,⟨?_,?_⟩,?_,?_⟩
  all_goals simp only [Rt]
  all_goals (try split)<;>(try split)<;>omega
def qe2 {op} (c:17<=op/\op<=22) {nw u v p q} (a:Hs u p) (b:Hs v q) (h:isE nw op p q=true):Snd (zy6 op u v) u v p q:=by
 have p1:=a.1;have p2:=a.2;have e:=b.1;have f:=b.2;have d:op=17\/op=18\/op=19\/op=20\/op=21\/op=22:=by omega
 rcases d with rfl|rfl|rfl|rfl|rfl|rfl
 ·have h:p=q:=of_decide_eq_true h;show Snd (if max u.Lo v.Lo<=min u.Hi v.Hi then some (⟨max u.Lo v.Lo,min u.Hi v.Hi⟩,⟨max u.Lo v.Lo,min u.Hi v.Hi⟩) else none) u v p q;refine jm3 _ _ (if_pos (by omega)) ⟨?_,⟨?_,?_⟩,?_,?_⟩ ⟨?_,⟨?_,?_⟩,?_,?_⟩
  all_goals simp only [Rt]
  all_goals omega
 ·have h:p≠q:=of_decide_eq_true h;show Snd (if u.Lo=u.Hi/\v.Lo=v.Hi/\u.Lo=v.Lo then none else some (woE u v,woE v u)) u v p q;exact jm3 _ _ (if_neg (by omega)) (gv7 a b h) (gv7 b a (Ne.symm h))
 ·exact gi2 a b (of_decide_eq_true h)
 ·exact gi0 a b (of_decide_eq_true h)
 ·exact (gi2 b a (show p<q from of_decide_eq_true h)).swap
 ·exact (gi0 b a (show p<=q from of_decide_eq_true h)).swap
def vu9 {nw u p} (a:Hs u p) (h:zc3 nw u.Lo=zc3 nw u.Hi):zc3 nw p=zc3 nw u.Lo:=by
 have p1:=a.1;have p2:=a.2;unfold zc3 at *;rw [U4,decide_eq_true_eq,decide_eq_true_eq] at *;omega
def gv0 {nw p q} (h:zc3 nw p=zc3 nw q):sgn nw p<sgn nw q↔p<q:=by
 unfold zc3 at h;unfold sgn;rw [U4,decide_eq_true_eq,decide_eq_true_eq] at h;split<;>split<;>omega
def zai7 {nw p q} (a:0<=p/\p<=j9 nw) (b:0<=q/\q<=j9 nw) (h:zc3 nw p≠zc3 nw q):(sgn nw p<sgn nw q↔zc3 nw q=false)/\sgn nw p≠sgn nw q:=by
 unfold sgn;cases h1:zc3 nw p<;>cases h2:zc3 nw q
 ·rw [h1,h2] at h;exact absurd rfl h
 ·unfold zc3 at h1 h2;simp at h1 h2;rw [if_neg (by omega),if_pos h2];simp;omega
 ·unfold zc3 at h1 h2;simp at h1 h2;rw [if_pos h1,if_neg (by omega)];simp;omega
 ·rw [h1,h2] at h;exact absurd rfl h
def vk8 {op} (n:23<=op/\op<=26) {nw u v} (i:SpOk nw u) (j:SpOk nw v) {p q} (b:Hs u p) (c:Hs v q) (h:isE nw op p q=true):Snd (zr4 nw op u v) u v p q:=by
 have k:op=23\/op=24\/op=25\/op=26:=by omega
 unfold zr4;split
 ·exact jv7 b c
 ·rename_i l;have o:zc3 nw u.Lo=zc3 nw u.Hi:=Classical.byContradiction fun d=>l (.inl d);have r:zc3 nw v.Lo=zc3 nw v.Hi:=Classical.byContradiction fun d=>l (.inr d);have m:=vu9 b o;have f:=vu9 c r;split
  ·rename_i g;have e:zc3 nw p=zc3 nw q:=by rw [m,f,g]
   have a:=gv0 e;have l2:=gv0 e.symm;refine qe2 (nw:=nw) (by omega) b c ?_;rcases k with rfl|rfl|rfl|rfl
   ·have h:sgn nw p>sgn nw q:=of_decide_eq_true h;exact W6 (show p>q from l2.1 h)
   ·have h:sgn nw p>=sgn nw q:=of_decide_eq_true h;exact W6 (show p>=q by omega)
   ·have h:sgn nw p<sgn nw q:=of_decide_eq_true h;exact W6 (show p<q from a.1 h)
   ·have h:sgn nw p<=sgn nw q:=of_decide_eq_true h;exact W6 (show p<=q by omega)
  ·rename_i g;have s:0<=p/\p<=j9 nw:=by have:=b.1;have:=b.2;have:=i.lo;have:=i.hi;omega
   have t:0<=q/\q<=j9 nw:=by have:=c.1;have:=c.2;have:=j.lo;have:=j.hi;omega
   obtain ⟨a,l2⟩:=zai7 s t (by rw [m,f];exact g);rw [f] at a;rw [if_pos]
   ·exact jv7 b c
   ·rcases k with rfl|rfl|rfl|rfl
    ·have h:sgn nw p>sgn nw q:=of_decide_eq_true h;cases hb:zc3 nw v.Lo with
     |true=>simp
     |false=>have:=a.2 hb;omega
    ·have h:sgn nw p>=sgn nw q:=of_decide_eq_true h;cases hb:zc3 nw v.Lo with
     |true=>simp
     |false=>have:=a.2 hb;omega
    ·have h:sgn nw p<sgn nw q:=of_decide_eq_true h;rw [a.1 h];simp
    ·have h:sgn nw p<=sgn nw q:=of_decide_eq_true h;rw [a.1 (by omega)];simp
def wn1 {yes nw u v} (c:SpOk nw u) (d:SpOk nw v) {p q} (a:Hs u p) (b:Hs v q) (h:isE nw 27 p q=yes):Snd (zx6 yes u v) u v p q:=by
 have p1:=a.1;have p2:=a.2;have j:=b.1;have k:=b.2;have l:=c.lo;have m:=d.lo;cases yes with
 |false=>
  have h:p.toNat&&&q.toNat=0:=by have:=of_decide_eq_false h;simpa using this
  unfold zx6;rw [if_pos rfl,if_neg]
  ·exact jv7 a b
  ·rintro ⟨c1,c2,c3⟩
   rw [show u.Lo=p by omega,show v.Lo=q by omega] at c3;exact c3 h
 |true=>
  have h:p.toNat&&&q.toNat≠0:=of_decide_eq_true h;have f:p≠0:=by intro e;rw [e] at h;simp at h
  have g:q≠0:=by intro e;rw [e] at h;simp at h
  unfold zx6;rw [if_neg (by decide)];have i: ¬(u.Lo=u.Hi/\v.Lo=v.Hi/\u.Lo.toNat&&&v.Lo.toNat=0):=by
   rintro ⟨c1,c2,c3⟩
   rw [show u.Lo=p by omega,show v.Lo=q by omega] at c3;exact h c3
  refine jm3 _ _ (if_pos ⟨by omega,by omega,i⟩) ⟨?_,⟨?_,?_⟩,?_,?_⟩ ⟨?_,⟨?_,?_⟩,?_,?_⟩
  all_goals simp only [Rt]
  all_goals omega
def ui9 {op} (a:17<=op/\op<=26) {nw p q}:isE nw (jg5 op) p q= !isE nw op p q:=by
 have b:op=17\/op=18\/op=19\/op=20\/op=21\/op=22\/op=23\/op=24\/op=25\/op=26:=by omega
 rcases b with rfl|rfl|rfl|rfl|rfl|rfl|rfl|rfl|rfl|rfl
 ·show decide (p≠q)= !decide (p=q);simp
 ·show decide (p=q)= !decide (p≠q);simp
 ·show decide (p<=q)= !decide (p>q);rw [U4];simp
 ·show decide (p<q)= !decide (p>=q);rw [U4];simp
 ·show decide (p>=q)= !decide (p<q);rw [U4];simp
 ·show decide (p>q)= !decide (p<=q);rw [U4];simp
 ·show decide (sgn nw p<=sgn nw q)= !decide (sgn nw p>sgn nw q);rw [U4];simp
 ·show decide (sgn nw p<sgn nw q)= !decide (sgn nw p>=sgn nw q);rw [U4];simp
 ·show decide (sgn nw p>=sgn nw q)= !decide (sgn nw p<sgn nw q);rw [U4];simp
 ·show decide (sgn nw p>sgn nw q)= !decide (sgn nw p<=sgn nw q);rw [U4];simp
def qd8 {op} (a:17<=op/\op<=26):17<=jg5 op/\jg5 op<=26/\(jg5 op>=23↔op>=23):=by
 unfold jg5
 repeat' split
 all_goals omega
def we6 {op} (j:17<=op/\op<=27) {nw yes u v} (f:SpOk nw u) (g:SpOk nw v) {p q} (c:Hs u p) (d:Hs v q) (h:isE nw op p q=yes):Snd (qb1 nw op yes u v) u v p q:=by
 unfold qb1;by_cases a:op=27
 ·subst a;rw [if_pos rfl];exact wn1 f g c d h
 ·rw [if_neg a];have b: ∀o:Int,17<=o/\o<=26->isE nw o p q=true->Snd (if o>=23 then zr4 nw o u v else zy6 o u v) u v p q:=by
   intro o e i;split
   ·exact vk8 (by omega) f g c d i
   ·exact qe2 (by omega) c d i
  cases yes with
  |true=>exact b op (by omega) h
  |false=>
   have e:=qd8 (op:=op) (by omega);exact b (jg5 op) ⟨e.1,e.2.1⟩ (by rw [ui9 (by omega),h];rfl)
def ug7 {s nw} (h:q8 s.Lo/\q8 s.Hi) (b:s.Lo<=s.Hi) (a:s.Hi<=j9 nw):qf s nw=s:=by
 cases nw with
 |false=>rfl
 |true=>
  have a:s.Hi<=4294967295:=a;unfold qf;simp only [W9,U1,if_false,wd0,yk1 h.1,yk1 h.2];rw [if_neg (by simp;omega),show s.Lo%4294967296=s.Lo by omega,show s.Hi%4294967296=s.Hi by omega]
def wf5 {nw p} (h:0<=p/\p<=j9 nw):yc5 nw p=p:=by
 cases nw with
 |false=>rfl
 |true=>have a:p<=4294967295:=h.2;show p%4294967296=p;omega
def uf6 {op} (g:17<=op/\op<=27) {nw yes a b} (k:q8 a.Lo/\q8 a.Hi) (l:q8 b.Lo/\q8 b.Hi) (c:a.Lo<=a.Hi) (d:b.Lo<=b.Hi) {p q} (f:Hs a p) (u:Hs b q) (h:isE nw op (yc5 nw p) (yc5 nw q)=yes):
  (zr5 op nw yes a b).2.2=true/\Rt (zr5 op nw yes a b).1/\Rt (zr5 op nw yes a b).2.1/\Hs (zr5 op nw yes a b).1 p/\Hs (zr5 op nw yes a b).2.1 q/\Wi (zr5 op nw yes a b).1 a/\Wi (zr5 op nw yes a b).2.1 b:=by
 obtain ⟨x,y,e,o,m,n,v,w,z⟩:=we6 g (nw:=nw) (yes:=yes) (zm0 k c) (zm0 l d) (jn9 k f) (jn9 l u) h;rw [jr8 g k l c d,e];have i: ∀(s x:j5) (p:Int),(q8 s.Lo/\q8 s.Hi)->s.Lo<=s.Hi->Hs s p->Rt x->Hs x (yc5 nw p)->Wi x (qf s nw)->Rt (if s.Hi>j9 nw then s else x)/\Hs (if s.Hi>j9 nw then s else x) p/\Wi (if s.Hi>j9 nw then s else x) s:=by
  intro s x p A j f o m n;split
  ·exact ⟨j,f,U0 _,U0 _⟩
  ·rename_i B;rw [ug7 A j (by omega)] at n;rw [wf5 (by have:=f.1;have:=f.2;omega)] at m;exact ⟨o,m,n⟩
 have r:=i a x p k c f o n w;have t:=i b y q l d u m v z;exact ⟨rfl,r.1,t.1,r.2.1,t.2.1,r.2.2,t.2.2⟩
end Go.Y
