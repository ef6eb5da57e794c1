import Derived.Test.YtbanjakljpjknaaGreatIb
import Derived.Test.YtbanjakljpjknaaGreatM1
import Derived.Test.YtbanjakljpjknaaGreatIa
import Derived.Test.YtbanjakljpjknaaGreatIc
set_option linter.defProp false
namespace Go.Y
open Go.RowKit Go.V Go.X Go.Proofs
def zo9 (x:Int):Prop:=x=1\/x=2\/x=4\/x=8
instance (x:Int):Decidable (zo9 x):=by unfold zo9;infer_instance
def zi7 (b:List Bool) (a c:Int):Int:=if b.length≠512\/ ¬zo9 c then 2 else if a< -512\/a> -c then 112 else 0
def jo1 (b:List Bool) (p:Nat):Nat->List Bool
 |0=>b
 |k+1=>(jo1 b p k).set (p+k) true
def je9 (b p): ∀k,(jo1 b p k).length=b.length
 |0=>rfl
 |k+1=>by rw [jo1,Q1,je9 b p k]
def qy6 {b:List Bool} {at_ sz:Int} (h:zi7 b at_ sz=0):b.length=512/\zo9 sz/\ -512<=at_/\at_<= -sz:=by
 unfold zi7 at h
 grind
def qn3 (b:List Bool) (a c:Int):List Bool×Int:=if zi7 b a c=0 then (jo1 b (a+512).toNat c.toNat,0) else ([],zi7 b a c)
def ve5 (b:List Bool) (p m:Nat) (k:Nat):Bool:=(List.range' k (m-k)).all fun i=>b.getD (p+i) false
def vz5 (b:List Bool) (p m k:Nat) (h:k<m):ve5 b p m k=(b.getD (p+k) false&&ve5 b p m (k+1)):=by
 unfold ve5
 grind
def kq5 (b p m):ve5 b p m m=true:=by unfold ve5;simp
def kn9 (b:List Bool) (a c:Int):Int:=if zi7 b a c=0 then (if ve5 b (a+512).toNat c.toNat 0=true then 0 else 110) else zi7 b a c
def yd7 (a b r:List Bool):Nat->List Bool
 |0=>r
 |k+1=>(yd7 a b r k).set k (a.getD k false&&b.getD k false)
def jf4 (a b r): ∀k,(yd7 a b r k).length=r.length
 |0=>rfl
 |k+1=>by rw [yd7,Q1,jf4 a b r k]
def ja5 (a b r:List Bool) (j:Nat): ∀k,(yd7 a b r k)[j]?=if j<k/\j<r.length then some (a.getD j false&&b.getD j false) else r[j]?
 |0=>by simp [yd7]
 |k+1=>by
  rw [yd7,List.getElem?_set,ja5 a b r j k,jf4]
  grind
def vh4 (a b:List Bool):List Bool:=if a.length=512/\b.length=512 then yd7 a b (List.replicate 512 false) 512 else []
def qq6 (b) (h:b.length=512):qbp g9 b=some ((),.inl (b,())):=by
 rw [gl9,show (((b.length:Nat):Int) != 512)=false by simp [h],j5,if_pos (by omega)]
def km3 (b) (h: ¬b.length=512):qbp g9 b=some ((),.inr (2,())):=by
 rw [gl9,show (((b.length:Nat):Int) != 512)=true by simp only [bne_iff_ne,ne_eq];omega,j7]
def qt0 (x:Int):Bool:=decide (zo9 x)
def wk0 {R} (x:Int) (f:Bool->Option R):j9 (x==1) (f (x==1)) (j9 (x==2) (f (x==2)) (j9 (x==4) (f (x==4)) (f (x==8))))=f (qt0 x):=by
 by_cases a:x=1
 ·subst a;rfl
 by_cases b:x=2
 ·subst b;rfl
 by_cases c:x=4
 ·subst c;rfl
 by_cases d:x=8
 ·subst d;rfl
 have e:qt0 x=false:=W5 (by unfold zo9;omega);rw [show (x==1)=false by simpa using a,show (x==2)=false by simpa using b,show (x==4)=false by simpa using c,show (x==8)=false by simpa using d,e];rfl
def zan5 (b:List Bool) (hl:b.length=512) (at_ sz:Int):qo g9 b at_ sz=some (((b,()),()),if zi7 b at_ sz=0 then .inl (((at_+512).toNat,sz.toNat),()) else .inr (zi7 b at_ sz,())):=by
 obtain ⟨n,e⟩: ∃n:Nat,(g9:Nat)=n+1+1+1+1:=⟨999999996,rfl⟩;rw [zbf2,wk0 sz (fun c=>qs6 g9 at_ sz c b),e,gc3];unfold zi7 qt0;by_cases hs:zo9 sz
 ·rw [W4 hs,j7,gc2,if_neg (c:=b.length≠512\/ ¬zo9 sz) (fun h=>h.elim (fun h=>h hl) (fun h=>h hs))];have hs':=hs;unfold zo9 at hs';rw [zg7 (x:=0-sz) (by omega),Int.zero_sub];by_cases h1:at_< -512
  ·rw [W4 h1,j7,jx1,j7,if_pos (c:=at_< -512\/at_> -sz) (.inl h1),if_neg (by decide)]
  ·by_cases h2:at_> -sz
   ·rw [W5 h1,j5,jx1,W4 h2,j7,if_pos (c:=at_< -512\/at_> -sz) (.inr h2),if_neg (by decide)]
   ·rw [W5 h1,j5,jx1,W5 h2,j5,if_neg (c:=at_< -512\/at_> -sz) (fun h=>h.elim h1 h2),if_pos rfl,gc4,zg7 (x:=512+at_) (by omega),if_pos (by omega),if_pos (by omega),Int.add_comm 512 at_,M3,M4]
 ·rw [W5 hs,j5,if_pos (c:=b.length≠512\/ ¬zo9 sz) (.inr hs),if_neg (by decide)]
def zan6 (b:List Bool) (hl:b.length=512) (at_ sz:Int):ql g9 b at_ sz=some ((),if zi7 b at_ sz=0 then .inl (List.take sz.toNat (List.drop (at_+512).toNat b),()) else .inr (zi7 b at_ sz,())):=by
 obtain ⟨n,e⟩: ∃n:Nat,(g9:Nat)=n+1+1+1+1:=⟨999999996,rfl⟩;rw [zbe9,wk0 sz (fun c=>qs5 g9 b at_ sz c),e,gc0];unfold zi7 qt0;by_cases hs:zo9 sz
 ·rw [W4 hs,j7,gb9,if_neg (c:=b.length≠512\/ ¬zo9 sz) (fun h=>h.elim (fun h=>h hl) (fun h=>h hs))];have hs':=hs;unfold zo9 at hs';rw [zg7 (x:=0-sz) (by omega),Int.zero_sub];by_cases h1:at_< -512
  ·rw [W4 h1,j7,jx0,j7,if_pos (c:=at_< -512\/at_> -sz) (.inl h1),if_neg (by decide)]
  ·by_cases h2:at_> -sz
   ·rw [W5 h1,j5,jx0,W4 h2,j7,if_pos (c:=at_< -512\/at_> -sz) (.inr h2),if_neg (by decide)]
   ·rw [W5 h1,j5,jx0,W5 h2,j5,if_neg (c:=at_< -512\/at_> -sz) (fun h=>h.elim h1 h2),if_pos rfl,gc1,zg7 (x:=512+at_) (by omega),if_pos (by omega),if_pos (by omega),Int.add_comm 512 at_,N6,M4]
    erw [show List.take (((512:Nat):Int).toNat-(at_+512).toNat) (List.drop (at_+512).toNat b)=List.drop (at_+512).toNat b from Q4 (by rw [Q7,hl];omega)]
    rw [if_pos (by rw [Q7,hl];omega)]
 ·rw [W5 hs,j5,if_pos (c:=b.length≠512\/ ¬zo9 sz) (.inr hs),if_neg (by decide)]
def jq6 {b} (h: ¬b.length=512) (a c):zi7 b a c=2:=by unfold zi7;rw [if_pos (.inl h)]
def set1 (b a c):qar g9 b a c=some (((b,()),(a,()),(c,()),()),if zi7 b a c=0 then .inl (jo1 b (a+512).toNat c.toNat,()) else .inr (zi7 b a c,())):=by
 rw [ul9];by_cases d:b.length=512
 ·rw [qq6 b d,j4];show (if 512<=b.length then j6 (qo g9 (List.take 512 (List.drop 0 b)) a c) _ else none)=_;rw [if_pos (by omega),N6,Q4 (by omega),zan5 b d,j4];by_cases h:zi7 b a c=0
  ·rw [if_pos h,if_pos h];obtain ⟨_,e,g,i⟩:=qy6 h;unfold zo9 at e;show yt4 g9 (a+512).toNat c.toNat ((c.toNat:Nat):Int) 0 b a c b=_;refine jj6 (fun n k=>yt4 n (a+512).toNat c.toNat ((c.toNat:Nat):Int) (k:Int) b a c (jo1 b (a+512).toNat k)) 1 c.toNat _ (fun n k f=>?_) (fun n=>?_) g9 (by unfold g9;omega)
   ·show yt4 (n+1) _ _ _ (k:Int) _ _ _ _=yt4 n (a+512).toNat c.toNat ((c.toNat:Nat):Int) ((k+1:Nat):Int) b a c (jo1 b (a+512).toNat (k+1));rw [qh7,W4 (by omega),j7,if_pos (by omega),nx f (by omega),jo1,Z1]
   ·show yt4 (n+1) _ _ _ ((c.toNat:Nat):Int) _ _ _ _=_;rw [qh7,W5 (by omega),j5]
  ·rw [if_neg h,if_neg h]
 ·rw [km3 b d,j4,jq6 d,if_neg (by decide)]
def zau3 (b a c):qcr g9 b a c=some (qn3 b a c):=by
 rw [ut2,ut6,set1,j4];unfold qn3;by_cases h:zi7 b a c=0
 ·rw [if_pos h,if_pos h];show j6 (j6 (qcu 0) _) _=_;rw [gn2,j4,j4]
 ·rw [if_neg h,if_neg h];show j6 (j6 (qcv 0 (zi7 b a c)) _) _=_;rw [gn3,j4,j4]
def wi1 (b:List Bool) (p m k:Nat) (hk:k<m):(List.take m (List.drop p b)).getD k false=b.getD (p+k) false:=by
 grind
def zbg6 (b a c):qac g9 b a c=some (((b,()),(a,()),(c,()),()),if zi7 b a c=0 then (if ve5 b (a+512).toNat c.toNat 0=true then .inl (true,()) else .inr (110,())) else .inr (zi7 b a c,())):=by
 rw [uj7];by_cases e:b.length=512
 ·rw [qq6 b e,j4];show j6 (ql g9 b a c) _=_;rw [zan6 b e,j4];by_cases h:zi7 b a c=0
  ·rw [if_pos h,if_pos h];obtain ⟨_,g,i,j⟩:=qy6 h;unfold zo9 at g;have d:(List.take c.toNat (List.drop (a+512).toNat b)).length=c.toNat:=by rw [Y6,Q7,e];omega
   show yl8 g9 (List.take c.toNat (List.drop (a+512).toNat b)) (((List.take c.toNat (List.drop (a+512).toNat b)).length:Nat):Int) 0 b a c=_;rw [d];refine wl5 (fun n k=>yl8 n (List.take c.toNat (List.drop (a+512).toNat b)) ((c.toNat:Nat):Int) (k:Int) b a c) 2 c.toNat (fun k=>some (((b,()),(a,()),(c,()),()),(if ve5 b (a+512).toNat c.toNat k=true then .inl (true,()) else .inr (110,())))) (fun n k f=>?_) (fun n=>?_) c.toNat 0 g9 (by omega) (by unfold g9;omega)
   ·show yl8 (n+1+1) _ _ (k:Int) _ _ _=_\/_;rw [show yl8 (n+1+1) (List.take c.toNat (List.drop (a+512).toNat b)) ((c.toNat:Nat):Int) (k:Int) b a c=j9 (!(b.getD ((a+512).toNat+k) false)) (some (((b,()),(a,()),(c,()),()),.inr ((110:Int),()))) (yl8 n (List.take c.toNat (List.drop (a+512).toNat b)) ((c.toNat:Nat):Int) ((k+1:Nat):Int) b a c) by
     rw [qh2,W4 (by omega),j7,if_pos (by rw [d];omega),Z1,wi1 _ _ _ _ f,kf0,nx f (by omega)]]
    simp only [vz5 b _ _ k f];cases b.getD ((a+512).toNat+k) false with
    |true=>exact .inr ⟨rfl,rfl⟩
    |false=>exact .inl rfl
   ·show yl8 (n+1) _ _ ((c.toNat:Nat):Int) _ _ _=_;rw [qh2,W5 (by omega),j5,kq5,if_pos rfl]
  ·rw [if_neg h,if_neg h]
 ·rw [km3 b e,j4,jq6 e,if_neg (by decide)]
def zau1 (b a c):qcq g9 b a c=some (kn9 b a c):=by
 rw [ut0,ut4,zbg6,j4];unfold kn9;by_cases h:zi7 b a c=0
 ·rw [if_pos h,if_pos h];by_cases d:ve5 b (a+512).toNat c.toNat 0=true
  ·rw [if_pos d,if_pos d];show j6 (j6 (qgc 0) _) _=_;rw [zai0,j4,j4]
  ·rw [if_neg d,if_neg d];show j6 (j6 (qfq 0 110) _) _=_;rw [go1,j4,j4]
 ·rw [if_neg h,if_neg h];show j6 (j6 (qfq 0 (zi7 b a c)) _) _=_;rw [go1,j4,j4]
def kc0 (a b r k):(yd7 a b r k).getD k false=r.getD k false:=by
 rw [Y2,ja5,if_neg (fun h=>Nat.lt_irrefl _ h.1),<-List.getD_eq_getElem?_getD]
def zam3 (a b):qx g9 a b=some (((a,()),(b,()),()),if a.length=512/\b.length=512 then .inl (yd7 a b a 512,()) else .inr (2,())):=by
 rw [zbg2];by_cases c:a.length=512
 ·rw [qq6 a c,j4];show (if 512<=a.length then j6 (qbp g9 b) _ else none)=_;rw [if_pos (by omega)];by_cases d:b.length=512
  ·rw [qq6 b d,j4,if_pos ⟨c,d⟩];show jj8 g9 b 0 a b (List.take 512 (List.drop 0 a))=_;rw [N6,Q4 (by omega)];refine jj6 (fun n k=>jj8 n b (k:Int) a b (yd7 a b a k)) 2 512 _ (fun n k f=>?_) (fun n=>?_) g9 (by unfold g9;omega)
   ·show jj8 (n+1+1) b (k:Int) a b (yd7 a b a k)=jj8 n b ((k+1:Nat):Int) a b (yd7 a b a (k+1));have e: ∀r,kn8 (n+1) b (k:Int) a b r=jj8 n b ((k+1:Nat):Int) a b r:=fun r=>by rw [gd3,nx f (by omega)]
    rw [vb2,W4 (by omega),j7,if_pos (by omega),if_pos (by omega),e,e,if_pos (by omega),if_pos (by omega),if_pos (by omega),W9,Z1,kc0,yd7];cases a.getD k false<;>rfl
   ·show jj8 (n+1) b ((512:Nat):Int) a b _=_;rw [vb2,W5 (by omega),j5]
  ·rw [km3 b d,j4,if_neg (fun h=>d h.2)]
 ·rw [km3 a c,j4,if_neg (fun h=>c h.1)]
def vh3 (a b:List Bool) (ha:a.length=512):yd7 a b a 512=yd7 a b (List.replicate 512 false) 512:=by
 apply M1;intro j;rw [ja5,ja5,Z9,ha]
 grind
def wr4 (a b):qbz g9 a b=some (vh4 a b):=by
 rw [uq8,ur8,zam3,j4];unfold vh4;by_cases h:a.length=512/\b.length=512
 ·rw [if_pos h,if_pos h];show j6 (j6 (qcu 0) _) _=_;rw [gn2,j4,j4,vh3 a b h.1]
 ·rw [if_neg h,if_neg h];show j6 (j6 (qcv 0 2) _) _=_;rw [gn3,j4,j4]
def zan3:qeg g9=some (List.replicate 512 false):=by rw [zaa5,if_pos (by omega)]
end Go.Y
namespace Go.Y
open Go.RowKit Go.V Go.X Go.Proofs
def uh8 (x):qfy g9 [1,2,4,8] x=j9 (x==1) (some 0) (j9 (x==2) (some 1) (j9 (x==4) (some 2) (j9 (x==8) (some 3) (some (-1))))):=by kernel_rfl
def zm2 (x:Int):Bool:=x==1||(x==2||(x==4||x==8))
def zp1 (x):qec g9 [1,2,4,8] x=some (zm2 x):=by
 rw [uz7,uh8];unfold zm2;cases x==1<;>cases x==2<;>cases x==4<;>cases x==8<;>rfl
def gg1 (x a b):qci g9 x a b=some (decide (a<=x)&&decide (x<=b)):=by rw [us0,zx9]
def yd2 (n m:Int):Bool:=decide (0<=n)&&decide (n<=m)
def zm0 (i:Ins):Bool:=if i.UseImm=true then i.Src==0&&(decide (-2147483648<=i.Imm)&&decide (i.Imm<2147483648)) else yd2 i.Src 10&&i.Imm==0
def jz6 (i:Ins):Bool:=decide (-32768<=i.Off)&&decide (i.Off<32768)
def zi8 (i:Ins):Bool:=
 if 1<=i.Op/\i.Op<=12 then yd2 i.Dst 9&&(zm0 i&&(i.Off==0&&i.Size==0))
 else if i.Op=13 then yd2 i.Dst 9&&(i.Src==0&&(!i.UseImm&&(i.Off==0&&(i.Imm==0&&i.Size==0))))
 else if i.Op=14 then yd2 i.Dst 9&&(yd2 i.Src 10&&(jz6 i&&(zm2 i.Size&&(!i.Narrow&&(!i.UseImm&&i.Imm==0)))))
 else if i.Op=15 then yd2 i.Dst 10&&(jz6 i&&(zm2 i.Size&&(zm0 i&& !i.Narrow)))
 else if i.Op=16 then jz6 i&&(!i.Narrow&&(i.Dst==0&&(i.Src==0&&(!i.UseImm&&(i.Imm==0&&i.Size==0)))))
 else if 17<=i.Op/\i.Op<=27 then yd2 i.Dst 10&&(jz6 i&&(zm0 i&&i.Size==0))
 else decide (i.Op=28)&&(!i.Narrow&&(i.Dst==0&&(i.Src==0&&(!i.UseImm&&(i.Off==0&&(i.Imm==0&&i.Size==0))))))
def ql0 (i):qbs g9 i=some (decide (16<=i.Op)&&decide (i.Op<=27)):=by rw [up6,zx9]
def ks8 (op):qbj g9 op=some (if 1<=op/\op<=12 then 201 else if op=13 then 193 else if op=14 then 181 else if op=15 then 186 else if op=16 then 144 else if 17<=op/\op<=27 then 218 else if op=28 then 128 else 0):=by
 rw [uo2];simp only [kg4,zu5]
 grind
def vy2 (i):qa g9 i=some (zi8 i):=by
 rw [zan9,ks8];obtain ⟨op,nw,d,s,u,b,c,o⟩:=i;simp only [j4];have j: ∀(n:Nat) (f m:Int) (z:Bool) (x:Ins),vj0 (n+1) f m z op nw d s u b c o x.Op x.Narrow x.Dst x.Src x.UseImm x.Off x.Imm x.Size=
   some (f != 0&&((op==x.Op&&(nw==x.Narrow&&(d==x.Dst&&(s==x.Src&&(u==x.UseImm&&(b==x.Off&&(c==x.Imm&&o==x.Size)))))))&&((decide (0<=d)&&decide (d<=m))&&((decide (0<=s)&&decide (s<=10))&&((decide (-32768<=b)&&decide (b<=32767))&&((decide (-2147483648<=c)&&decide (c<=2147483647))&&z)))))):=by
  intro n f m z x;simp only [kw5,gg1,j4,zx9]
 have a: ∀(n:Nat) (f m:Int) (z:Bool) (p:Int) (q:Bool) (r t:Int) (v:Bool) (w y A:Int),vj0 (n+1) f m z op nw d s u b c o p q r t v w y A=_:=fun n f m z p q r t v w y A=>j n f m z ⟨p,q,r,t,v,w,y,A⟩;by_cases e:1<=op/\op<=12
 ·rw [if_pos e];cases nw<;>cases u<;>simp only [zv0,zv1,zv2,zv3,zv4,zv5,zv6,zv7,zv8,a,zp1,j4,W7,U1,j7,j5,show (zb4 .i64 201 3 != 0)=true from by decide,show (zb4 .i64 201 4 != 0)=false from by decide,show (zb4 .i64 201 8 != 0)=true from by decide,show (zb4 .i64 201 16 != 0)=false from by decide,show (zb4 .i64 201 32 != 0)=false from by decide,show (zb4 .i64 201 64 != 0)=true from by decide,show (zb4 .i64 201 1 != 0)=true from by decide,show (zb4 .i64 201 32==0)=true from by decide]<;>(refine congrArg some ?_;rw [M7];simp [zi8,zm0,yd2,jz6, *]<;>grind)
 by_cases g:op=13
 ·rw [if_neg e,if_pos g];cases nw<;>cases u<;>simp only [zv0,zv1,zv2,zv3,zv4,zv5,zv6,zv7,zv8,a,zp1,j4,W7,U1,j7,j5,show (zb4 .i64 193 3 != 0)=true from by decide,show (zb4 .i64 193 4 != 0)=false from by decide,show (zb4 .i64 193 8 != 0)=false from by decide,show (zb4 .i64 193 16 != 0)=false from by decide,show (zb4 .i64 193 32 != 0)=false from by decide,show (zb4 .i64 193 64 != 0)=true from by decide,show (zb4 .i64 193 1 != 0)=true from by decide,show (zb4 .i64 193 32==0)=true from by decide]<;>(refine congrArg some ?_;rw [M7];simp [zi8,zm0,yd2,jz6, *]<;>grind)
 by_cases h:op=14
 ·rw [if_neg e,if_neg g,if_pos h];cases nw<;>cases u<;>simp only [zv0,zv1,zv2,zv3,zv4,zv5,zv6,zv7,zv8,a,zp1,j4,W7,U1,j7,j5,show (zb4 .i64 181 3 != 0)=true from by decide,show (zb4 .i64 181 4 != 0)=true from by decide,show (zb4 .i64 181 8 != 0)=false from by decide,show (zb4 .i64 181 16 != 0)=true from by decide,show (zb4 .i64 181 32 != 0)=true from by decide,show (zb4 .i64 181 64 != 0)=false from by decide,show (zb4 .i64 181 1 != 0)=true from by decide,show (zb4 .i64 181 32==0)=false from by decide]<;>(refine congrArg some ?_;rw [M7];simp [zi8,zm0,yd2,jz6, *]<;>grind)
 by_cases k:op=15
 ·rw [if_neg e,if_neg g,if_neg h,if_pos k];cases nw<;>cases u<;>simp only [zv0,zv1,zv2,zv3,zv4,zv5,zv6,zv7,zv8,a,zp1,j4,W7,U1,j7,j5,show (zb4 .i64 186 3 != 0)=true from by decide,show (zb4 .i64 186 4 != 0)=false from by decide,show (zb4 .i64 186 8 != 0)=true from by decide,show (zb4 .i64 186 16 != 0)=true from by decide,show (zb4 .i64 186 32 != 0)=true from by decide,show (zb4 .i64 186 64 != 0)=false from by decide,show (zb4 .i64 186 1 != 0)=false from by decide,show (zb4 .i64 186 32==0)=false from by decide]<;>(refine congrArg some ?_;rw [M7];simp [zi8,zm0,yd2,jz6, *]<;>grind)
 by_cases l:op=16
 ·rw [if_neg e,if_neg g,if_neg h,if_neg k,if_pos l];cases nw<;>cases u<;>simp only [zv0,zv1,zv2,zv3,zv4,zv5,zv6,zv7,zv8,a,zp1,j4,W7,U1,j7,j5,show (zb4 .i64 144 3 != 0)=false from by decide,show (zb4 .i64 144 4 != 0)=false from by decide,show (zb4 .i64 144 8 != 0)=false from by decide,show (zb4 .i64 144 16 != 0)=true from by decide,show (zb4 .i64 144 32 != 0)=false from by decide,show (zb4 .i64 144 64 != 0)=false from by decide,show (zb4 .i64 144 1 != 0)=false from by decide,show (zb4 .i64 144 32==0)=true from by decide]<;>(refine congrArg some ?_;rw [M7];simp [zi8,zm0,yd2,jz6, *]<;>grind)
 by_cases B:17<=op/\op<=27
 ·rw [if_neg e,if_neg g,if_neg h,if_neg k,if_neg l,if_pos B];cases nw<;>cases u<;>simp only [zv0,zv1,zv2,zv3,zv4,zv5,zv6,zv7,zv8,a,zp1,j4,W7,U1,j7,j5,show (zb4 .i64 218 3 != 0)=true from by decide,show (zb4 .i64 218 4 != 0)=false from by decide,show (zb4 .i64 218 8 != 0)=true from by decide,show (zb4 .i64 218 16 != 0)=true from by decide,show (zb4 .i64 218 32 != 0)=false from by decide,show (zb4 .i64 218 64 != 0)=true from by decide,show (zb4 .i64 218 1 != 0)=false from by decide,show (zb4 .i64 218 32==0)=true from by decide]<;>(refine congrArg some ?_;rw [M7];simp [zi8,zm0,yd2,jz6, *]<;>grind)
 by_cases C:op=28
 ·rw [if_neg e,if_neg g,if_neg h,if_neg k,if_neg l,if_neg B,if_pos C];cases nw<;>cases u<;>simp only [zv0,zv1,zv2,zv3,zv4,zv5,zv6,zv7,zv8,a,zp1,j4,W7,U1,j7,j5,show (zb4 .i64 128 3 != 0)=false from by decide,show (zb4 .i64 128 4 != 0)=false from by decide,show (zb4 .i64 128 8 != 0)=false from by decide,show (zb4 .i64 128 16 != 0)=false from by decide,show (zb4 .i64 128 32 != 0)=false from by decide,show (zb4 .i64 128 64 != 0)=false from by decide,show (zb4 .i64 128 1 != 0)=false from by decide,show (zb4 .i64 128 32==0)=true from by decide]<;>(refine congrArg some ?_;rw [M7];simp [zi8,zm0,yd2,jz6, *]<;>grind)
 ·rw [if_neg e,if_neg g,if_neg h,if_neg k,if_neg l,if_neg B,if_neg C];cases nw<;>cases u<;>simp only [zv0,zv1,zv2,zv3,zv4,zv5,zv6,zv7,zv8,a,zp1,j4,W7,U1,j7,j5,show (zb4 .i64 0 3 != 0)=false from by decide,show (zb4 .i64 0 4 != 0)=false from by decide,show (zb4 .i64 0 8 != 0)=false from by decide,show (zb4 .i64 0 16 != 0)=false from by decide,show (zb4 .i64 0 32 != 0)=false from by decide,show (zb4 .i64 0 64 != 0)=false from by decide,show (zb4 .i64 0 1 != 0)=false from by decide,show (zb4 .i64 0 32==0)=true from by decide]<;>(refine congrArg some ?_;rw [M7];simp [zi8,zm0,yd2,jz6, *]<;>grind)
def ui0 (x y):qcp g9 x y=some (decide (x<y)):=by
 rw [us9,uw3,j4];simp [zu5]
def ins1 (a):qfn g9 [a]=some ([a],()):=by kernel_rfl
def zam0 (a b):qfo g9 [a,b] 0 2=j6 (qcp g9 b a) (fun y=>j9 y (some ([b,a],())) (some ([a,b],()))):=by kernel_rfl
def zam1 (a b):qfn g9 [a,b]=j6 (j6 (qfo g9 [a,b] 0 2) fun y=>some (y.1,())) fun y=>some (y.1,()):=by kernel_rfl
def ins2 (a b):qfn g9 [a,b]=some (if b<a then [b,a] else [a,b],()):=by
 rw [zam1,zam0,ui0,j4];by_cases h:b<a
 ·rw [if_pos h,W4 h];rfl
 ·rw [if_neg h,W5 h];rfl
def cut1 (a b):qfz g9 [a,b] 1 1=some (([a,b],()),()):=by kernel_rfl
def com1 (a):qfs g9 [a]=some (([a],()),((0,1),())):=by kernel_rfl
def com2 (a b):qfs g9 [a,b]=j9 (b==a) (some (([a,0],()),((0,1),()))) (some (([a,b],()),((0,2),()))):=by kernel_rfl
def com3 (a b):qfx g9 [a,b] 1 1=some (([a,b],()),((1,1),())):=by kernel_rfl
def jc3 (i:Ins) (a b:Int):List Int:=if i.Op=16 then [b] else if 17<=i.Op/\i.Op<=27 then (if b<a then [b,a] else if a<b then [a,b] else [a]) else [a]
def zz5 (l:List Ins) (a:Int):List Int:=
 if 0<=a/\a<l.length then
  let i:=l.getD a.toNat zb5
  if zi8 i=true/\i.Op≠28 then jc3 i (IntKind.i64.wrap (a+1)) (IntKind.i64.wrap (IntKind.i64.wrap (a+1)+i.Off)) else []
 else []
def Part (y:List Int) (o n:Nat) (l:List Int):Prop:=o+n<=y.length/\List.take n (List.drop o y)=l
def wa8 (l a): ∃y o n,qai g9 l a=some ((),((y,o,n),()))/\Part y o n (zz5 l a):=by
 have c: ∀b,(b=false->0<=a/\a<((l.length:Nat):Int))-> ∃y o n,jl6 g9 l a b=some ((),((y,o,n),()))/\Part y o n (if b=true then [] else jc3 (l.getD a.toNat zb5) (IntKind.i64.wrap (a+1)) (IntKind.i64.wrap (IntKind.i64.wrap (a+1)+(l.getD a.toNat zb5).Off))):=by
  intro b q;rw [kf3,zu5];by_cases d:b=true
  ·rw [if_pos d,if_pos d];exact ⟨[],0,0,rfl,by simp,rfl⟩
  ·rw [if_neg d,if_neg d];have g:=q (by simpa using d);rw [if_pos g,if_pos g,ql0,j4];simp only [kf4,if_pos g];generalize l.getD a.toNat zb5=i;generalize IntKind.i64.wrap (a+1)=nx;generalize IntKind.i64.wrap (nx+i.Off)=to;unfold jc3;by_cases e:i.Op=16
   ·rw [if_pos e,e];refine ⟨[nx,to],1,1,?_,by simp,rfl⟩;have r:(((([nx,to]:List Int).length:Nat):Int).toNat)-1=1:=rfl;rw [show (decide (16<=(16:Int))&&decide ((16:Int)<=27))=true from rfl,show ((16:Int)==16)=true from rfl,j7,j7,if_pos (by simp),r,cut1,j4,com3,j4]
   ·rw [if_neg e];have k:(i.Op==16)=false:=by simpa using e
    by_cases p:17<=i.Op/\i.Op<=27
    ·rw [if_pos p,k,show (decide (16<=i.Op)&&decide (i.Op<=27))=true from by simp;omega,j7,j5,ins2,j4];by_cases j:to<nx
     ·rw [if_pos j,if_pos j,com2,show (nx==to)=false from by simp;omega,j5,j4];exact ⟨_,_,_,rfl,by simp,rfl⟩
     ·rw [if_neg j,if_neg j,com2];by_cases m:nx<to
      ·rw [if_pos m,show (to==nx)=false from by simp;omega,j5,j4];exact ⟨_,_,_,rfl,by simp,rfl⟩
      ·rw [if_neg m,show (to==nx)=true from by simp;omega,j7,j4];exact ⟨_,_,_,rfl,by simp,rfl⟩
    ·rw [if_neg p,k,show (decide (16<=i.Op)&&decide (i.Op<=27))=false from by simp;omega,j5,j5,ins1,j4,com1,j4];exact ⟨_,_,_,rfl,by simp,rfl⟩
 rw [uk5];unfold zz5;by_cases j:a<0
 ·rw [W4 j,j7,if_neg (by omega)];simpa using c true (by simp)
 rw [W5 j,j5];by_cases m:a>=((l.length:Nat):Int)
 ·rw [W4 m,j7,if_neg (by omega)];simpa using c true (by simp)
 have g:0<=a/\a<((l.length:Nat):Int):=by omega
 rw [W5 m,j5,if_pos g,if_pos g,vy2,j4];simp only [if_pos g];cases hr:zi8 (l.getD a.toNat zb5) with
 |false=>simpa [j7] using c true (by simp)
 |true=>
  simp only [W7,j5,true_and];by_cases f:(l.getD a.toNat zb5).Op=28
  ·rw [if_neg (fun h=>h f),show ((l.getD a.toNat zb5).Op==28)=true from by simpa using f];simpa using c true (by simp)
  ·rw [if_pos f,show ((l.getD a.toNat zb5).Op==28)=false from by simpa using f];simpa using c false (fun _=>g)
def ke1 (l a):(zz5 l a).length<=400000000:=by
 unfold zz5 jc3;grind
def jh9 (a:Nat->Int):Nat->Nat->Option Fault
 |_,0=>none
 |k,m+1=>if a k=0 then jh9 a (k+1) m else some ⟨a k,(k:Int)⟩
def vk5 {α} (f:Nat->Nat->Option α) (p:α->Fault) (a:Nat->Int) (c len b:Nat) (F:Fault)
  (d: ∀n k,k<len->b<=n->(a k=0/\f (n+c) k=f n (k+1))\/(a k≠0/\ ∃Y,f (n+c) k=some Y/\p Y=⟨a k,(k:Int)⟩))
  (g:(∀k,k<len->a k=0)-> ∀n,b<=n-> ∃Y,f n len=some Y/\p Y=F):
  ∀m k n,k+m=len->c*m+b<=n->(∀j,j<k->a j=0)-> ∃Y,f n k=some Y/\p Y=(jh9 a k m).getD F
 |0,k,n,r,q,h=>by
  have:k=len:=by omega
  subst this;exact g h n (by omega)
 |m+1,k,n,r,q,h=>by
  rw [Nat.mul_succ] at q;obtain ⟨i,rfl⟩: ∃i,n=i+c:=⟨n-c,by omega⟩;unfold jh9;rcases d i k (by omega) (by omega) with ⟨l,o⟩|⟨l,Y,o,s⟩
  ·rw [if_pos l,o];exact vk5 f p a c len b F d g m (k+1) i (by omega) (by omega) (fun j t=>by
    by_cases e:j=k
    ·subst e;exact l
    ·exact h j (by omega))
  ·rw [if_neg l];exact ⟨Y,o,s⟩
def yi4 (a:List Int) (r:List Bool):List Bool:=a.foldl (fun r x=>r.set x.toNat true) r
def ue7 (l:List Ins) (r:List Bool) (k:Nat):List Bool:=if r.getD k false=true then yi4 (zz5 l (k:Int)) r else r
def stP (l:List Ins):Nat->List Bool
 |0=>(List.replicate l.length false).set 0 true
 |k+1=>ue7 l (stP l k) k
def jf0: ∀(xs r),(yi4 xs r).length=r.length
 | [],_=>rfl
 |x::xs,r=>by
  show (yi4 xs (r.set x.toNat true)).length=_;rw [jf0 xs,Q1]
def qn4 (l): ∀k,(stP l k).length=l.length
 |0=>by unfold stP;rw [Q1,Z9]
 |k+1=>by
  unfold stP ue7;split
  ·rw [jf0,qn4 l k]
  ·exact qn4 l k
def vd1 (r:List Bool) (k:Nat):r.set k (r.getD k false)=r:=by
 by_cases h:k<r.length
 ·rw [Y2,Y0 h];exact N1 h
 ·exact List.set_eq_of_length_le (by omega)
def kt3 (r:List Bool) (k j:Nat) (b:Bool):(r.set k b).getD j false=if k=j/\j<r.length then b else r.getD j false:=by
 grind
def qf0: ∀(xs r j),(∀x∈xs,x.toNat≠j)->(yi4 xs r).getD j false=r.getD j false
 | [],_,_,_=>rfl
 |x::xs,r,j,h=>by
  show (yi4 xs (r.set x.toNat true)).getD j false=_;rw [qf0 xs _ j (fun y a=>h y (Z4 _ a)),kt3,if_neg (fun b=>h x (U6) b.1)]
def vg2 (a:List Int) (r:List Bool) (j:Nat) (h:j<a.length):yi4 (a.take (j+1)) r=(yi4 (a.take j) r).set (a.getD j 0).toNat true:=by
 unfold yi4;rw [List.take_add_one,List.foldl_append,Y0 h,Y2,Y0 h];rfl
def Fwd (l:List Ins):Prop:= ∀k,k<l.length-> ∀x∈zz5 l (k:Int),(k:Int)<x/\x<l.length
def c1 (l:List Ins) (k:Nat):Int:=if zi8 (l.getD k zb5)=true then 0 else 4
def kl5 (i:Ins):Bool:=decide (16<=i.Op)&&decide (i.Op<=27)
def c2 (l:List Ins) (k:Nat):Int:=if kl5 (l.getD k zb5)=true then (if (l.getD k zb5).Off<0 then 100 else if (k:Int)+1+(l.getD k zb5).Off>=(l.length:Int) then 101 else 0) else 0
def c3 (l:List Ins) (k:Nat):Int:=if k+1=l.length/\(l.getD k zb5).Op≠28/\(l.getD k zb5).Op≠16 then 102 else 0
def c4 (l:List Ins) (k:Nat):Int:=if (stP l (k+1)).getD k false=true then 0 else 103
def yf5 (l:List Ins):Fault:=
 if l.length=0 then ⟨6,0⟩ else if l.length>4096 then ⟨3,0⟩ else
  (jh9 (c1 l) 0 l.length).getD ((jh9 (c2 l) 0 l.length).getD ((jh9 (c3 l) 0 l.length).getD ((jh9 (c4 l) 0 l.length).getD ⟨0,0⟩)))
def jt7 {l k} (h:c1 l k=0):zi8 (l.getD k zb5)=true:=by
 unfold c1 at h;split at h
 ·assumption
 ·cases h
def jg3 (i) (h:zi8 i=true): -32768<=i.Off/\i.Off<=32767/\1<=i.Op/\i.Op<=28:=by
 unfold zi8 at h
 grind [zm0,jz6,yd2,zm2]
def uh5 {l:List Ins} (hl:l.length<=4096) (h1: ∀k,k<l.length->c1 l k=0) (h2: ∀k,k<l.length->c2 l k=0) (h3: ∀k,k<l.length->c3 l k=0):Fwd l:=by
 intro k hk x hx;have r:=jt7 (h1 k hk);have a2:=h2 k hk;have a3:=h3 k hk;have ro:=jg3 _ r;unfold c2 kl5 at a2;unfold c3 at a3;unfold zz5 at hx;rw [if_pos (by omega)] at hx;simp only [Z1] at hx;generalize l.getD k zb5=i at *;split at hx
 ·rename_i hc;obtain ⟨_,h28⟩:=hc;rw [zg7 (x:=(k:Int)+1) (by omega),zg7 (by omega)] at hx;unfold jc3 at hx
  grind
 ·cases hx
def jm6 (b x):qbe g9 b x=some (if b=true then x else 0):=by
 rw [un7];cases b<;>rfl
def p1 (l:List Ins) (k:Nat) (a:k<l.length):qdx g9 (k:Int) l=some (((l,()),()),(c1 l k,())):=by
 rw [uy7,if_pos (by omega),vy2,j4,jm6,j4,Z1];unfold c1;cases zi8 (l.getD k zb5)<;>rfl
def p2 (l:List Ins) (k:Nat) (hk:k<l.length) (hl:l.length<=4096) (h1:c1 l k=0):qdy g9 (k:Int) l=some (((l,()),()),(c2 l k,())):=by
 have ro:=jg3 _ (jt7 h1);rw [uy9,if_pos (by omega),if_pos (by omega),ql0,j4,Z1,zg7 (x:=(k:Int)+1) (by omega),zg7 (by omega),jm6];unfold c2 kl5;generalize l.getD k zb5=i at *;cases decide (16<=i.Op)&&decide (i.Op<=27) with
 |false=>rfl
 |true=>
  rw [W7,j5,if_pos rfl];by_cases h:i.Off<0
  ·rw [W4 (by omega),j7,if_pos h]
  ·rw [W5 (by omega),j5,if_neg h,j4]
   grind
def p3 (l:List Ins) (k:Nat) (hk:k<l.length) (hl:l.length<=4096):qdz g9 (k:Int) l=some (((l,()),()),(c3 l k,())):=by
 rw [uz1,zg7 (by omega),zu5];unfold c3;simp only [Z1];by_cases h:k+1=l.length
 ·rw [if_pos (by simp;omega),if_pos (by omega),zu5];by_cases h28:(l.getD k zb5).Op=28
  ·rw [if_neg (by simpa using h28),if_neg (fun h'=>h'.2.1 h28),jm6,j4];rfl
  ·rw [if_pos (by simpa using h28),if_pos (by omega),jm6,j4]
   grind
 ·rw [if_neg (by simp;omega),if_neg (fun h'=>h h'.1),jm6,j4];rfl
def ui9 {y xs:List Int} {o m:Nat} (h:Part y o m xs) (j:Nat) (hj:j<m):y.getD (o+j) 0=xs.getD j 0/\xs.length=m:=by
 obtain ⟨h1,h2⟩:=h
 grind
def uh7 (xs:List Int) (j:Nat) (hj:j<xs.length):xs.getD j 0∈xs:=by
 grind
def p4 {l} (A:l.length<=4096) (t:Fwd l) (k) (u:k<l.length):qaa g9 (k:Int) l (stP l k)=some (((l,()),((),()),stP l (k+1),()),(c4 l k,())):=by
 obtain ⟨y,o,m,e,c⟩:=wa8 l (k:Int);rw [uj4,e,j4];dsimp only;have B:(zz5 l (k:Int)).length=m:=by
  rw [<-c.2,Y6,Q7];have:=c.1;omega
 have a:=qn4 l k;have C:=ke1 l (k:Int);have v: ∀j,(if (stP l k).getD k false=true then yi4 ((zz5 l (k:Int)).take j) (stP l k) else stP l k).length=l.length:=by
  intro j;split
  ·rw [jf0,a]
  ·exact a
 have h: ∀j,(if (stP l k).getD k false=true then yi4 ((zz5 l (k:Int)).take j) (stP l k) else stP l k).getD k false=(stP l k).getD k false:=by
  intro j;split
  ·refine qf0 _ _ _ fun x i=>?_;have:=t k u x (J6 i);omega
  ·rfl
 have w:(if (stP l k).getD k false=true then yi4 ((zz5 l (k:Int)).take 0) (stP l k) else stP l k)=stP l k:=by
  rw [List.take_zero];split<;>rfl
 have Q:=jj6 (fun n j=>yy2 n (k:Int) o m ((m:Nat):Int) ((j:Nat):Int) l (if (stP l k).getD k false=true then yi4 ((zz5 l (k:Int)).take j) (stP l k) else stP l k) y) 2 m (some (((l,()),((),()),stP l (k+1),()),(c4 l k,()))) (fun n j p=>?_) (fun n=>?_) g9 (by unfold g9;omega)
 ·rw [w] at Q;exact Q
 ·show yy2 (n+1+1) (k:Int) o m ((m:Nat):Int) ((j:Nat):Int) l _ y=yy2 n (k:Int) o m ((m:Nat):Int) ((j+1:Nat):Int) l _ y;have i:=(ui9 c j p).1;have D:=t k u _ (uh7 (zz5 l (k:Int)) j (by omega));rw [qh1,W4 (by omega),j7,if_pos (by omega),if_pos (by have:=c.1;omega),Z1,i];have d:=v j;have b:=h j;have z:=vg2 (zz5 l (k:Int)) (stP l k) j (by omega);generalize (zz5 l (k:Int)).getD j 0=x at *;by_cases f:(stP l k).getD k false=true
  ·simp only [if_pos f] at d b⊢;rw [z];generalize yi4 ((zz5 l (k:Int)).take j) (stP l k)=r at *;have q:0<=x/\x<((r.length:Nat):Int):=by omega
   have s:0<=(k:Int)/\(k:Int)<((r.length:Nat):Int):=by omega
   simp only [if_pos q,if_pos s,qh0,nx (len:=m) p (by omega),Z1,b,f,zu5,ite_self]
  ·simp only [if_neg f] at d b⊢;generalize E:stP l k=r at *;have q:0<=x/\x<((r.length:Nat):Int):=by omega
   have s:0<=(k:Int)/\(k:Int)<((r.length:Nat):Int):=by omega
   simp only [if_pos q,if_pos s,qh0,nx (len:=m) p (by omega),Z1,zu5];by_cases g:r.getD x.toNat false=true
   ·rw [if_pos g,<-g,vd1]
   ·rw [if_neg g,Bool.eq_false_iff.2 f,<-Bool.eq_false_iff.2 g,vd1]
 ·show yy2 (n+1) (k:Int) o m ((m:Nat):Int) ((m:Nat):Int) l _ y=_;have d:=v m;have b:(if (stP l k).getD k false=true then yi4 ((zz5 l (k:Int)).take m) (stP l k) else stP l k)=stP l (k+1):=by
   rw [Q4 (by omega)];rfl
  rw [b] at d⊢;rw [qh1,W5 (by omega),j5,if_pos (by omega),jm6,j4,Z1];unfold c4;cases (stP l (k+1)).getD k false<;>rfl
def gv8 (l):qdw g9 l=some (yf5 l):=by
 rw [uy5];unfold yf5;by_cases d:l.length=0
 ·rw [if_pos d,d];rfl
 rw [if_neg d,show (((l.length:Nat):Int)==0)=false from beq_eq_false_iff_ne.2 (by omega),j5];by_cases h:l.length>4096
 ·rw [if_pos h,W4 (by omega),j7]
 rw [if_neg h,W5 (by omega),j5,if_pos (by omega),if_pos (by rw [Z9];omega),Z1];have e: ∃Y,qd g9 ((l.length:Nat):Int) l (stP l 0)=some Y/\Y.2.1=(jh9 (c1 l) 0 l.length).getD ((jh9 (c2 l) 0 l.length).getD ((jh9 (c3 l) 0 l.length).getD ((jh9 (c4 l) 0 l.length).getD ⟨0,0⟩))):=by
  rw [zau8];refine vk5 (fun n k=>jr2 n ((l.length:Nat):Int) ((l.length:Nat):Int) ((k:Nat):Int) l (stP l 0) 0 0) (fun Y=>Y.2.1) (c1 l) 1 l.length 50000 _ (fun n k b c=>?_) (fun f n c=>?_) l.length 0 _ (by omega) (by omega) (by omega)
  ·obtain ⟨n,rfl⟩: ∃j,n=j+1:=⟨n-1,by omega⟩;show _\/_/\ ∃Y,jr2 (n+2) _ _ _ _ _ _ _=_/\_;by_cases a:c1 l k=0
   ·refine .inl ⟨a,?_⟩;show jr2 (n+2) _ _ _ _ _ _ _=jr2 (n+1) _ _ _ _ _ _ _;rw [jw9,W4 (by omega),j7,p1 l k b,j4,a,nx b (by omega)];dsimp only;rw [show ((0:Int) != 0)=false from rfl,j5]
   ·refine .inr ⟨a,?_⟩;rw [jw9,W4 (by omega),j7,p1 l k b,j4];dsimp only;rw [show (c1 l k != 0)=true by simpa using a,j7];exact ⟨_,rfl,rfl⟩
  obtain ⟨n,rfl⟩: ∃j,n=j+2:=⟨n-2,by omega⟩;show ∃Y,jr2 (n+2) _ _ _ _ _ _ _=_/\_;rw [jw9,W5 (by omega),j5];refine vk5 (fun n k=>yt5 n ((l.length:Nat):Int) ((l.length:Nat):Int) ((k:Nat):Int) l (stP l 0) 0 0) (fun Y=>Y.2.1) (c2 l) 1 l.length 40000 _ (fun n k b c=>?_) (fun m n c=>?_) l.length 0 _ (by omega) (by omega) (by omega)
  ·obtain ⟨n,rfl⟩: ∃j,n=j+1:=⟨n-1,by omega⟩;show _\/_/\ ∃Y,yt5 (n+2) _ _ _ _ _ _ _=_/\_;by_cases a:c2 l k=0
   ·refine .inl ⟨a,?_⟩;show yt5 (n+2) _ _ _ _ _ _ _=yt5 (n+1) _ _ _ _ _ _ _;rw [jg0,W4 (by omega),j7,p2 l k b (by omega) (f k b),j4,a,nx b (by omega)];dsimp only;rw [show ((0:Int) != 0)=false from rfl,j5]
   ·refine .inr ⟨a,?_⟩;rw [jg0,W4 (by omega),j7,p2 l k b (by omega) (f k b),j4];dsimp only;rw [show (c2 l k != 0)=true by simpa using a,j7];exact ⟨_,rfl,rfl⟩
  obtain ⟨n,rfl⟩: ∃j,n=j+2:=⟨n-2,by omega⟩;show ∃Y,yt5 (n+2) _ _ _ _ _ _ _=_/\_;rw [jg0,W5 (by omega),j5];refine vk5 (fun n k=>yt6 n ((l.length:Nat):Int) ((l.length:Nat):Int) ((k:Nat):Int) l (stP l 0) 0 0) (fun Y=>Y.2.1) (c3 l) 1 l.length 30000 _ (fun n k b c=>?_) (fun o n c=>?_) l.length 0 _ (by omega) (by omega) (by omega)
  ·obtain ⟨n,rfl⟩: ∃j,n=j+1:=⟨n-1,by omega⟩;show _\/_/\ ∃Y,yt6 (n+2) _ _ _ _ _ _ _=_/\_;by_cases a:c3 l k=0
   ·refine .inl ⟨a,?_⟩;show yt6 (n+2) _ _ _ _ _ _ _=yt6 (n+1) _ _ _ _ _ _ _;rw [jg1,W4 (by omega),j7,p3 l k b (by omega),j4,a,nx b (by omega)];dsimp only;rw [show ((0:Int) != 0)=false from rfl,j5]
   ·refine .inr ⟨a,?_⟩;rw [jg1,W4 (by omega),j7,p3 l k b (by omega),j4];dsimp only;rw [show (c3 l k != 0)=true by simpa using a,j7];exact ⟨_,rfl,rfl⟩
  obtain ⟨n,rfl⟩: ∃j,n=j+2:=⟨n-2,by omega⟩;show ∃Y,yt6 (n+2) _ _ _ _ _ _ _=_/\_;rw [jg1,W5 (by omega),j5];have i:=uh5 (by omega) f m o;refine vk5 (fun n k=>yt7 n ((l.length:Nat):Int) ((l.length:Nat):Int) ((k:Nat):Int) l (stP l k) 0 0) (fun Y=>Y.2.1) (c4 l) 1 l.length 20000 _ (fun n k b c=>?_) (fun q n c=>?_) l.length 0 _ (by omega) (by omega) (by omega)
  ·obtain ⟨n,rfl⟩: ∃j,n=j+1:=⟨n-1,by omega⟩;show _\/_/\ ∃Y,yt7 (n+2) _ _ _ _ _ _ _=_/\_;by_cases a:c4 l k=0
   ·refine .inl ⟨a,?_⟩;show yt7 (n+2) _ _ _ _ _ _ _=yt7 (n+1) _ _ _ _ _ _ _;rw [jg2,W4 (by omega),j7,p4 (by omega) i k b,j4,a,nx b (by omega)];dsimp only;rw [show ((0:Int) != 0)=false from rfl,j5]
   ·refine .inr ⟨a,?_⟩;rw [jg2,W4 (by omega),j7,p4 (by omega) i k b,j4];dsimp only;rw [show (c4 l k != 0)=true by simpa using a,j7];exact ⟨_,rfl,rfl⟩
  obtain ⟨n,rfl⟩: ∃j,n=j+2:=⟨n-2,by omega⟩;show ∃Y,yt7 (n+2) _ _ _ _ _ _ _=_/\_;rw [jg2,W5 (by omega),j5];exact ⟨_,rfl,rfl⟩
 obtain ⟨Y,g,p⟩:=e;have g:qd g9 ((l.length:Nat):Int) l ((List.replicate l.length false).set 0 true)=some Y:=g;rw [g,j4,p]
def qi8 (code:Nat->Int): ∀m k F,jh9 code k m=some F-> ∃j,k<=j/\j<k+m/\code j≠0/\F=⟨code j,(j:Int)⟩
 |0,_,_,h=>by cases h
 |m+1,k,F,h=>by
  unfold jh9 at h;split at h
  ·obtain ⟨j,h1,h2,h3,h4⟩:=qi8 code m (k+1) F h;exact ⟨j,by omega,by omega,h3,h4⟩
  ·grind
def yf2 (a): ∀m k,jh9 a k m=none-> ∀j,k<=j->j<k+m->a j=0
 |0,_,_,j,b,c=>by omega
 |m+1,k,h,j,b,c=>by
  unfold jh9 at h;split at h
  ·rename_i d;by_cases e:j=k
   ·rw [e];exact d
   ·exact yf2 a m (k+1) h j (by omega) (by omega)
  ·cases h
structure Okay (l:List Ins):Prop where
 pos:0<l.length
 len:l.length<=4096
 z1: ∀k,k<l.length->c1 l k=0
 z2: ∀k,k<l.length->c2 l k=0
 z3: ∀k,k<l.length->c3 l k=0
 z4: ∀k,k<l.length->c4 l k=0
def yp2 {o:Option Fault} {d:Fault} (h: ∀F,o=some F->F.Err≠0) (a:(o.getD d).Err=0):o=none/\d.Err=0:=by
 cases o with
 |none=>exact ⟨rfl,a⟩
 |some F=>exact absurd a (h F rfl)
def jb8 (a:Nat->Int) (m k:Nat) (F:Fault) (h:jh9 a k m=some F):F.Err≠0:=by
 obtain ⟨j,_,_,b,rfl⟩:=qi8 a m k F h;exact b
def vu6 {l} (h:(yf5 l).Err=0):Okay l:=by
 unfold yf5 at h;by_cases b:l.length=0
 ·rw [if_pos b] at h;cases h
 rw [if_neg b] at h;by_cases c:l.length>4096
 ·rw [if_pos c] at h;cases h
 rw [if_neg c] at h;obtain ⟨d,h⟩:=yp2 (jb8 _ _ _) h;obtain ⟨e,h⟩:=yp2 (jb8 _ _ _) h;obtain ⟨f,h⟩:=yp2 (jb8 _ _ _) h;obtain ⟨g,h⟩:=yp2 (jb8 _ _ _) h;exact ⟨by omega,by omega,fun k a=>yf2 _ _ _ d k (by omega) (by omega),fun k a=>yf2 _ _ _ e k (by omega) (by omega),fun k a=>yf2 _ _ _ f k (by omega) (by omega),fun k a=>yf2 _ _ _ g k (by omega) (by omega)⟩
end Go.Y
namespace Go.Y
open Go.RowKit Go.V Go.X Go.Proofs
def zq8 {x m:Int} (a:0<=x) (b:0<m): ¬x.tmod m<0:=by
 have:=Int.tmod_nonneg m a;omega
def do32 (op a b:Int) (ha:0<=b):X.qc g9 op 32 a b=some (qb1 op 32 a b):=by
 obtain ⟨n,e⟩: ∃n:Nat,(g9:Nat)=n+1:=⟨999999999,rfl⟩;have hj: ∀c:Bool,c=(((op==4)||(op==5))&&(b==0))->X.vj5 (n+1) op c 32 a b=some (qb1 op 32 a b):=fun c hc=>by
  rw [X.kx5,hc];unfold qb1;cases hcc:(((op==(4:Int))||(op==(5:Int)))&&(b==(0:Int))) with
  |true=>rfl
  |false=>
   rw [j5,if_neg (show ¬(false=true) by decide)];by_cases h1:op=1
   ·subst h1;rw [if_pos (rfl:(1:Int)=1)];rw [if_pos (by decide:(((1:Int)==1)=true))];rw [X.zac5,j4];rfl
   by_cases h2:op=2
   ·subst h2;rw [if_neg (by decide: ¬((2:Int)=1)),if_pos (rfl:(2:Int)=2)];rw [if_neg (by decide: ¬(((2:Int)==1)=true)),if_pos (by decide:(((2:Int)==2)=true))];rw [X.zae3,j4];rfl
   by_cases h3:op=3
   ·subst h3;rw [if_neg (by decide: ¬((3:Int)=1)),if_neg (by decide: ¬((3:Int)=2)),if_pos (rfl:(3:Int)=3)];rw [if_neg (by decide: ¬(((3:Int)==1)=true)),if_neg (by decide: ¬(((3:Int)==2)=true)),if_pos (by decide:(((3:Int)==3)=true))];rw [X.zae7,j4];rfl
   by_cases h4:op=4
   ·subst h4;rw [if_neg (by decide: ¬((4:Int)=1)),if_neg (by decide: ¬((4:Int)=2)),if_neg (by decide: ¬((4:Int)=3)),if_pos (rfl:(4:Int)=4)];rw [if_neg (by decide: ¬(((4:Int)==1)=true)),if_neg (by decide: ¬(((4:Int)==2)=true)),if_neg (by decide: ¬(((4:Int)==3)=true)),if_pos (by decide:(((4:Int)==4)=true))];rw [X.zae9,if_neg (fun h=>by subst h;exact absurd hcc (by decide)),j4];rfl
   by_cases h5:op=5
   ·subst h5;rw [if_neg (by decide: ¬((5:Int)=1)),if_neg (by decide: ¬((5:Int)=2)),if_neg (by decide: ¬((5:Int)=3)),if_neg (by decide: ¬((5:Int)=4)),if_pos (rfl:(5:Int)=5)];rw [if_neg (by decide: ¬(((5:Int)==1)=true)),if_neg (by decide: ¬(((5:Int)==2)=true)),if_neg (by decide: ¬(((5:Int)==3)=true)),if_neg (by decide: ¬(((5:Int)==4)=true)),if_pos (by decide:(((5:Int)==5)=true))];rw [X.zaf1,if_neg (fun h=>by subst h;exact absurd hcc (by decide)),j4];rfl
   by_cases h6:op=6
   ·subst h6;rw [if_neg (by decide: ¬((6:Int)=1)),if_neg (by decide: ¬((6:Int)=2)),if_neg (by decide: ¬((6:Int)=3)),if_neg (by decide: ¬((6:Int)=4)),if_neg (by decide: ¬((6:Int)=5)),if_pos (rfl:(6:Int)=6)];rw [if_neg (by decide: ¬(((6:Int)==1)=true)),if_neg (by decide: ¬(((6:Int)==2)=true)),if_neg (by decide: ¬(((6:Int)==3)=true)),if_neg (by decide: ¬(((6:Int)==4)=true)),if_neg (by decide: ¬(((6:Int)==5)=true)),if_pos (by decide:(((6:Int)==6)=true))];rw [X.zaf3,j4];rfl
   by_cases h7:op=7
   ·subst h7;rw [if_neg (by decide: ¬((7:Int)=1)),if_neg (by decide: ¬((7:Int)=2)),if_neg (by decide: ¬((7:Int)=3)),if_neg (by decide: ¬((7:Int)=4)),if_neg (by decide: ¬((7:Int)=5)),if_neg (by decide: ¬((7:Int)=6)),if_pos (rfl:(7:Int)=7)];rw [if_neg (by decide: ¬(((7:Int)==1)=true)),if_neg (by decide: ¬(((7:Int)==2)=true)),if_neg (by decide: ¬(((7:Int)==3)=true)),if_neg (by decide: ¬(((7:Int)==4)=true)),if_neg (by decide: ¬(((7:Int)==5)=true)),if_neg (by decide: ¬(((7:Int)==6)=true)),if_pos (by decide:(((7:Int)==7)=true))];rw [X.zaf5,j4];rfl
   by_cases h8:op=8
   ·subst h8;rw [if_neg (by decide: ¬((8:Int)=1)),if_neg (by decide: ¬((8:Int)=2)),if_neg (by decide: ¬((8:Int)=3)),if_neg (by decide: ¬((8:Int)=4)),if_neg (by decide: ¬((8:Int)=5)),if_neg (by decide: ¬((8:Int)=6)),if_neg (by decide: ¬((8:Int)=7)),if_pos (rfl:(8:Int)=8)];rw [if_neg (by decide: ¬(((8:Int)==1)=true)),if_neg (by decide: ¬(((8:Int)==2)=true)),if_neg (by decide: ¬(((8:Int)==3)=true)),if_neg (by decide: ¬(((8:Int)==4)=true)),if_neg (by decide: ¬(((8:Int)==5)=true)),if_neg (by decide: ¬(((8:Int)==6)=true)),if_neg (by decide: ¬(((8:Int)==7)=true)),if_pos (by decide:(((8:Int)==8)=true))];rw [X.zaf7,j4];rfl
   by_cases h9:op=9
   ·subst h9;rw [if_neg (by decide: ¬((9:Int)=1)),if_neg (by decide: ¬((9:Int)=2)),if_neg (by decide: ¬((9:Int)=3)),if_neg (by decide: ¬((9:Int)=4)),if_neg (by decide: ¬((9:Int)=5)),if_neg (by decide: ¬((9:Int)=6)),if_neg (by decide: ¬((9:Int)=7)),if_neg (by decide: ¬((9:Int)=8)),if_pos (rfl:(9:Int)=9)];rw [if_neg (by decide: ¬(((9:Int)==1)=true)),if_neg (by decide: ¬(((9:Int)==2)=true)),if_neg (by decide: ¬(((9:Int)==3)=true)),if_neg (by decide: ¬(((9:Int)==4)=true)),if_neg (by decide: ¬(((9:Int)==5)=true)),if_neg (by decide: ¬(((9:Int)==6)=true)),if_neg (by decide: ¬(((9:Int)==7)=true)),if_neg (by decide: ¬(((9:Int)==8)=true)),if_pos (by decide:(((9:Int)==9)=true))];rw [X.zaf9,if_neg (by decide),if_neg (zq8 ha (by decide)),j4];rfl
   by_cases h10:op=10
   ·subst h10;rw [if_neg (by decide: ¬((10:Int)=1)),if_neg (by decide: ¬((10:Int)=2)),if_neg (by decide: ¬((10:Int)=3)),if_neg (by decide: ¬((10:Int)=4)),if_neg (by decide: ¬((10:Int)=5)),if_neg (by decide: ¬((10:Int)=6)),if_neg (by decide: ¬((10:Int)=7)),if_neg (by decide: ¬((10:Int)=8)),if_neg (by decide: ¬((10:Int)=9)),if_pos (rfl:(10:Int)=10)];rw [if_neg (by decide: ¬(((10:Int)==1)=true)),if_neg (by decide: ¬(((10:Int)==2)=true)),if_neg (by decide: ¬(((10:Int)==3)=true)),if_neg (by decide: ¬(((10:Int)==4)=true)),if_neg (by decide: ¬(((10:Int)==5)=true)),if_neg (by decide: ¬(((10:Int)==6)=true)),if_neg (by decide: ¬(((10:Int)==7)=true)),if_neg (by decide: ¬(((10:Int)==8)=true)),if_neg (by decide: ¬(((10:Int)==9)=true)),if_pos (by decide:(((10:Int)==10)=true))];rw [X.zaa7,if_neg (by decide),if_neg (zq8 ha (by decide)),j4];rfl
   by_cases h11:op=11
   ·subst h11;rw [if_neg (by decide: ¬((11:Int)=1)),if_neg (by decide: ¬((11:Int)=2)),if_neg (by decide: ¬((11:Int)=3)),if_neg (by decide: ¬((11:Int)=4)),if_neg (by decide: ¬((11:Int)=5)),if_neg (by decide: ¬((11:Int)=6)),if_neg (by decide: ¬((11:Int)=7)),if_neg (by decide: ¬((11:Int)=8)),if_neg (by decide: ¬((11:Int)=9)),if_neg (by decide: ¬((11:Int)=10)),if_pos (rfl:(11:Int)=11)];rw [if_neg (by decide: ¬(((11:Int)==1)=true)),if_neg (by decide: ¬(((11:Int)==2)=true)),if_neg (by decide: ¬(((11:Int)==3)=true)),if_neg (by decide: ¬(((11:Int)==4)=true)),if_neg (by decide: ¬(((11:Int)==5)=true)),if_neg (by decide: ¬(((11:Int)==6)=true)),if_neg (by decide: ¬(((11:Int)==7)=true)),if_neg (by decide: ¬(((11:Int)==8)=true)),if_neg (by decide: ¬(((11:Int)==9)=true)),if_neg (by decide: ¬(((11:Int)==10)=true)),if_pos (by decide:(((11:Int)==11)=true))];rw [X.zaa9,if_neg (by decide),if_neg (zq8 ha (by decide)),j4];rfl
   by_cases h12:op=12
   ·subst h12;rw [if_neg (by decide: ¬((12:Int)=1)),if_neg (by decide: ¬((12:Int)=2)),if_neg (by decide: ¬((12:Int)=3)),if_neg (by decide: ¬((12:Int)=4)),if_neg (by decide: ¬((12:Int)=5)),if_neg (by decide: ¬((12:Int)=6)),if_neg (by decide: ¬((12:Int)=7)),if_neg (by decide: ¬((12:Int)=8)),if_neg (by decide: ¬((12:Int)=9)),if_neg (by decide: ¬((12:Int)=10)),if_neg (by decide: ¬((12:Int)=11)),if_pos (rfl:(12:Int)=12)];rw [if_neg (by decide: ¬(((12:Int)==1)=true)),if_neg (by decide: ¬(((12:Int)==2)=true)),if_neg (by decide: ¬(((12:Int)==3)=true)),if_neg (by decide: ¬(((12:Int)==4)=true)),if_neg (by decide: ¬(((12:Int)==5)=true)),if_neg (by decide: ¬(((12:Int)==6)=true)),if_neg (by decide: ¬(((12:Int)==7)=true)),if_neg (by decide: ¬(((12:Int)==8)=true)),if_neg (by decide: ¬(((12:Int)==9)=true)),if_neg (by decide: ¬(((12:Int)==10)=true)),if_neg (by decide: ¬(((12:Int)==11)=true)),if_pos (by decide:(((12:Int)==12)=true))];rw [X.zab1,j4];rfl
   by_cases h13:op=13
   ·subst h13;rw [if_neg (by decide: ¬((13:Int)=1)),if_neg (by decide: ¬((13:Int)=2)),if_neg (by decide: ¬((13:Int)=3)),if_neg (by decide: ¬((13:Int)=4)),if_neg (by decide: ¬((13:Int)=5)),if_neg (by decide: ¬((13:Int)=6)),if_neg (by decide: ¬((13:Int)=7)),if_neg (by decide: ¬((13:Int)=8)),if_neg (by decide: ¬((13:Int)=9)),if_neg (by decide: ¬((13:Int)=10)),if_neg (by decide: ¬((13:Int)=11)),if_neg (by decide: ¬((13:Int)=12)),if_pos (rfl:(13:Int)=13)];rw [if_neg (by decide: ¬(((13:Int)==1)=true)),if_neg (by decide: ¬(((13:Int)==2)=true)),if_neg (by decide: ¬(((13:Int)==3)=true)),if_neg (by decide: ¬(((13:Int)==4)=true)),if_neg (by decide: ¬(((13:Int)==5)=true)),if_neg (by decide: ¬(((13:Int)==6)=true)),if_neg (by decide: ¬(((13:Int)==7)=true)),if_neg (by decide: ¬(((13:Int)==8)=true)),if_neg (by decide: ¬(((13:Int)==9)=true)),if_neg (by decide: ¬(((13:Int)==10)=true)),if_neg (by decide: ¬(((13:Int)==11)=true)),if_neg (by decide: ¬(((13:Int)==12)=true)),if_pos (by decide:(((13:Int)==13)=true))];rw [X.zab3,j4];rfl
   rw [if_neg h1,if_neg h2,if_neg h3,if_neg h4,if_neg h5,if_neg h6,if_neg h7,if_neg h8,if_neg h9,if_neg h10,if_neg h11,if_neg h12,if_neg h13];rw [if_neg (by simpa using h1),if_neg (by simpa using h2),if_neg (by simpa using h3),if_neg (by simpa using h4),if_neg (by simpa using h5),if_neg (by simpa using h6),if_neg (by simpa using h7),if_neg (by simpa using h8),if_neg (by simpa using h9),if_neg (by simpa using h10),if_neg (by simpa using h11),if_neg (by simpa using h12),if_neg (by simpa using h13)]
 rw [X.zas4,e];cases h4:(op==(4:Int)) with
 |true=>rw [j7,hj _ (by rw [h4];rfl)]
 |false=>
  rw [j5];cases h5:(op==(5:Int)) with
  |true=>rw [j7,hj _ (by rw [h4,h5];rfl)]
  |false=>rw [j5,hj _ (by rw [h4,h5];rfl)]
def do64 (op a b:Int) (ha:0<=b):X.qax g9 op 64 a b=some (qs0 op 64 a b):=by
 obtain ⟨n,e⟩: ∃n:Nat,(g9:Nat)=n+1:=⟨999999999,rfl⟩;have hj: ∀c:Bool,c=(((op==4)||(op==5))&&(b==0))->X.qb0 (n+1) op c 64 a b=some (qs0 op 64 a b):=fun c hc=>by
  rw [X.kg0,hc];unfold qs0;cases hcc:(((op==(4:Int))||(op==(5:Int)))&&(b==(0:Int))) with
  |true=>rfl
  |false=>
   rw [j5,if_neg (show ¬(false=true) by decide)];by_cases h1:op=1
   ·subst h1;rw [if_pos (rfl:(1:Int)=1)];rw [if_pos (by decide:(((1:Int)==1)=true))];rw [X.zab5,j4];rfl
   by_cases h2:op=2
   ·subst h2;rw [if_neg (by decide: ¬((2:Int)=1)),if_pos (rfl:(2:Int)=2)];rw [if_neg (by decide: ¬(((2:Int)==1)=true)),if_pos (by decide:(((2:Int)==2)=true))];rw [X.zab7,j4];rfl
   by_cases h3:op=3
   ·subst h3;rw [if_neg (by decide: ¬((3:Int)=1)),if_neg (by decide: ¬((3:Int)=2)),if_pos (rfl:(3:Int)=3)];rw [if_neg (by decide: ¬(((3:Int)==1)=true)),if_neg (by decide: ¬(((3:Int)==2)=true)),if_pos (by decide:(((3:Int)==3)=true))];rw [X.zab9,j4];rfl
   by_cases h4:op=4
   ·subst h4;rw [if_neg (by decide: ¬((4:Int)=1)),if_neg (by decide: ¬((4:Int)=2)),if_neg (by decide: ¬((4:Int)=3)),if_pos (rfl:(4:Int)=4)];rw [if_neg (by decide: ¬(((4:Int)==1)=true)),if_neg (by decide: ¬(((4:Int)==2)=true)),if_neg (by decide: ¬(((4:Int)==3)=true)),if_pos (by decide:(((4:Int)==4)=true))];rw [X.zac1,if_neg (fun h=>by subst h;exact absurd hcc (by decide)),j4];rfl
   by_cases h5:op=5
   ·subst h5;rw [if_neg (by decide: ¬((5:Int)=1)),if_neg (by decide: ¬((5:Int)=2)),if_neg (by decide: ¬((5:Int)=3)),if_neg (by decide: ¬((5:Int)=4)),if_pos (rfl:(5:Int)=5)];rw [if_neg (by decide: ¬(((5:Int)==1)=true)),if_neg (by decide: ¬(((5:Int)==2)=true)),if_neg (by decide: ¬(((5:Int)==3)=true)),if_neg (by decide: ¬(((5:Int)==4)=true)),if_pos (by decide:(((5:Int)==5)=true))];rw [X.zac3,if_neg (fun h=>by subst h;exact absurd hcc (by decide)),j4];rfl
   by_cases h6:op=6
   ·subst h6;rw [if_neg (by decide: ¬((6:Int)=1)),if_neg (by decide: ¬((6:Int)=2)),if_neg (by decide: ¬((6:Int)=3)),if_neg (by decide: ¬((6:Int)=4)),if_neg (by decide: ¬((6:Int)=5)),if_pos (rfl:(6:Int)=6)];rw [if_neg (by decide: ¬(((6:Int)==1)=true)),if_neg (by decide: ¬(((6:Int)==2)=true)),if_neg (by decide: ¬(((6:Int)==3)=true)),if_neg (by decide: ¬(((6:Int)==4)=true)),if_neg (by decide: ¬(((6:Int)==5)=true)),if_pos (by decide:(((6:Int)==6)=true))];rw [X.zac7,j4];rfl
   by_cases h7:op=7
   ·subst h7;rw [if_neg (by decide: ¬((7:Int)=1)),if_neg (by decide: ¬((7:Int)=2)),if_neg (by decide: ¬((7:Int)=3)),if_neg (by decide: ¬((7:Int)=4)),if_neg (by decide: ¬((7:Int)=5)),if_neg (by decide: ¬((7:Int)=6)),if_pos (rfl:(7:Int)=7)];rw [if_neg (by decide: ¬(((7:Int)==1)=true)),if_neg (by decide: ¬(((7:Int)==2)=true)),if_neg (by decide: ¬(((7:Int)==3)=true)),if_neg (by decide: ¬(((7:Int)==4)=true)),if_neg (by decide: ¬(((7:Int)==5)=true)),if_neg (by decide: ¬(((7:Int)==6)=true)),if_pos (by decide:(((7:Int)==7)=true))];rw [X.zac9,j4];rfl
   by_cases h8:op=8
   ·subst h8;rw [if_neg (by decide: ¬((8:Int)=1)),if_neg (by decide: ¬((8:Int)=2)),if_neg (by decide: ¬((8:Int)=3)),if_neg (by decide: ¬((8:Int)=4)),if_neg (by decide: ¬((8:Int)=5)),if_neg (by decide: ¬((8:Int)=6)),if_neg (by decide: ¬((8:Int)=7)),if_pos (rfl:(8:Int)=8)];rw [if_neg (by decide: ¬(((8:Int)==1)=true)),if_neg (by decide: ¬(((8:Int)==2)=true)),if_neg (by decide: ¬(((8:Int)==3)=true)),if_neg (by decide: ¬(((8:Int)==4)=true)),if_neg (by decide: ¬(((8:Int)==5)=true)),if_neg (by decide: ¬(((8:Int)==6)=true)),if_neg (by decide: ¬(((8:Int)==7)=true)),if_pos (by decide:(((8:Int)==8)=true))];rw [X.zad1,j4];rfl
   by_cases h9:op=9
   ·subst h9;rw [if_neg (by decide: ¬((9:Int)=1)),if_neg (by decide: ¬((9:Int)=2)),if_neg (by decide: ¬((9:Int)=3)),if_neg (by decide: ¬((9:Int)=4)),if_neg (by decide: ¬((9:Int)=5)),if_neg (by decide: ¬((9:Int)=6)),if_neg (by decide: ¬((9:Int)=7)),if_neg (by decide: ¬((9:Int)=8)),if_pos (rfl:(9:Int)=9)];rw [if_neg (by decide: ¬(((9:Int)==1)=true)),if_neg (by decide: ¬(((9:Int)==2)=true)),if_neg (by decide: ¬(((9:Int)==3)=true)),if_neg (by decide: ¬(((9:Int)==4)=true)),if_neg (by decide: ¬(((9:Int)==5)=true)),if_neg (by decide: ¬(((9:Int)==6)=true)),if_neg (by decide: ¬(((9:Int)==7)=true)),if_neg (by decide: ¬(((9:Int)==8)=true)),if_pos (by decide:(((9:Int)==9)=true))];rw [X.zad3,if_neg (by decide),if_neg (zq8 ha (by decide)),j4];rfl
   by_cases h10:op=10
   ·subst h10;rw [if_neg (by decide: ¬((10:Int)=1)),if_neg (by decide: ¬((10:Int)=2)),if_neg (by decide: ¬((10:Int)=3)),if_neg (by decide: ¬((10:Int)=4)),if_neg (by decide: ¬((10:Int)=5)),if_neg (by decide: ¬((10:Int)=6)),if_neg (by decide: ¬((10:Int)=7)),if_neg (by decide: ¬((10:Int)=8)),if_neg (by decide: ¬((10:Int)=9)),if_pos (rfl:(10:Int)=10)];rw [if_neg (by decide: ¬(((10:Int)==1)=true)),if_neg (by decide: ¬(((10:Int)==2)=true)),if_neg (by decide: ¬(((10:Int)==3)=true)),if_neg (by decide: ¬(((10:Int)==4)=true)),if_neg (by decide: ¬(((10:Int)==5)=true)),if_neg (by decide: ¬(((10:Int)==6)=true)),if_neg (by decide: ¬(((10:Int)==7)=true)),if_neg (by decide: ¬(((10:Int)==8)=true)),if_neg (by decide: ¬(((10:Int)==9)=true)),if_pos (by decide:(((10:Int)==10)=true))];rw [X.zad5,if_neg (by decide),if_neg (zq8 ha (by decide)),j4];rfl
   by_cases h11:op=11
   ·subst h11;rw [if_neg (by decide: ¬((11:Int)=1)),if_neg (by decide: ¬((11:Int)=2)),if_neg (by decide: ¬((11:Int)=3)),if_neg (by decide: ¬((11:Int)=4)),if_neg (by decide: ¬((11:Int)=5)),if_neg (by decide: ¬((11:Int)=6)),if_neg (by decide: ¬((11:Int)=7)),if_neg (by decide: ¬((11:Int)=8)),if_neg (by decide: ¬((11:Int)=9)),if_neg (by decide: ¬((11:Int)=10)),if_pos (rfl:(11:Int)=11)];rw [if_neg (by decide: ¬(((11:Int)==1)=true)),if_neg (by decide: ¬(((11:Int)==2)=true)),if_neg (by decide: ¬(((11:Int)==3)=true)),if_neg (by decide: ¬(((11:Int)==4)=true)),if_neg (by decide: ¬(((11:Int)==5)=true)),if_neg (by decide: ¬(((11:Int)==6)=true)),if_neg (by decide: ¬(((11:Int)==7)=true)),if_neg (by decide: ¬(((11:Int)==8)=true)),if_neg (by decide: ¬(((11:Int)==9)=true)),if_neg (by decide: ¬(((11:Int)==10)=true)),if_pos (by decide:(((11:Int)==11)=true))];rw [X.zad7,if_neg (by decide),if_neg (zq8 ha (by decide)),j4];rfl
   by_cases h12:op=12
   ·subst h12;rw [if_neg (by decide: ¬((12:Int)=1)),if_neg (by decide: ¬((12:Int)=2)),if_neg (by decide: ¬((12:Int)=3)),if_neg (by decide: ¬((12:Int)=4)),if_neg (by decide: ¬((12:Int)=5)),if_neg (by decide: ¬((12:Int)=6)),if_neg (by decide: ¬((12:Int)=7)),if_neg (by decide: ¬((12:Int)=8)),if_neg (by decide: ¬((12:Int)=9)),if_neg (by decide: ¬((12:Int)=10)),if_neg (by decide: ¬((12:Int)=11)),if_pos (rfl:(12:Int)=12)];rw [if_neg (by decide: ¬(((12:Int)==1)=true)),if_neg (by decide: ¬(((12:Int)==2)=true)),if_neg (by decide: ¬(((12:Int)==3)=true)),if_neg (by decide: ¬(((12:Int)==4)=true)),if_neg (by decide: ¬(((12:Int)==5)=true)),if_neg (by decide: ¬(((12:Int)==6)=true)),if_neg (by decide: ¬(((12:Int)==7)=true)),if_neg (by decide: ¬(((12:Int)==8)=true)),if_neg (by decide: ¬(((12:Int)==9)=true)),if_neg (by decide: ¬(((12:Int)==10)=true)),if_neg (by decide: ¬(((12:Int)==11)=true)),if_pos (by decide:(((12:Int)==12)=true))];rw [X.zad9,j4];rfl
   by_cases h13:op=13
   ·subst h13;rw [if_neg (by decide: ¬((13:Int)=1)),if_neg (by decide: ¬((13:Int)=2)),if_neg (by decide: ¬((13:Int)=3)),if_neg (by decide: ¬((13:Int)=4)),if_neg (by decide: ¬((13:Int)=5)),if_neg (by decide: ¬((13:Int)=6)),if_neg (by decide: ¬((13:Int)=7)),if_neg (by decide: ¬((13:Int)=8)),if_neg (by decide: ¬((13:Int)=9)),if_neg (by decide: ¬((13:Int)=10)),if_neg (by decide: ¬((13:Int)=11)),if_neg (by decide: ¬((13:Int)=12)),if_pos (rfl:(13:Int)=13)];rw [if_neg (by decide: ¬(((13:Int)==1)=true)),if_neg (by decide: ¬(((13:Int)==2)=true)),if_neg (by decide: ¬(((13:Int)==3)=true)),if_neg (by decide: ¬(((13:Int)==4)=true)),if_neg (by decide: ¬(((13:Int)==5)=true)),if_neg (by decide: ¬(((13:Int)==6)=true)),if_neg (by decide: ¬(((13:Int)==7)=true)),if_neg (by decide: ¬(((13:Int)==8)=true)),if_neg (by decide: ¬(((13:Int)==9)=true)),if_neg (by decide: ¬(((13:Int)==10)=true)),if_neg (by decide: ¬(((13:Int)==11)=true)),if_neg (by decide: ¬(((13:Int)==12)=true)),if_pos (by decide:(((13:Int)==13)=true))];rw [X.zae1,j4];rfl
   rw [if_neg h1,if_neg h2,if_neg h3,if_neg h4,if_neg h5,if_neg h6,if_neg h7,if_neg h8,if_neg h9,if_neg h10,if_neg h11,if_neg h12,if_neg h13];rw [if_neg (by simpa using h1),if_neg (by simpa using h2),if_neg (by simpa using h3),if_neg (by simpa using h4),if_neg (by simpa using h5),if_neg (by simpa using h6),if_neg (by simpa using h7),if_neg (by simpa using h8),if_neg (by simpa using h9),if_neg (by simpa using h10),if_neg (by simpa using h11),if_neg (by simpa using h12),if_neg (by simpa using h13)]
 rw [X.um7,e];cases h4:(op==(4:Int)) with
 |true=>rw [j7,hj _ (by rw [h4];rfl)]
 |false=>
  rw [j5];cases h5:(op==(5:Int)) with
  |true=>rw [j7,hj _ (by rw [h4,h5];rfl)]
  |false=>rw [j5,hj _ (by rw [h4,h5];rfl)]
def ko6 (x):za5 (IntKind.u32.wrap x):=by rw [vl8];omega
def vr7 (nw a b) (c:0<=b):qcw g9 11 nw a b=some (jy3 11 nw a b):=by
 rw [ut8];cases nw with
 |true=>
  rw [j7,do32 _ _ _ (ko6 b).1,j4];have:qb1 11 32 (IntKind.u32.wrap a) (IntKind.u32.wrap b)=(yq4 (IntKind.u32.wrap a) (IntKind.u32.wrap b) 32,0):=rfl;unfold jy3 zd5;rw [if_pos rfl,this];show some (IntKind.u64.wrap (yq4 _ _ 32),(0:Int))=some (yq4 _ _ 32,0);rw [zc8];exact ⟨(ko6 _).1,(ko6 _).2⟩
 |false=>rw [j5,do64 _ _ _ c,j4];rfl
def zan1 (a b):qdh g9 a b=some (qn7 a b):=by rw [uv5];rfl
def wi0: ∀i:Fin 256,(ue8[i.val]?).map (fun b=>(b.toNat:Int))=some (tab0.getD i.val 0):=by decide+kernel
def gp5: ∀i:Fin 256,0<=tab0.getD i.val 0/\tab0.getD i.val 0<=8:=by decide+kernel
def u8in (x):0<=IntKind.u8.wrap x/\IntKind.u8.wrap x<256:=by rw [jg8];omega
def zbh7 {R} (x:Int) (K:Int->Option R):jk1 ue8 (IntKind.u8.wrap x) K=K (tab0.getD (IntKind.u8.wrap x).toNat 0):=by
 have h:=u8in x;have:=wi0 ⟨(IntKind.u8.wrap x).toNat,by omega⟩;unfold jk1;rw [if_pos h.1];simp only at this;cases hs:ue8[(IntKind.u8.wrap x).toNat]? with
 |none=>rw [hs] at this;cases this
 |some b=>rw [hs] at this;simp only [Z8,X0] at this;rw [<-this]
def zam7 (x:Int):qr g9 x=some (ve2 x):=by
 obtain ⟨n,e⟩: ∃n:Nat,(g9:Nat)=n+1+1+1:=⟨999999997,rfl⟩;have j2: ∀s0 s2:Int,0<=s2/\s2<=1000->kn5 (n+1) s0 s2=some (s2+tab0.getD (IntKind.u8.wrap s0).toNat 0):=fun s0 s2 h=>by
  have h1:=u8in s0;have h2:=gp5 ⟨(IntKind.u8.wrap s0).toNat,by omega⟩;simp only at h2;rw [gc8,zbh7,zg7 (x:=tab0.getD _ 0) (by omega),zg7 (by omega)]
 have j1: ∀s0 s2:Int,0<=s2/\s2<=900->kn4 (n+1+1) s0 s2=some (if decide (s0>=(256:Int))=true then (s2+8)+tab0.getD (IntKind.u8.wrap (ze0 .u64 s0 8)).toNat 0 else s2+tab0.getD (IntKind.u8.wrap s0).toNat 0):=fun s0 s2 h=>by
  rw [gc7,zg7 (by omega),j2 _ _ (by omega),j2 _ _ (by omega),zc3]
 have j0: ∀s0 s2:Int,0<=s2/\s2<=800->kn3 (n+1+1+1) s0 s2=some (if decide (s0>=(65536:Int))=true then (if decide (ze0 .u64 s0 16>=(256:Int))=true then (s2+16+8)+tab0.getD (IntKind.u8.wrap (ze0 .u64 (ze0 .u64 s0 16) 8)).toNat 0 else s2+16+tab0.getD (IntKind.u8.wrap (ze0 .u64 s0 16)).toNat 0) else if decide (s0>=(256:Int))=true then (s2+8)+tab0.getD (IntKind.u8.wrap (ze0 .u64 s0 8)).toNat 0 else s2+tab0.getD (IntKind.u8.wrap s0).toNat 0):=fun s0 s2 h=>by
  rw [gc6,zg7 (by omega),j1 _ _ (by omega),j1 _ _ (by omega),zc3]
 rw [zbf7,e,j0 _ _ (by omega),j0 _ _ (by omega),zc3];unfold ve2
 grind
end Go.Y
namespace Go.Y
open Go.RowKit Go.V Go.X Go.Proofs
def wk1 (x): ¬zq9 x 1=0:=by unfold zq9;split<;>omega
end Go.Y
namespace Go.Y
open Go.RowKit Go.V Go.X Go.Proofs
def zy7 (nw):qm g9 nw=some (zj6 nw):=by rw [zbf0];cases nw<;>rfl
def zc7 (s):qn g9 s=some (za0 s):=by rw [zbf1];rfl
def gk3 (x):qas g9 x=some (yd5 x):=by rw [um1];rfl
def qd1 (s):X.qt g9 s=some (qt s):=by rw [X.zbf9,gk3,j4];rfl
def wj5 (s nw):X.qg g9 s nw=some (qg s nw):=by rw [X.zbc7,zy7,j4,zc3,zc3];rfl
def wW (nw:Bool) (u v:v9):Work:=⟨u.Lo,u.Hi,v.Lo,v.Hi,nw,zh9 nw,if nw then 32 else 64⟩
def tW (w:Work):Twork:=⟨⟨w.a_Lo,w.a_Hi⟩,⟨w.b_Lo,w.b_Hi⟩,w.narrow,w.most,w.size⟩
def yb4 (nw u v):tW (wW nw u v)=wk nw u v:=rfl
def zr6 (nw a b):X.qao g9 nw a b=some (wW nw (qg a nw) (qg b nw)):=by
 rw [X.ul5,wj5,j4,wj5,j4];cases nw<;>rfl
def pS (o:Option v9):Unit×((Span×Unit)⊕(Unit×Unit)):=((),match o with|some r=>.inl (r,())|none=>.inr ((),()))
def zi6 (c):qi g9 c=some ((),if c=true then .inl () else .inr ((),())):=by rw [zbe5];cases c<;>rfl
def vm9 (w x y):X.qbg g9 w x y=some (qbg (tW w) x y):=by rw [X.uo0];rfl
def jy4 (w):X.qab g9 w=some (qab (tW w)):=by
 rw [X.uj6,qd1,j4,qd1,j4,zx9];rfl
def gh6 (x):X.qbq g9 x=some (qbq x):=by
 have h:0<=ve2 x:=by
  have a: ∀k:Int,0<=tab0.getD (IntKind.u8.wrap k).toNat 0:=fun k=>by
   have b:=u8in k;exact (gp5 ⟨(IntKind.u8.wrap k).toNat,by omega⟩).1
  unfold ve2
  repeat' split
  all_goals first|exact Int.add_nonneg (by decide) (a _)
 rw [X.up4,zam7,j4,if_neg (by omega)];rfl
def zak7 (w:Work):qbk g9 w=some (pS (zs0 (tW w))):=by
 obtain ⟨n,e⟩: ∃n:Nat,(g9:Nat)=n+1:=⟨999999999,rfl⟩;rw [uo4,zi6,j4,zi6,j4,e,kg5,vm9,j4];show _=some (pS (ym3 (zh4 (decide (w.b_Hi<=IntKind.u64.wrap (w.most-w.a_Hi))||decide (w.b_Lo>IntKind.u64.wrap (w.most-w.a_Lo)))) none _));cases decide (w.b_Hi<=IntKind.u64.wrap (w.most-w.a_Hi))<;>cases decide (w.b_Lo>IntKind.u64.wrap (w.most-w.a_Lo))<;>rfl
def zbh5 (w:Work):qbo g9 w=some (pS (zs4 (tW w))):=by
 obtain ⟨n,e⟩: ∃n:Nat,(g9:Nat)=n+1:=⟨999999999,rfl⟩;rw [up2,zi6,j4,zi6,j4,e,kg9,vm9,j4];show _=some (pS (ym3 (zh4 (decide (w.a_Lo>=w.b_Hi)||decide (w.a_Hi<w.b_Lo))) none _));cases decide (w.a_Lo>=w.b_Hi)<;>cases decide (w.a_Hi<w.b_Lo)<;>rfl
def ui5 (w:Work):qbl g9 w=some (pS (zs1 (tW w))):=by
 obtain ⟨n,e⟩: ∃n:Nat,(g9:Nat)=n+1:=⟨999999999,rfl⟩;rw [uo6,zan1,j4,zi6,j4,zi6,j4,e,kg6];show _=some (pS (ym3 (zh4 (((qn7 w.a_Hi w.b_Hi).1==(0:Int))&&decide ((qn7 w.a_Hi w.b_Hi).2<=w.most))) none _));cases ((qn7 w.a_Hi w.b_Hi).1==(0:Int))<;>cases decide ((qn7 w.a_Hi w.b_Hi).2<=w.most)<;>rfl
def zal5 (w):X.qcb g9 w=some (qcb (tW w)):=by
 rw [X.ur1,if_neg (wk1 _),if_neg (wk1 _)];rfl
def zam9 (w):X.qbw g9 w=some (qbw (tW w)):=by
 rw [X.uq2,zc3];rfl
def zak8 (w):X.qbv g9 w=some (qbv (tW w)):=by
 rw [X.uq0,jy4,j4,gk3,j4,zc3];rfl
def or_v (w):X.qbx g9 w=some (qbx (tW w)):=by
 rw [X.uq4,jy4,j4,gk3,j4,gh6,j4,zc3];rfl
def zbh8 (w):X.qby g9 w=some (qby (tW w)):=by
 rw [X.uq6,jy4,j4,gk3,j4,gh6,j4,zc3];rfl
def zan0 (w):X.qcc g9 w=some (qcc (tW w)):=by rw [X.ur3];rfl
def zan2 (w):qef g9 w=some (pS (zn3 (tW w))):=by
 rw [zaa3,zi6,j4,vm9,j4];show _=some (pS (if (w.a_Hi==(0:Int))=true then some ⟨w.a_Lo,w.a_Hi⟩ else ym3 (zh4 (decide (w.a_Lo>(0:Int)))) none _));cases (w.a_Hi==(0:Int))<;>cases decide (w.a_Lo>(0:Int))<;>rfl
def zbh0 (w:Work) (hs:0<w.size) (hb:0<=w.b_Lo):qbn g9 w=some (pS (zs3 (tW w))):=by
 obtain ⟨n,e⟩: ∃n:Nat,(g9:Nat)=n+1:=⟨999999999,rfl⟩;have ht:=zq8 hb hs;rw [up0,if_neg (by omega),qd1,j4,if_neg ht,zi6,j4,zi6,j4,e,kg8,if_neg ht,if_neg ht];show _=some (pS (ym3 (zh4 (qt (⟨w.b_Lo,w.b_Hi⟩:v9)&&decide (w.a_Hi<=ze0 .u64 w.most (w.b_Lo.tmod w.size)))) none _));cases qt (⟨w.b_Lo,w.b_Hi⟩:v9)<;>cases decide (w.a_Hi<=ze0 .u64 w.most (w.b_Lo.tmod w.size))<;>rfl
def zbh2 (w:Work) (hs:0<w.size) (hb:0<=w.b_Lo) (hc:0<=w.b_Hi):X.qal g9 w=some (qal (tW w)):=by
 obtain ⟨n,e⟩: ∃n:Nat,(g9:Nat)=n+1:=⟨999999999,rfl⟩;have ht:=zq8 hb hs;have hu:=zq8 hc hs;rw [X.ul0,qd1,j4,if_neg (by omega),if_neg (by omega),e,X.qh4,X.qh4,if_neg hu,if_neg ht,if_neg (by omega),if_neg (by omega),zc3,zc3];rfl
def qk6 (w x):X.qae g9 w x=some (qae (tW w) x):=by
 rw [X.uk0,if_neg (by rw [zz9];omega)];rfl
def vt9 (w s):X.qav g9 w s=some (qav (tW w) s):=by
 rw [X.um6,qk6,j4,qk6,j4];rfl
def zbg9 (w:Work) (hb:0<=w.b_Lo):qbm g9 w=some (pS (zs2 (tW w))):=by
 obtain ⟨n,e⟩: ∃n:Nat,(g9:Nat)=n+1:=⟨999999999,rfl⟩;rw [uo8,qd1,j4,vt9,j4,zi6,j4,zi6,j4,e,kg7,vr7 _ _ _ hb,j4,vr7 _ _ _ hb,j4];show _=some (pS (ym3 (zh4 (qt (⟨w.b_Lo,w.b_Hi⟩:v9)&& !(qav (tW w) (⟨w.a_Lo,w.a_Hi⟩:v9)))) none _));cases qt (⟨w.b_Lo,w.b_Hi⟩:v9)<;>cases qav (tW w) (⟨w.a_Lo,w.a_Hi⟩:v9)<;>rfl
end Go.Y
namespace Go.Y
open Go.RowKit Go.V Go.X Go.Proofs
def doP (nw x):(match (pS x).2 with| .inl z=>(j6 (qaz nw z.1.Lo z.1.Hi) fun y=>some ((),((⟨y.2.1.1,y.2.1.2.1⟩:Span),())))| .inr _=>(j6 (qcn nw 0 0) fun y=>some ((),((⟨y.2.1.1,y.2.1.2.1⟩:Span),()))))=some ((),(x.getD (zj6 nw),())):=by
 cases x with
 |none=>show j6 (qcn nw 0 0) _=_;rw [us7,zy7,j4,j4];rfl
 |some r=>show j6 (qaz nw r.Lo r.Hi) _=_;rw [gl7,j4];rfl
def doT (nw r):(j6 (qaz nw r.Lo r.Hi) fun y=>some ((),((⟨y.2.1.1,y.2.1.2.1⟩:Span),())))=some ((),(r,())):=by rw [gl7,j4]
def doR (k:Int) (hk:1<=k/\k<=13) (nw:Bool) (a b:v9):span_Do k nw a b=if ((!za0 a)|| !za0 b)=true then zj6 nw else (zc4 k (wk nw (qg a nw) (qg b nw))).getD (zj6 nw):=by
 rw [yv8,vm0];unfold za0
 grind
def do1 (nw a b) (d:za5 a.Lo/\za5 a.Hi) (e:za5 b.Lo/\za5 b.Hi):qq g9 1 nw a b=some ((),(span_Do 1 nw a b,())):=by
 have c: ∀w,zc4 1 w=zs0 w:=fun w=>by
  unfold zc4;rw [if_pos (rfl:(1:Int)=1)]
 rw [doR 1 (by decide),c,yj3,zr8,j4,if_pos (rfl:(1:Int)=1),zc7,j4,zy7,j4,zc7,j4,zr6,j4];cases h1:za0 a with
 |false=>rfl
 |true=>
  cases h2:za0 b with
  |false=>rfl
  |true=>
   rw [W7,j5,j5,zak7,j4,yb4];exact doP nw _
def do2 (nw:Bool) (a b:v9) (ha:za5 a.Lo/\za5 a.Hi) (hb:za5 b.Lo/\za5 b.Hi):qq g9 2 nw a b=some ((),(span_Do 2 nw a b,())):=by
 have hr: ∀w,zc4 2 w=zs4 w:=fun w=>by
  unfold zc4
  grind
 rw [doR 2 (by decide),hr,yj3,zr8,j4,if_neg (by decide: ¬((2:Int)=1)),if_pos (rfl:(2:Int)=2),zc7,j4,zy7,j4,zc7,j4,zr6,j4];cases h1:za0 a with
 |false=>rfl
 |true=>
  cases h2:za0 b with
  |false=>rfl
  |true=>
   rw [W7,j5,j5,zbh5,j4,yb4];exact doP nw _
def do3 (nw:Bool) (a b:v9) (ha:za5 a.Lo/\za5 a.Hi) (hb:za5 b.Lo/\za5 b.Hi):qq g9 3 nw a b=some ((),(span_Do 3 nw a b,())):=by
 have hr: ∀w,zc4 3 w=zs1 w:=fun w=>by
  unfold zc4
  grind
 rw [doR 3 (by decide),hr,yj3,zr8,j4,if_neg (by decide: ¬((3:Int)=1)),if_neg (by decide: ¬((3:Int)=2)),if_pos (rfl:(3:Int)=3),zc7,j4,zy7,j4,zc7,j4,zr6,j4];cases h1:za0 a with
 |false=>rfl
 |true=>
  cases h2:za0 b with
  |false=>rfl
  |true=>
   rw [W7,j5,j5,ui5,j4,yb4];exact doP nw _
def do4 (nw:Bool) (a b:v9) (ha:za5 a.Lo/\za5 a.Hi) (hb:za5 b.Lo/\za5 b.Hi):qq g9 4 nw a b=some ((),(span_Do 4 nw a b,())):=by
 have hr: ∀w,zc4 4 w=some (qcb w):=fun w=>by
  unfold zc4
  grind
 rw [doR 4 (by decide),hr,yj3,zr8,j4,if_neg (by decide: ¬((4:Int)=1)),if_neg (by decide: ¬((4:Int)=2)),if_neg (by decide: ¬((4:Int)=3)),if_pos (rfl:(4:Int)=4),zc7,j4,zy7,j4,zc7,j4,zr6,j4];cases h1:za0 a with
 |false=>rfl
 |true=>
  cases h2:za0 b with
  |false=>rfl
  |true=>
   rw [W7,j5,j5,zal5,j4,yb4];exact doT nw _
def do5 (nw:Bool) (a b:v9) (ha:za5 a.Lo/\za5 a.Hi) (hb:za5 b.Lo/\za5 b.Hi):qq g9 5 nw a b=some ((),(span_Do 5 nw a b,())):=by
 have hr: ∀w,zc4 5 w=some (qbw w):=fun w=>by
  unfold zc4
  grind
 rw [doR 5 (by decide),hr,yj3,zr8,j4,if_neg (by decide: ¬((5:Int)=1)),if_neg (by decide: ¬((5:Int)=2)),if_neg (by decide: ¬((5:Int)=3)),if_neg (by decide: ¬((5:Int)=4)),if_pos (rfl:(5:Int)=5),zc7,j4,zy7,j4,zc7,j4,zr6,j4];cases h1:za0 a with
 |false=>rfl
 |true=>
  cases h2:za0 b with
  |false=>rfl
  |true=>
   rw [W7,j5,j5,zam9,j4,yb4];exact doT nw _
def do6 (nw:Bool) (a b:v9) (ha:za5 a.Lo/\za5 a.Hi) (hb:za5 b.Lo/\za5 b.Hi):qq g9 6 nw a b=some ((),(span_Do 6 nw a b,())):=by
 have hr: ∀w,zc4 6 w=some (qbv w):=fun w=>by
  unfold zc4
  grind
 rw [doR 6 (by decide),hr,yj3,zr8,j4,if_neg (by decide: ¬((6:Int)=1)),if_neg (by decide: ¬((6:Int)=2)),if_neg (by decide: ¬((6:Int)=3)),if_neg (by decide: ¬((6:Int)=4)),if_neg (by decide: ¬((6:Int)=5)),if_pos (rfl:(6:Int)=6),zc7,j4,zy7,j4,zc7,j4,zr6,j4];cases h1:za0 a with
 |false=>rfl
 |true=>
  cases h2:za0 b with
  |false=>rfl
  |true=>
   rw [W7,j5,j5,zak8,j4,yb4];exact doT nw _
def do7 (nw:Bool) (a b:v9) (ha:za5 a.Lo/\za5 a.Hi) (hb:za5 b.Lo/\za5 b.Hi):qq g9 7 nw a b=some ((),(span_Do 7 nw a b,())):=by
 have hr: ∀w,zc4 7 w=some (qbx w):=fun w=>by
  unfold zc4
  grind
 rw [doR 7 (by decide),hr,yj3,zr8,j4,if_neg (by decide: ¬((7:Int)=1)),if_neg (by decide: ¬((7:Int)=2)),if_neg (by decide: ¬((7:Int)=3)),if_neg (by decide: ¬((7:Int)=4)),if_neg (by decide: ¬((7:Int)=5)),if_neg (by decide: ¬((7:Int)=6)),if_pos (rfl:(7:Int)=7),zc7,j4,zy7,j4,zc7,j4,zr6,j4];cases h1:za0 a with
 |false=>rfl
 |true=>
  cases h2:za0 b with
  |false=>rfl
  |true=>
   rw [W7,j5,j5,or_v,j4,yb4];exact doT nw _
def do8 (nw:Bool) (a b:v9) (ha:za5 a.Lo/\za5 a.Hi) (hb:za5 b.Lo/\za5 b.Hi):qq g9 8 nw a b=some ((),(span_Do 8 nw a b,())):=by
 have hr: ∀w,zc4 8 w=some (qby w):=fun w=>by
  unfold zc4
  grind
 rw [doR 8 (by decide),hr,yj3,zr8,j4,if_neg (by decide: ¬((8:Int)=1)),if_neg (by decide: ¬((8:Int)=2)),if_neg (by decide: ¬((8:Int)=3)),if_neg (by decide: ¬((8:Int)=4)),if_neg (by decide: ¬((8:Int)=5)),if_neg (by decide: ¬((8:Int)=6)),if_neg (by decide: ¬((8:Int)=7)),if_pos (rfl:(8:Int)=8),zc7,j4,zy7,j4,zc7,j4,zr6,j4];cases h1:za0 a with
 |false=>rfl
 |true=>
  cases h2:za0 b with
  |false=>rfl
  |true=>
   rw [W7,j5,j5,zbh8,j4,yb4];exact doT nw _
def do9 (nw:Bool) (a b:v9) (ha:za5 a.Lo/\za5 a.Hi) (hb:za5 b.Lo/\za5 b.Hi):qq g9 9 nw a b=some ((),(span_Do 9 nw a b,())):=by
 have hr: ∀w,zc4 9 w=zs3 w:=fun w=>by
  unfold zc4
  grind
 rw [doR 9 (by decide),hr,yj3,zr8,j4,if_neg (by decide: ¬((9:Int)=1)),if_neg (by decide: ¬((9:Int)=2)),if_neg (by decide: ¬((9:Int)=3)),if_neg (by decide: ¬((9:Int)=4)),if_neg (by decide: ¬((9:Int)=5)),if_neg (by decide: ¬((9:Int)=6)),if_neg (by decide: ¬((9:Int)=7)),if_neg (by decide: ¬((9:Int)=8)),if_pos (rfl:(9:Int)=9),zc7,j4,zy7,j4,zc7,j4,zr6,j4];cases h1:za0 a with
 |false=>rfl
 |true=>
  cases h2:za0 b with
  |false=>rfl
  |true=>
   have hu:=(zr3 (nw:=nw) ha (of_decide_eq_true h1)).u;have hv:=(zr3 (nw:=nw) hb (of_decide_eq_true h2)).u;have hs:0<(wW nw (qg a nw) (qg b nw)).size:=by unfold wW;cases nw;exact (by decide:(0:Int)<64);exact (by decide:(0:Int)<32)
   rw [W7,j5,j5,zbh0 _ hs hv.1.1,j4,yb4];exact doP nw _
def do10 (nw:Bool) (a b:v9) (ha:za5 a.Lo/\za5 a.Hi) (hb:za5 b.Lo/\za5 b.Hi):qq g9 10 nw a b=some ((),(span_Do 10 nw a b,())):=by
 have hr: ∀w,zc4 10 w=some (qal w):=fun w=>by
  unfold zc4
  grind
 rw [doR 10 (by decide),hr,yj3,zr8,j4,if_neg (by decide: ¬((10:Int)=1)),if_neg (by decide: ¬((10:Int)=2)),if_neg (by decide: ¬((10:Int)=3)),if_neg (by decide: ¬((10:Int)=4)),if_neg (by decide: ¬((10:Int)=5)),if_neg (by decide: ¬((10:Int)=6)),if_neg (by decide: ¬((10:Int)=7)),if_neg (by decide: ¬((10:Int)=8)),if_neg (by decide: ¬((10:Int)=9)),if_pos (rfl:(10:Int)=10),zc7,j4,zy7,j4,zc7,j4,zr6,j4];cases h1:za0 a with
 |false=>rfl
 |true=>
  cases h2:za0 b with
  |false=>rfl
  |true=>
   have hu:=(zr3 (nw:=nw) ha (of_decide_eq_true h1)).u;have hv:=(zr3 (nw:=nw) hb (of_decide_eq_true h2)).u;have hs:0<(wW nw (qg a nw) (qg b nw)).size:=by unfold wW;cases nw;exact (by decide:(0:Int)<64);exact (by decide:(0:Int)<32)
   rw [W7,j5,j5,zbh2 _ hs hv.1.1 hv.2.1,j4,yb4];exact doT nw _
def do11 (nw:Bool) (a b:v9) (ha:za5 a.Lo/\za5 a.Hi) (hb:za5 b.Lo/\za5 b.Hi):qq g9 11 nw a b=some ((),(span_Do 11 nw a b,())):=by
 have hr: ∀w,zc4 11 w=zs2 w:=fun w=>by
  unfold zc4
  grind
 rw [doR 11 (by decide),hr,yj3,zr8,j4,if_neg (by decide: ¬((11:Int)=1)),if_neg (by decide: ¬((11:Int)=2)),if_neg (by decide: ¬((11:Int)=3)),if_neg (by decide: ¬((11:Int)=4)),if_neg (by decide: ¬((11:Int)=5)),if_neg (by decide: ¬((11:Int)=6)),if_neg (by decide: ¬((11:Int)=7)),if_neg (by decide: ¬((11:Int)=8)),if_neg (by decide: ¬((11:Int)=9)),if_neg (by decide: ¬((11:Int)=10)),if_pos (rfl:(11:Int)=11),zc7,j4,zy7,j4,zc7,j4,zr6,j4];cases h1:za0 a with
 |false=>rfl
 |true=>
  cases h2:za0 b with
  |false=>rfl
  |true=>
   have hu:=(zr3 (nw:=nw) ha (of_decide_eq_true h1)).u;have hv:=(zr3 (nw:=nw) hb (of_decide_eq_true h2)).u;rw [W7,j5,j5,zbg9 _ hv.1.1,j4,yb4];exact doP nw _
def do12 (nw:Bool) (a b:v9) (ha:za5 a.Lo/\za5 a.Hi) (hb:za5 b.Lo/\za5 b.Hi):qq g9 12 nw a b=some ((),(span_Do 12 nw a b,())):=by
 have hr: ∀w,zc4 12 w=some (qcc w):=fun w=>by
  unfold zc4
  grind
 rw [doR 12 (by decide),hr,yj3,zr8,j4,if_neg (by decide: ¬((12:Int)=1)),if_neg (by decide: ¬((12:Int)=2)),if_neg (by decide: ¬((12:Int)=3)),if_neg (by decide: ¬((12:Int)=4)),if_neg (by decide: ¬((12:Int)=5)),if_neg (by decide: ¬((12:Int)=6)),if_neg (by decide: ¬((12:Int)=7)),if_neg (by decide: ¬((12:Int)=8)),if_neg (by decide: ¬((12:Int)=9)),if_neg (by decide: ¬((12:Int)=10)),if_neg (by decide: ¬((12:Int)=11)),if_pos (rfl:(12:Int)=12),zc7,j4,zy7,j4,zc7,j4,zr6,j4];cases h1:za0 a with
 |false=>rfl
 |true=>
  cases h2:za0 b with
  |false=>rfl
  |true=>
   rw [W7,j5,j5,zan0,j4,yb4];exact doT nw _
def do13 (nw:Bool) (a b:v9) (ha:za5 a.Lo/\za5 a.Hi) (hb:za5 b.Lo/\za5 b.Hi):qq g9 13 nw a b=some ((),(span_Do 13 nw a b,())):=by
 have hr: ∀w,zc4 13 w=zn3 w:=fun w=>by
  unfold zc4
  grind
 rw [doR 13 (by decide),hr,yj3,zr8,j4,if_neg (by decide: ¬((13:Int)=1)),if_neg (by decide: ¬((13:Int)=2)),if_neg (by decide: ¬((13:Int)=3)),if_neg (by decide: ¬((13:Int)=4)),if_neg (by decide: ¬((13:Int)=5)),if_neg (by decide: ¬((13:Int)=6)),if_neg (by decide: ¬((13:Int)=7)),if_neg (by decide: ¬((13:Int)=8)),if_neg (by decide: ¬((13:Int)=9)),if_neg (by decide: ¬((13:Int)=10)),if_neg (by decide: ¬((13:Int)=11)),if_neg (by decide: ¬((13:Int)=12)),if_pos (rfl:(13:Int)=13),zc7,j4,zy7,j4,zc7,j4,zr6,j4];cases h1:za0 a with
 |false=>rfl
 |true=>
  cases h2:za0 b with
  |false=>rfl
  |true=>
   rw [W7,j5,j5,zan2,j4,yb4];exact doP nw _
def do_v (op nw a b) (c:za5 a.Lo/\za5 a.Hi) (d:za5 b.Lo/\za5 b.Hi):qq g9 op nw a b=some ((),(span_Do op nw a b,())):=by
 by_cases j:op=1
 ·subst j;exact do1 nw a b c d
 by_cases k:op=2
 ·subst k;exact do2 nw a b c d
 by_cases l:op=3
 ·subst l;exact do3 nw a b c d
 by_cases m:op=4
 ·subst m;exact do4 nw a b c d
 by_cases n:op=5
 ·subst n;exact do5 nw a b c d
 by_cases o:op=6
 ·subst o;exact do6 nw a b c d
 by_cases p:op=7
 ·subst p;exact do7 nw a b c d
 by_cases q:op=8
 ·subst q;exact do8 nw a b c d
 by_cases r:op=9
 ·subst r;exact do9 nw a b c d
 by_cases e:op=10
 ·subst e;exact do10 nw a b c d
 by_cases f:op=11
 ·subst f;exact do11 nw a b c d
 by_cases g:op=12
 ·subst g;exact do12 nw a b c d
 by_cases i:op=13
 ·subst i;exact do13 nw a b c d
 rw [yj3,zr8,j4,if_neg j,if_neg k,if_neg l,if_neg m,if_neg n,if_neg o,if_neg p,if_neg q,if_neg r,if_neg e,if_neg f,if_neg g,if_neg i,zy7,j4,yv8,if_neg (fun h=>by have:=h.1;omega),vm0]
end Go.Y
namespace Go.Y
open Go.RowKit Go.V Go.X Go.Proofs
def jp7 (nw:Bool):zh9 nw<=18446744073709551615:=by cases nw<;>decide
def wj9 (nw:Bool) (a b:v9) (o:Option (v9×v9)):Span×Span×Bool:=match o with|none=>(⟨0,0⟩,⟨0,0⟩,false)|some x=>(if a.Hi>zh9 nw then a else x.1,if b.Hi>zh9 nw then b else x.2,true)
def kv8 {op:Int} (hop:17<=op/\op<=26):17<=ym2 op/\ym2 op<=26:=by
 unfold ym2
 repeat' split
 all_goals omega
def ifE (op:Int) (nw yes:Bool) (a b:v9):Span×Span×Bool:=if (17<=op/\op<=27)/\a.Lo<=a.Hi/\b.Lo<=b.Hi then wj9 nw a b (qd7 nw op yes (qg a nw) (qg b nw)) else (a,b,true)
end Go.Y
namespace Go.Y
open Go.RowKit Go.V Go.X Go.Proofs
def ke4 {op:Int} (hop:17<=op/\op<=26):17<=ym2 op/\ym2 op<=26/\(ym2 op>=23↔op>=23):=by
 unfold ym2
 repeat' split
 all_goals omega
end Go.Y
