import Derived.Test.YthhhfnfgmijggaaGreatIb
import Derived.Test.YthhhfnfgmijggaaGreatM1
import Derived.Test.YthhhfnfgmijggaaGreatIa
import Derived.Test.YthhhfnfgmijggaaGreatIc
set_option linter.defProp false
namespace Go.Y
open Go.RowKit Go.V Go.X Go.Proofs
def zp3 (x:Int):Prop:=x=1\/x=2\/x=4\/x=8
instance (x:Int):Decidable (zp3 x):=by unfold zp3;infer_instance
def zg3 (b:List Bool) (at_ sz:Int):Int:=if b.length≠512\/ ¬zp3 sz then 2 else if at_< -512\/at_> -sz then 112 else 0
def yy1 (b:List Bool) (p:Nat):Nat->List Bool
 |0=>b
 |k+1=>(yy1 b p k).set (p+k) true
def je0 (b p): ∀k,(yy1 b p k).length=b.length
 |0=>rfl
 |k+1=>by rw [yy1,Q1,je0 b p k]
def yy6 {b at_ sz} (h:zg3 b at_ sz=0):b.length=512/\zp3 sz/\ -512<=at_/\at_<= -sz:=by
 unfold zg3 at h;split at h
 ·cases h
 ·rename_i a;split at h
  ·cases h
  ·rename_i d;exact ⟨by omega,Classical.not_not.1 fun c=>a (.inr c),by omega,by omega⟩
def jn8 (b:List Bool) (at_ sz:Int):List Bool×Int:=if zg3 b at_ sz=0 then (yy1 b (at_+512).toNat sz.toNat,0) else ([],zg3 b at_ sz)
def ql6 (b:List Bool) (p m:Nat) (k:Nat):Bool:=(List.range' k (m-k)).all fun i=>b.getD (p+i) false
def kg9 (b p m k) (h:k<m):ql6 b p m k=(b.getD (p+k) false&&ql6 b p m (k+1)):=by
 unfold ql6;obtain ⟨d,a⟩: ∃d,m-k=d+1:=⟨m-k-1,by omega⟩;rw [a,List.range'_succ,J0,show m-(k+1)=d by omega]
def ga5 (b p m):ql6 b p m m=true:=by unfold ql6;simp
def vj4 (b:List Bool) (at_ sz:Int):Int:=if zg3 b at_ sz=0 then (if ql6 b (at_+512).toNat sz.toNat 0=true then 0 else 110) else zg3 b at_ sz
def ye3 (a b r:List Bool):Nat->List Bool
 |0=>r
 |k+1=>(ye3 a b r k).set k (a.getD k false&&b.getD k false)
def jd5 (a b r): ∀k,(ye3 a b r k).length=r.length
 |0=>rfl
 |k+1=>by rw [ye3,Q1,jd5 a b r k]
def yn5 (a b r j): ∀k,(ye3 a b r k)[j]?=if j<k/\j<r.length then some (a.getD j false&&b.getD j false) else r[j]?
 |0=>by simp [ye3]
 |k+1=>by
  rw [ye3,List.getElem?_set,yn5 a b r j k,jd5];by_cases d:k=j
  ·subst d;simp only [Nat.lt_irrefl,false_and,if_false,true_and,if_true];by_cases c:k<r.length
   ·rw [if_pos c,if_pos ⟨by omega,c⟩]
   ·rw [if_neg c,if_neg (fun h=>c h.2),Y5 (by omega)]
  ·rw [if_neg d];by_cases c:j<k/\j<r.length
   ·rw [if_pos c,if_pos ⟨by omega,c.2⟩]
   ·rw [if_neg c,if_neg (fun h=>c ⟨by omega,h.2⟩)]
def qa8 (a b:List Bool):List Bool:=if a.length=512/\b.length=512 then ye3 a b (List.replicate 512 false) 512 else []
def qp4 (b) (h:b.length=512):qcd v3 b=some ((),.inl (b,())):=by
 rw [gj7,show (((b.length:Nat):Int) != 512)=false by simp [h],z5,if_pos (by omega)]
def kr3 (b) (h: ¬b.length=512):qcd v3 b=some ((),.inr (2,())):=by
 rw [gj7,show (((b.length:Nat):Int) != 512)=true by simp only [bne_iff_ne,ne_eq];omega,z9]
def ql9 (x:Int):Bool:=decide (zp3 x)
def wu1 {R} (x:Int) (f:Bool->Option R):j4 (x==1) (f (x==1)) (j4 (x==2) (f (x==2)) (j4 (x==4) (f (x==4)) (f (x==8))))=f (ql9 x):=by
 by_cases a:x=1
 ·subst a;rfl
 by_cases b:x=2
 ·subst b;rfl
 by_cases c:x=4
 ·subst c;rfl
 by_cases d:x=8
 ·subst d;rfl
 have e:ql9 x=false:=W4 (by unfold zp3;omega);rw [show (x==1)=false by simpa using a,show (x==2)=false by simpa using b,show (x==4)=false by simpa using c,show (x==8)=false by simpa using d,e];rfl
def zae1 (b:List Bool) (hl:b.length=512) (at_ sz:Int):qr v3 b at_ sz=some (((b,()),()),if zg3 b at_ sz=0 then .inl (((at_+512).toNat,sz.toNat),()) else .inr (zg3 b at_ sz,())):=by
 obtain ⟨n,e⟩: ∃n:Nat,(v3:Nat)=n+1+1+1+1:=⟨999999996,rfl⟩;rw [zak8,wu1 sz (fun c=>qp5 v3 at_ sz c b),e,ge0];unfold zg3 ql9;by_cases hs:zp3 sz
 ·rw [W3 hs,z9,kw3,if_neg (c:=b.length≠512\/ ¬zp3 sz) (fun h=>h.elim (fun h=>h hl) (fun h=>h hs))];have hs':=hs;unfold zp3 at hs';rw [u0 (x:=0-sz) (by omega),Int.zero_sub];by_cases h1:at_< -512
  ·rw [W3 h1,z9,ju4,z9,if_pos (c:=at_< -512\/at_> -sz) (.inl h1),if_neg (by decide)]
  ·by_cases h2:at_> -sz
   ·rw [W4 h1,z5,ju4,W3 h2,z9,if_pos (c:=at_< -512\/at_> -sz) (.inr h2),if_neg (by decide)]
   ·rw [W4 h1,z5,ju4,W4 h2,z5,if_neg (c:=at_< -512\/at_> -sz) (fun h=>h.elim h1 h2),if_pos rfl,gc2,u0 (x:=512+at_) (by omega),if_pos (by omega),if_pos (by omega),Int.add_comm 512 at_,J5,N8]
 ·rw [W4 hs,z5,if_pos (c:=b.length≠512\/ ¬zp3 sz) (.inr hs),if_neg (by decide)]
def zaf8 (b:List Bool) (hl:b.length=512) (at_ sz:Int):qp v3 b at_ sz=some ((),if zg3 b at_ sz=0 then .inl (List.take sz.toNat (List.drop (at_+512).toNat b),()) else .inr (zg3 b at_ sz,())):=by
 obtain ⟨n,e⟩: ∃n:Nat,(v3:Nat)=n+1+1+1+1:=⟨999999996,rfl⟩;rw [zal0,wu1 sz (fun c=>qr2 v3 b at_ sz c),e,ga9];unfold zg3 ql9;by_cases hs:zp3 sz
 ·rw [W3 hs,z9,gc5,if_neg (c:=b.length≠512\/ ¬zp3 sz) (fun h=>h.elim (fun h=>h hl) (fun h=>h hs))];have hs':=hs;unfold zp3 at hs';rw [u0 (x:=0-sz) (by omega),Int.zero_sub];by_cases h1:at_< -512
  ·rw [W3 h1,z9,jw1,z9,if_pos (c:=at_< -512\/at_> -sz) (.inl h1),if_neg (by decide)]
  ·by_cases h2:at_> -sz
   ·rw [W4 h1,z5,jw1,W3 h2,z9,if_pos (c:=at_< -512\/at_> -sz) (.inr h2),if_neg (by decide)]
   ·rw [W4 h1,z5,jw1,W4 h2,z5,if_neg (c:=at_< -512\/at_> -sz) (fun h=>h.elim h1 h2),if_pos rfl,kz4,u0 (x:=512+at_) (by omega),if_pos (by omega),if_pos (by omega),Int.add_comm 512 at_,T3,N8,
     show List.take (((512:Nat):Int).toNat-(at_+512).toNat) (List.drop (at_+512).toNat b)=List.drop (at_+512).toNat b from Q3 (by rw [Q6,hl];omega),
     if_pos (by rw [Q6,hl];omega)]
 ·rw [W4 hs,z5,if_pos (c:=b.length≠512\/ ¬zp3 sz) (.inr hs),if_neg (by decide)]
def js2 {b} (h: ¬b.length=512) (at_ sz):zg3 b at_ sz=2:=by unfold zg3;rw [if_pos (.inl h)]
def set1 (b at_ sz):qat v3 b at_ sz=some (((b,()),(at_,()),(sz,()),()),if zg3 b at_ sz=0 then .inl (yy1 b (at_+512).toNat sz.toNat,()) else .inr (zg3 b at_ sz,())):=by
 rw [uf5];by_cases a:b.length=512
 ·rw [qp4 b a,z6];show (if 512<=b.length then z8 (qr v3 (List.take 512 (List.drop 0 b)) at_ sz) _ else none)=_;rw [if_pos (by omega),T3,Q3 (by omega),zae1 b a,z6];by_cases h:zg3 b at_ sz=0
  ·rw [if_pos h,if_pos h];obtain ⟨_,c,e,f⟩:=yy6 h;unfold zp3 at c;show yr8 v3 (at_+512).toNat sz.toNat ((sz.toNat:Nat):Int) 0 b at_ sz b=_;refine vf6 (fun n k=>yr8 n (at_+512).toNat sz.toNat ((sz.toNat:Nat):Int) (k:Int) b at_ sz (yy1 b (at_+512).toNat k)) 1 sz.toNat _ (fun n k d=>?_) (fun n=>?_) v3 (by unfold v3;omega)
   ·show yr8 (n+1) _ _ _ (k:Int) _ _ _ _=yr8 n (at_+512).toNat sz.toNat ((sz.toNat:Nat):Int) ((k+1:Nat):Int) b at_ sz (yy1 b (at_+512).toNat (k+1));rw [qc4,W3 (by omega),z9,if_pos (by omega),nx d (by omega),yy1,Z1]
   ·show yr8 (n+1) _ _ _ ((sz.toNat:Nat):Int) _ _ _ _=_;rw [qc4,W4 (by omega),z5]
  ·rw [if_neg h,if_neg h]
 ·rw [kr3 b a,z6,js2 a,if_neg (by decide)]
def zah6 (b at_ sz):qdd v3 b at_ sz=some (jn8 b at_ sz):=by
 rw [uh0,uf7,set1,z6];unfold jn8;by_cases h:zg3 b at_ sz=0
 ·rw [if_pos h,if_pos h];show z8 (z8 (qbh 0) _) _=_;rw [gi6,z6,z6]
 ·rw [if_neg h,if_neg h];show z8 (z8 (qbi 0 (zg3 b at_ sz)) _) _=_;rw [gh5,z6,z6]
def wf3 (b p m k) (a:k<m):(List.take m (List.drop p b)).getD k false=b.getD (p+k) false:=by
 rw [Y2,Y2,Z3,if_pos a,Q5]
def zae6 (b at_ sz):qac v3 b at_ sz=some (((b,()),(at_,()),(sz,()),()),if zg3 b at_ sz=0 then (if ql6 b (at_+512).toNat sz.toNat 0=true then .inl (true,()) else .inr (110,())) else .inr (zg3 b at_ sz,())):=by
 rw [ul5];by_cases c:b.length=512
 ·rw [qp4 b c,z6];show z8 (qp v3 b at_ sz) _=_;rw [zaf8 b c,z6];by_cases h:zg3 b at_ sz=0
  ·rw [if_pos h,if_pos h];obtain ⟨_,e,f,g⟩:=yy6 h;unfold zp3 at e;have a:(List.take sz.toNat (List.drop (at_+512).toNat b)).length=sz.toNat:=by rw [Y6,Q6,c];omega
   show yl4 v3 (List.take sz.toNat (List.drop (at_+512).toNat b)) (((List.take sz.toNat (List.drop (at_+512).toNat b)).length:Nat):Int) 0 b at_ sz=_;rw [a];refine ws4 (fun n k=>yl4 n (List.take sz.toNat (List.drop (at_+512).toNat b)) ((sz.toNat:Nat):Int) (k:Int) b at_ sz) 2 sz.toNat (fun k=>some (((b,()),(at_,()),(sz,()),()),(if ql6 b (at_+512).toNat sz.toNat k=true then .inl (true,()) else .inr (110,())))) (fun n k d=>?_) (fun n=>?_) sz.toNat 0 v3 (by omega) (by unfold v3;omega)
   ·show yl4 (n+1+1) _ _ (k:Int) _ _ _=_\/_;rw [show yl4 (n+1+1) (List.take sz.toNat (List.drop (at_+512).toNat b)) ((sz.toNat:Nat):Int) (k:Int) b at_ sz=j4 (!(b.getD ((at_+512).toNat+k) false)) (some (((b,()),(at_,()),(sz,()),()),.inr ((110:Int),()))) (yl4 n (List.take sz.toNat (List.drop (at_+512).toNat b)) ((sz.toNat:Nat):Int) ((k+1:Nat):Int) b at_ sz) by
     rw [qd0,W3 (by omega),z9,if_pos (by rw [a];omega),Z1,wf3 _ _ _ _ d,kd5,nx d (by omega)]]
    simp only [kg9 b _ _ k d];cases b.getD ((at_+512).toNat+k) false with
    |true=>exact .inr ⟨rfl,rfl⟩
    |false=>exact .inl rfl
   ·show yl4 (n+1) _ _ ((sz.toNat:Nat):Int) _ _ _=_;rw [qd0,W4 (by omega),z5,ga5,if_pos rfl]
  ·rw [if_neg h,if_neg h]
 ·rw [kr3 b c,z6,js2 c,if_neg (by decide)]
def zag1 (b at_ sz):qdc v3 b at_ sz=some (vj4 b at_ sz):=by
 rw [ud7,us5,zae6,z6];unfold vj4;by_cases h:zg3 b at_ sz=0
 ·rw [if_pos h,if_pos h];by_cases a:ql6 b (at_+512).toNat sz.toNat 0=true
  ·rw [if_pos a,if_pos a];show z8 (z8 (qck 0) _) _=_;rw [zab6,z6,z6]
  ·rw [if_neg a,if_neg a];show z8 (z8 (qby 0 110) _) _=_;rw [gm0,z6,z6]
 ·rw [if_neg h,if_neg h];show z8 (z8 (qby 0 (zg3 b at_ sz)) _) _=_;rw [gm0,z6,z6]
def kb3 (a b r k):(ye3 a b r k).getD k false=r.getD k false:=by
 rw [Y2,yn5,if_neg (fun h=>Nat.lt_irrefl _ h.1),<-List.getD_eq_getElem?_getD]
def zag8 (a b):qz v3 a b=some (((a,()),(b,()),()),if a.length=512/\b.length=512 then .inl (ye3 a b a 512,()) else .inr (2,())):=by
 rw [zak2];by_cases c:a.length=512
 ·rw [qp4 a c,z6];show (if 512<=a.length then z8 (qcd v3 b) _ else none)=_;rw [if_pos (by omega)];by_cases d:b.length=512
  ·rw [qp4 b d,z6,if_pos ⟨c,d⟩];show ji2 v3 b 0 a b (List.take 512 (List.drop 0 a))=_;rw [T3,Q3 (by omega)];refine vf6 (fun n k=>ji2 n b (k:Int) a b (ye3 a b a k)) 2 512 _ (fun n k f=>?_) (fun n=>?_) v3 (by unfold v3;omega)
   ·show ji2 (n+1+1) b (k:Int) a b (ye3 a b a k)=ji2 n b ((k+1:Nat):Int) a b (ye3 a b a (k+1));have e: ∀r,ko3 (n+1) b (k:Int) a b r=ji2 n b ((k+1:Nat):Int) a b r:=fun r=>by rw [gc9,nx f (by omega)]
    rw [vc3,W3 (by omega),z9,if_pos (by omega),if_pos (by omega),e,e,if_pos (by omega),if_pos (by omega),if_pos (by omega),U0,Z1,kb3,ye3];cases a.getD k false<;>rfl
   ·show ji2 (n+1) b ((512:Nat):Int) a b _=_;rw [vc3,W4 (by omega),z5]
  ·rw [kr3 b d,z6,if_neg (fun h=>d h.2)]
 ·rw [kr3 a c,z6,if_neg (fun h=>c h.1)]
def vi4 (a b) (c:a.length=512):ye3 a b a 512=ye3 a b (List.replicate 512 false) 512:=by
 apply R8;intro j;rw [yn5,yn5,Z9,c];by_cases h:j<512/\j<512
 ·rw [if_pos h,if_pos h]
 ·rw [if_neg h,if_neg h,Y5 (by omega),Y5 (by rw [Z9];omega)]
def wy8 (a b):qcu v3 a b=some (qa8 a b):=by
 rw [uz4,uy1,zag8,z6];unfold qa8;by_cases h:a.length=512/\b.length=512
 ·rw [if_pos h,if_pos h];show z8 (z8 (qbh 0) _) _=_;rw [gi6,z6,z6,vi4 a b h.1]
 ·rw [if_neg h,if_neg h];show z8 (z8 (qbi 0 2) _) _=_;rw [gh5,z6,z6]
def zai4:qea v3=some (List.replicate 512 false):=by rw [up4,if_pos (by omega)]
end Go.Y
namespace Go.Y
open Go.RowKit Go.V Go.X Go.Proofs
def uo8 (x):qfq v3 [1,2,4,8] x=j4 (x==1) (some 0) (j4 (x==2) (some 1) (j4 (x==4) (some 2) (j4 (x==8) (some 3) (some (-1))))):=by kernel_rfl
def zh1 (x:Int):Bool:=x==1||(x==2||(x==4||x==8))
def zp6 (x):qdv v3 [1,2,4,8] x=some (zh1 x):=by
 rw [up7,uo8];unfold zh1;cases x==1<;>cases x==2<;>cases x==4<;>cases x==8<;>rfl
def kx2 (x a b):qcz v3 x a b=some (decide (a<=x)&&decide (x<=b)):=by rw [uw5,zx8]
def yc4 (n m:Int):Bool:=decide (0<=n)&&decide (n<=m)
def zk0 (i:Ins):Bool:=if i.UseImm=true then i.Src==0&&(decide (-2147483648<=i.Imm)&&decide (i.Imm<2147483648)) else yc4 i.Src 10&&i.Imm==0
def jo3 (i:Ins):Bool:=decide (-32768<=i.Off)&&decide (i.Off<32768)
def zf5 (i:Ins):Bool:=
 if 1<=i.Op/\i.Op<=12 then yc4 i.Dst 9&&(zk0 i&&(i.Off==0&&i.Size==0))
 else if i.Op=13 then yc4 i.Dst 9&&(i.Src==0&&(!i.UseImm&&(i.Off==0&&(i.Imm==0&&i.Size==0))))
 else if i.Op=14 then yc4 i.Dst 9&&(yc4 i.Src 10&&(jo3 i&&(zh1 i.Size&&(!i.Narrow&&(!i.UseImm&&i.Imm==0)))))
 else if i.Op=15 then yc4 i.Dst 10&&(jo3 i&&(zh1 i.Size&&(zk0 i&& !i.Narrow)))
 else if i.Op=16 then jo3 i&&(!i.Narrow&&(i.Dst==0&&(i.Src==0&&(!i.UseImm&&(i.Imm==0&&i.Size==0)))))
 else if 17<=i.Op/\i.Op<=27 then yc4 i.Dst 10&&(jo3 i&&(zk0 i&&i.Size==0))
 else decide (i.Op=28)&&(!i.Narrow&&(i.Dst==0&&(i.Src==0&&(!i.UseImm&&(i.Off==0&&(i.Imm==0&&i.Size==0))))))
def vu8 (i):qdb v3 i=some (decide (16<=i.Op)&&decide (i.Op<=27)):=by rw [ul9,zx8]
def ga6 (op):qcj v3 op=some (if 1<=op/\op<=12 then 201 else if op=13 then 193 else if op=14 then 181 else if op=15 then 186 else if op=16 then 144 else if 17<=op/\op<=27 then 218 else if op=28 then 128 else 0):=by
 rw [ud9];simp only [kk1,j5]
 grind
def vt3 (i):qa v3 i=some (zf5 i):=by
 rw [zaf6,ga6];obtain ⟨op,nw,d,s,u,b,c,sz⟩:=i;simp only [z6];have j: ∀(n:Nat) (f m:Int) (z:Bool) (x:Ins),vh0 (n+1) f m z op nw d s u b c sz x.Op x.Narrow x.Dst x.Src x.UseImm x.Off x.Imm x.Size=
   some (f != 0&&((op==x.Op&&(nw==x.Narrow&&(d==x.Dst&&(s==x.Src&&(u==x.UseImm&&(b==x.Off&&(c==x.Imm&&sz==x.Size)))))))&&((decide (0<=d)&&decide (d<=m))&&((decide (0<=s)&&decide (s<=10))&&((decide (-32768<=b)&&decide (b<=32767))&&((decide (-2147483648<=c)&&decide (c<=2147483647))&&z)))))):=by
  intro n f m z x;simp only [gb6,kx2,z6,zx8]
 have a: ∀(n:Nat) (f m:Int) (z:Bool) (o:Int) (p:Bool) (q r:Int) (t:Bool) (v w y:Int),vh0 (n+1) f m z op nw d s u b c sz o p q r t v w y=_:=fun n f m z o p q r t v w y=>j n f m z ⟨o,p,q,r,t,v,w,y⟩;by_cases e:1<=op/\op<=12
 ·rw [if_pos e];cases nw<;>cases u<;>simp only [zu3,zv4,zu4,zt8,zv2,zu9,zu2,zu6,zt7,a,zp6,z6,W5,U3,z9,z5,show (g9 .i64 201 3 != 0)=true from by decide,show (g9 .i64 201 4 != 0)=false from by decide,show (g9 .i64 201 8 != 0)=true from by decide,show (g9 .i64 201 16 != 0)=false from by decide,show (g9 .i64 201 32 != 0)=false from by decide,show (g9 .i64 201 64 != 0)=true from by decide,show (g9 .i64 201 1 != 0)=true from by decide,show (g9 .i64 201 32==0)=true from by decide]<;>(refine congrArg some ?_;rw [W9];simp [zf5,zk0,yc4,jo3, *]<;>grind)
 by_cases g:op=13
 ·rw [if_neg e,if_pos g];cases nw<;>cases u<;>simp only [zu3,zv4,zu4,zt8,zv2,zu9,zu2,zu6,zt7,a,zp6,z6,W5,U3,z9,z5,show (g9 .i64 193 3 != 0)=true from by decide,show (g9 .i64 193 4 != 0)=false from by decide,show (g9 .i64 193 8 != 0)=false from by decide,show (g9 .i64 193 16 != 0)=false from by decide,show (g9 .i64 193 32 != 0)=false from by decide,show (g9 .i64 193 64 != 0)=true from by decide,show (g9 .i64 193 1 != 0)=true from by decide,show (g9 .i64 193 32==0)=true from by decide]<;>(refine congrArg some ?_;rw [W9];simp [zf5,zk0,yc4,jo3, *]<;>grind)
 by_cases h:op=14
 ·rw [if_neg e,if_neg g,if_pos h];cases nw<;>cases u<;>simp only [zu3,zv4,zu4,zt8,zv2,zu9,zu2,zu6,zt7,a,zp6,z6,W5,U3,z9,z5,show (g9 .i64 181 3 != 0)=true from by decide,show (g9 .i64 181 4 != 0)=true from by decide,show (g9 .i64 181 8 != 0)=false from by decide,show (g9 .i64 181 16 != 0)=true from by decide,show (g9 .i64 181 32 != 0)=true from by decide,show (g9 .i64 181 64 != 0)=false from by decide,show (g9 .i64 181 1 != 0)=true from by decide,show (g9 .i64 181 32==0)=false from by decide]<;>(refine congrArg some ?_;rw [W9];simp [zf5,zk0,yc4,jo3, *]<;>grind)
 by_cases k:op=15
 ·rw [if_neg e,if_neg g,if_neg h,if_pos k];cases nw<;>cases u<;>simp only [zu3,zv4,zu4,zt8,zv2,zu9,zu2,zu6,zt7,a,zp6,z6,W5,U3,z9,z5,show (g9 .i64 186 3 != 0)=true from by decide,show (g9 .i64 186 4 != 0)=false from by decide,show (g9 .i64 186 8 != 0)=true from by decide,show (g9 .i64 186 16 != 0)=true from by decide,show (g9 .i64 186 32 != 0)=true from by decide,show (g9 .i64 186 64 != 0)=false from by decide,show (g9 .i64 186 1 != 0)=false from by decide,show (g9 .i64 186 32==0)=false from by decide]<;>(refine congrArg some ?_;rw [W9];simp [zf5,zk0,yc4,jo3, *]<;>grind)
 by_cases l:op=16
 ·rw [if_neg e,if_neg g,if_neg h,if_neg k,if_pos l];cases nw<;>cases u<;>simp only [zu3,zv4,zu4,zt8,zv2,zu9,zu2,zu6,zt7,a,zp6,z6,W5,U3,z9,z5,show (g9 .i64 144 3 != 0)=false from by decide,show (g9 .i64 144 4 != 0)=false from by decide,show (g9 .i64 144 8 != 0)=false from by decide,show (g9 .i64 144 16 != 0)=true from by decide,show (g9 .i64 144 32 != 0)=false from by decide,show (g9 .i64 144 64 != 0)=false from by decide,show (g9 .i64 144 1 != 0)=false from by decide,show (g9 .i64 144 32==0)=true from by decide]<;>(refine congrArg some ?_;rw [W9];simp [zf5,zk0,yc4,jo3, *]<;>grind)
 by_cases A:17<=op/\op<=27
 ·rw [if_neg e,if_neg g,if_neg h,if_neg k,if_neg l,if_pos A];cases nw<;>cases u<;>simp only [zu3,zv4,zu4,zt8,zv2,zu9,zu2,zu6,zt7,a,zp6,z6,W5,U3,z9,z5,show (g9 .i64 218 3 != 0)=true from by decide,show (g9 .i64 218 4 != 0)=false from by decide,show (g9 .i64 218 8 != 0)=true from by decide,show (g9 .i64 218 16 != 0)=true from by decide,show (g9 .i64 218 32 != 0)=false from by decide,show (g9 .i64 218 64 != 0)=true from by decide,show (g9 .i64 218 1 != 0)=false from by decide,show (g9 .i64 218 32==0)=true from by decide]<;>(refine congrArg some ?_;rw [W9];simp [zf5,zk0,yc4,jo3, *]<;>grind)
 by_cases B:op=28
 ·rw [if_neg e,if_neg g,if_neg h,if_neg k,if_neg l,if_neg A,if_pos B];cases nw<;>cases u<;>simp only [zu3,zv4,zu4,zt8,zv2,zu9,zu2,zu6,zt7,a,zp6,z6,W5,U3,z9,z5,show (g9 .i64 128 3 != 0)=false from by decide,show (g9 .i64 128 4 != 0)=false from by decide,show (g9 .i64 128 8 != 0)=false from by decide,show (g9 .i64 128 16 != 0)=false from by decide,show (g9 .i64 128 32 != 0)=false from by decide,show (g9 .i64 128 64 != 0)=false from by decide,show (g9 .i64 128 1 != 0)=false from by decide,show (g9 .i64 128 32==0)=true from by decide]<;>(refine congrArg some ?_;rw [W9];simp [zf5,zk0,yc4,jo3, *]<;>grind)
 ·rw [if_neg e,if_neg g,if_neg h,if_neg k,if_neg l,if_neg A,if_neg B];cases nw<;>cases u<;>simp only [zu3,zv4,zu4,zt8,zv2,zu9,zu2,zu6,zt7,a,zp6,z6,W5,U3,z9,z5,show (g9 .i64 0 3 != 0)=false from by decide,show (g9 .i64 0 4 != 0)=false from by decide,show (g9 .i64 0 8 != 0)=false from by decide,show (g9 .i64 0 16 != 0)=false from by decide,show (g9 .i64 0 32 != 0)=false from by decide,show (g9 .i64 0 64 != 0)=false from by decide,show (g9 .i64 0 1 != 0)=false from by decide,show (g9 .i64 0 32==0)=true from by decide]<;>(refine congrArg some ?_;rw [W9];simp [zf5,zk0,yc4,jo3, *]<;>grind)
def uz9 (x y):qdp v3 x y=some (decide (x<y)):=by
 rw [uk1,ur8,z6];simp [j5]
def ins1 (a):qfk v3 [a]=some ([a],()):=by kernel_rfl
def zak7 (a b):qfo v3 [a,b] 0 2=z8 (qdp v3 b a) (fun y=>j4 y (some ([b,a],())) (some ([a,b],()))):=by kernel_rfl
def zaj4 (a b):qfk v3 [a,b]=z8 (z8 (qfo v3 [a,b] 0 2) fun y=>some (y.1,())) fun y=>some (y.1,()):=by kernel_rfl
def ins2 (a b):qfk v3 [a,b]=some (if b<a then [b,a] else [a,b],()):=by
 rw [zaj4,zak7,uz9,z6];by_cases h:b<a
 ·rw [if_pos h,W3 h];rfl
 ·rw [if_neg h,W4 h];rfl
def cut1 (a b):qfr v3 [a,b] 1 1=some (([a,b],()),()):=by kernel_rfl
def com1 (a):qfp v3 [a]=some (([a],()),((0,1),())):=by kernel_rfl
def com2 (a b):qfp v3 [a,b]=j4 (b==a) (some (([a,0],()),((0,1),()))) (some (([a,b],()),((0,2),()))):=by kernel_rfl
def com3 (a b):qfs v3 [a,b] 1 1=some (([a,b],()),((1,1),())):=by kernel_rfl
def jc5 (i:Ins) (nx a:Int):List Int:=if i.Op=16 then [a] else if 17<=i.Op/\i.Op<=27 then (if a<nx then [a,nx] else if nx<a then [nx,a] else [nx]) else [nx]
def zz6 (l:List Ins) (at_:Int):List Int:=
 if 0<=at_/\at_<l.length then
  let i:=l.getD at_.toNat za1
  if zf5 i=true/\i.Op≠28 then jc5 i (IntKind.i64.wrap (at_+1)) (IntKind.i64.wrap (IntKind.i64.wrap (at_+1)+i.Off)) else []
 else []
def Part (y:List Int) (o n:Nat) (l:List Int):Prop:=o+n<=y.length/\List.take n (List.drop o y)=l
def wn6 (l at_): ∃y o n,qam v3 l at_=some ((),((y,o,n),()))/\Part y o n (zz6 l at_):=by
 have a: ∀b,(b=false->0<=at_/\at_<((l.length:Nat):Int))-> ∃y o n,jl1 v3 l at_ b=some ((),((y,o,n),()))/\Part y o n (if b=true then [] else jc5 (l.getD at_.toNat za1) (IntKind.i64.wrap (at_+1)) (IntKind.i64.wrap (IntKind.i64.wrap (at_+1)+(l.getD at_.toNat za1).Off))):=by
  intro b p;rw [kd9,j5];by_cases c:b=true
  ·rw [if_pos c,if_pos c];exact ⟨[],0,0,rfl,by simp,rfl⟩
  ·rw [if_neg c,if_neg c];have f:=p (by simpa using c);rw [if_pos f,if_pos f,vu8,z6];simp only [ki2,if_pos f];generalize l.getD at_.toNat za1=i;generalize IntKind.i64.wrap (at_+1)=nx;generalize IntKind.i64.wrap (nx+i.Off)=to;unfold jc5;by_cases d:i.Op=16
   ·rw [if_pos d,d];refine ⟨[nx,to],1,1,?_,by simp,rfl⟩;have q:(((([nx,to]:List Int).length:Nat):Int).toNat)-1=1:=rfl;rw [show (decide (16<=(16:Int))&&decide ((16:Int)<=27))=true from rfl,show ((16:Int)==16)=true from rfl,z9,z9,if_pos (by simp),q,cut1,z6,com3,z6]
   ·rw [if_neg d];have j:(i.Op==16)=false:=by simpa using d
    by_cases m:17<=i.Op/\i.Op<=27
    ·rw [if_pos m,j,show (decide (16<=i.Op)&&decide (i.Op<=27))=true from by simp;omega,z9,z5,ins2,z6];by_cases g:to<nx
     ·rw [if_pos g,if_pos g,com2,show (nx==to)=false from by simp;omega,z5,z6];exact ⟨_,_,_,rfl,by simp,rfl⟩
     ·rw [if_neg g,if_neg g,com2];by_cases k:nx<to
      ·rw [if_pos k,show (to==nx)=false from by simp;omega,z5,z6];exact ⟨_,_,_,rfl,by simp,rfl⟩
      ·rw [if_neg k,show (to==nx)=true from by simp;omega,z9,z6];exact ⟨_,_,_,rfl,by simp,rfl⟩
    ·rw [if_neg m,j,show (decide (16<=i.Op)&&decide (i.Op<=27))=false from by simp;omega,z5,z5,ins1,z6,com1,z6];exact ⟨_,_,_,rfl,by simp,rfl⟩
 rw [zab7];unfold zz6;by_cases g:at_<0
 ·rw [W3 g,z9,if_neg (by omega)];simpa using a true (by simp)
 rw [W4 g,z5];by_cases k:at_>=((l.length:Nat):Int)
 ·rw [W3 k,z9,if_neg (by omega)];simpa using a true (by simp)
 have f:0<=at_/\at_<((l.length:Nat):Int):=by omega
 rw [W4 k,z5,if_pos f,if_pos f,vt3,z6];simp only [if_pos f];cases hr:zf5 (l.getD at_.toNat za1) with
 |false=>simpa [z9] using a true (by simp)
 |true=>
  simp only [W5,z5,true_and];by_cases e:(l.getD at_.toNat za1).Op=28
  ·rw [if_neg (fun h=>h e),show ((l.getD at_.toNat za1).Op==28)=true from by simpa using e];simpa using a true (by simp)
  ·rw [if_pos e,show ((l.getD at_.toNat za1).Op==28)=false from by simpa using e];simpa using a false (fun _=>f)
def vz3 (l a):(zz6 l a).length<=400000000:=by
 unfold zz6 jc5;grind
def jg9 (a:Nat->Int):Nat->Nat->Option Fault
 |_,0=>none
 |k,m+1=>if a k=0 then jg9 a (k+1) m else some ⟨a k,(k:Int)⟩
def vg7 {α} (f:Nat->Nat->Option α) (p:α->Fault) (a:Nat->Int) (c len b:Nat) (F:Fault)
  (step: ∀n k,k<len->b<=n->(a k=0/\f (n+c) k=f n (k+1))\/(a k≠0/\ ∃Y,f (n+c) k=some Y/\p Y=⟨a k,(k:Int)⟩))
  (d:(∀k,k<len->a k=0)-> ∀n,b<=n-> ∃Y,f n len=some Y/\p Y=F):
  ∀m k n,k+m=len->c*m+b<=n->(∀j,j<k->a j=0)-> ∃Y,f n k=some Y/\p Y=(jg9 a k m).getD F
 |0,k,n,q,o,h=>by
  have:k=len:=by omega
  subst this;exact d h n (by omega)
 |m+1,k,n,q,o,h=>by
  rw [Nat.mul_succ] at o;obtain ⟨g,rfl⟩: ∃g,n=g+c:=⟨n-c,by omega⟩;unfold jg9;rcases step g k (by omega) (by omega) with ⟨i,l⟩|⟨i,Y,l,r⟩
  ·rw [if_pos i,l];exact vg7 f p a c len b F step d m (k+1) g (by omega) (by omega) (fun j s=>by
    by_cases e:j=k
    ·subst e;exact i
    ·exact h j (by omega))
  ·rw [if_neg i];exact ⟨Y,l,r⟩
def yi3 (xs:List Int) (r:List Bool):List Bool:=xs.foldl (fun r x=>r.set x.toNat true) r
def ws3 (l:List Ins) (r:List Bool) (k:Nat):List Bool:=if r.getD k false=true then yi3 (zz6 l (k:Int)) r else r
def stP (l:List Ins):Nat->List Bool
 |0=>(List.replicate l.length false).set 0 true
 |k+1=>ws3 l (stP l k) k
def jf0: ∀(xs r),(yi3 xs r).length=r.length
 | [],_=>rfl
 |x::xs,r=>by
  show (yi3 xs (r.set x.toNat true)).length=_;rw [jf0 xs,Q1]
def qj8 (l): ∀k,(stP l k).length=l.length
 |0=>by unfold stP;rw [Q1,Z9]
 |k+1=>by
  unfold stP ws3;split
  ·rw [jf0,qj8 l k]
  ·exact qj8 l k
def qw9 (r:List Bool) (k:Nat):r.set k (r.getD k false)=r:=by
 by_cases h:k<r.length
 ·rw [Y2,Y0 h];exact N5 h
 ·exact List.set_eq_of_length_le (by omega)
def kz3 (r:List Bool) (k j:Nat) (b:Bool):(r.set k b).getD j false=if k=j/\j<r.length then b else r.getD j false:=by
 rw [Y2,Y2,List.getElem?_set];by_cases h:k=j
 ·subst h;by_cases a:k<r.length
  ·rw [if_pos rfl,if_pos a,if_pos ⟨rfl,a⟩];rfl
  ·rw [if_pos rfl,if_neg a,if_neg (fun h=>a h.2),Y5 (by omega)]
 ·rw [if_neg h,if_neg (fun c=>h c.1)]
def qd9: ∀(xs r j),(∀x∈xs,x.toNat≠j)->(yi3 xs r).getD j false=r.getD j false
 | [],_,_,_=>rfl
 |x::xs,r,j,h=>by
  show (yi3 xs (r.set x.toNat true)).getD j false=_;rw [qd9 xs _ j (fun y a=>h y (Z4 _ a)),kz3,if_neg (fun b=>h x (U6) b.1)]
def vd9 (xs:List Int) (r:List Bool) (j:Nat) (h:j<xs.length):yi3 (xs.take (j+1)) r=(yi3 (xs.take j) r).set (xs.getD j 0).toNat true:=by
 unfold yi3;rw [List.take_add_one,List.foldl_append,Y0 h,Y2,Y0 h];rfl
def Fwd (l:List Ins):Prop:= ∀k,k<l.length-> ∀x∈zz6 l (k:Int),(k:Int)<x/\x<l.length
def c1 (l:List Ins) (k:Nat):Int:=if zf5 (l.getD k za1)=true then 0 else 4
def kn1 (i:Ins):Bool:=decide (16<=i.Op)&&decide (i.Op<=27)
def c2 (l:List Ins) (k:Nat):Int:=if kn1 (l.getD k za1)=true then (if (l.getD k za1).Off<0 then 100 else if (k:Int)+1+(l.getD k za1).Off>=(l.length:Int) then 101 else 0) else 0
def c3 (l:List Ins) (k:Nat):Int:=if k+1=l.length/\(l.getD k za1).Op≠28/\(l.getD k za1).Op≠16 then 102 else 0
def c4 (l:List Ins) (k:Nat):Int:=if (stP l (k+1)).getD k false=true then 0 else 103
def yc9 (l:List Ins):Fault:=
 if l.length=0 then ⟨6,0⟩ else if l.length>4096 then ⟨3,0⟩ else
  (jg9 (c1 l) 0 l.length).getD ((jg9 (c2 l) 0 l.length).getD ((jg9 (c3 l) 0 l.length).getD ((jg9 (c4 l) 0 l.length).getD ⟨0,0⟩)))
def js5 {l k} (h:c1 l k=0):zf5 (l.getD k za1)=true:=by
 unfold c1 at h;split at h
 ·assumption
 ·cases h
def zx9 (i) (h:zf5 i=true): -32768<=i.Off/\i.Off<=32767/\1<=i.Op/\i.Op<=28:=by
 unfold zf5 at h
 grind [zk0,jo3,yc4,zh1]
def us1 {l} (q:l.length<=4096) (j: ∀k,k<l.length->c1 l k=0) (m: ∀k,k<l.length->c2 l k=0) (n: ∀k,k<l.length->c3 l k=0):Fwd l:=by
 intro k d x a;have r:=js5 (j k d);have b:=m k d;have e:=n k d;have s:=zx9 _ r;unfold c2 kn1 at b;unfold c3 at e;unfold zz6 at a;rw [if_pos (by omega)] at a;simp only [Z1] at a;generalize l.getD k za1=i at *;split at a
 ·rename_i o;obtain ⟨_,f⟩:=o;rw [u0 (x:=(k:Int)+1) (by omega),u0 (by omega)] at a;unfold jc5 at a;by_cases c:i.Op=16
  ·rw [if_pos c] at a;simp only [Z0,J7,or_false] at a;subst a;rw [if_pos (by simp;omega)] at b;split at b
   ·cases b
   ·split at b
    ·cases b
    ·omega
  ·rw [if_neg c] at a;have g:k+1≠l.length:=by
    intro p;rw [if_pos ⟨p,f,c⟩] at e;cases e
   by_cases h:17<=i.Op/\i.Op<=27
   ·rw [if_pos h] at a;rw [if_pos (by simp;omega)] at b;split at b
    ·cases b
    ·split at b
     ·cases b
     ·split at a
      ·simp only [Z0,J7,or_false] at a;rcases a with rfl|rfl<;>omega
      ·split at a
       ·simp only [Z0,J7,or_false] at a;rcases a with rfl|rfl<;>omega
       ·simp only [Z0,J7,or_false] at a;subst a;omega
   ·rw [if_neg h] at a;simp only [Z0,J7,or_false] at a;subst a;omega
 ·cases a
def jk5 (b x):qcc v3 b x=some (if b=true then x else 0):=by
 rw [um6];cases b<;>rfl
def p1 (l:List Ins) (k:Nat) (a:k<l.length):qdw v3 (k:Int) l=some (((l,()),()),(c1 l k,())):=by
 rw [ux6,if_pos (by omega),vt3,z6,jk5,z6,Z1];unfold c1;cases zf5 (l.getD k za1)<;>rfl
def p2 (l k) (c:k<l.length) (d:l.length<=4096) (b:c1 l k=0):qdx v3 (k:Int) l=some (((l,()),()),(c2 l k,())):=by
 have e:=zx9 _ (js5 b);rw [uf2,if_pos (by omega),if_pos (by omega),vu8,z6,Z1,u0 (x:=(k:Int)+1) (by omega),u0 (by omega),jk5];unfold c2 kn1;generalize l.getD k za1=i at *;cases decide (16<=i.Op)&&decide (i.Op<=27) with
 |false=>rfl
 |true=>
  rw [W5,z5,if_pos rfl];by_cases h:i.Off<0
  ·rw [W3 (by omega),z9,if_pos h]
  ·rw [W4 (by omega),z5,if_neg h,z6];by_cases a:(k:Int)+1+i.Off>=(l.length:Int)
   ·rw [W3 a,if_pos a];rfl
   ·rw [W4 a,if_neg a];rfl
def p3 (l:List Ins) (k:Nat) (e:k<l.length) (f:l.length<=4096):qdy v3 (k:Int) l=some (((l,()),()),(c3 l k,())):=by
 rw [zac7,u0 (by omega),j5];unfold c3;simp only [Z1];by_cases h:k+1=l.length
 ·rw [if_pos (by simp;omega),if_pos (by omega),j5];by_cases a:(l.getD k za1).Op=28
  ·rw [if_neg (by simpa using a),if_neg (fun d=>d.2.1 a),jk5,z6];rfl
  ·rw [if_pos (by simpa using a),if_pos (by omega),jk5,z6];by_cases b:(l.getD k za1).Op=16
   ·rw [if_neg (c:=k+1=l.length/\(l.getD k za1).Op≠28/\(l.getD k za1).Op≠16) (fun d=>d.2.2 b),b];rfl
   ·rw [if_pos (c:=k+1=l.length/\(l.getD k za1).Op≠28/\(l.getD k za1).Op≠16) ⟨h,a,b⟩,if_pos (by simpa using b)]
 ·rw [if_neg (by simp;omega),if_neg (fun d=>h d.1),jk5,z6];rfl
def ut8 {y xs o m} (h:Part y o m xs) (j) (a:j<m):y.getD (o+j) 0=xs.getD j 0/\xs.length=m:=by
 obtain ⟨c,b⟩:=h;subst b;refine ⟨?_,by rw [Y6,Q6];omega⟩;rw [Y2,Y2,Z3,if_pos a,Q5]
def ui3 (xs:List Int) (j:Nat) (a:j<xs.length):xs.getD j 0∈xs:=by
 rw [Y2,Y0 a];exact List.getElem_mem a
def p4 {l} (z:l.length<=4096) (t:Fwd l) (k) (u:k<l.length):qae v3 (k:Int) l (stP l k)=some (((l,()),((),()),stP l (k+1),()),(c4 l k,())):=by
 obtain ⟨y,o,m,e,c⟩:=wn6 l (k:Int);rw [uf1,e,z6];dsimp only;have A:(zz6 l (k:Int)).length=m:=by
  rw [<-c.2,Y6,Q6];have:=c.1;omega
 have a:=qj8 l k;have B:=vz3 l (k:Int);have v: ∀j,(if (stP l k).getD k false=true then yi3 ((zz6 l (k:Int)).take j) (stP l k) else stP l k).length=l.length:=by
  intro j;split
  ·rw [jf0,a]
  ·exact a
 have h: ∀j,(if (stP l k).getD k false=true then yi3 ((zz6 l (k:Int)).take j) (stP l k) else stP l k).getD k false=(stP l k).getD k false:=by
  intro j;split
  ·refine qd9 _ _ _ fun x i=>?_;have:=t k u x (M1 i);omega
  ·rfl
 have e0:(if (stP l k).getD k false=true then yi3 ((zz6 l (k:Int)).take 0) (stP l k) else stP l k)=stP l k:=by
  rw [List.take_zero];split<;>rfl
 have Q:=vf6 (fun n j=>yx3 n (k:Int) o m ((m:Nat):Int) ((j:Nat):Int) l (if (stP l k).getD k false=true then yi3 ((zz6 l (k:Int)).take j) (stP l k) else stP l k) y) 2 m (some (((l,()),((),()),stP l (k+1),()),(c4 l k,()))) (fun n j p=>?_) (fun n=>?_) v3 (by unfold v3;omega)
 ·rw [e0] at Q;exact Q
 ·show yx3 (n+1+1) (k:Int) o m ((m:Nat):Int) ((j:Nat):Int) l _ y=yx3 n (k:Int) o m ((m:Nat):Int) ((j+1:Nat):Int) l _ y;have i:=(ut8 c j p).1;have C:=t k u _ (ui3 (zz6 l (k:Int)) j (by omega));rw [qh7,W3 (by omega),z9,if_pos (by omega),if_pos (by have:=c.1;omega),Z1,i];have d:=v j;have b:=h j;have w:=vd9 (zz6 l (k:Int)) (stP l k) j (by omega);generalize (zz6 l (k:Int)).getD j 0=x at *;by_cases f:(stP l k).getD k false=true
  ·simp only [if_pos f] at d b⊢;rw [w];generalize yi3 ((zz6 l (k:Int)).take j) (stP l k)=r at *;have q:0<=x/\x<((r.length:Nat):Int):=by omega
   have s:0<=(k:Int)/\(k:Int)<((r.length:Nat):Int):=by omega
   simp only [if_pos q,if_pos s,qc6,nx (len:=m) p (by omega),Z1,b,f,j5,ite_self]
  ·simp only [if_neg f] at d b⊢;generalize D:stP l k=r at *;have q:0<=x/\x<((r.length:Nat):Int):=by omega
   have s:0<=(k:Int)/\(k:Int)<((r.length:Nat):Int):=by omega
   simp only [if_pos q,if_pos s,qc6,nx (len:=m) p (by omega),Z1,j5];by_cases g:r.getD x.toNat false=true
   ·rw [if_pos g,<-g,qw9]
   ·rw [if_neg g,Bool.eq_false_iff.2 f,<-Bool.eq_false_iff.2 g,qw9]
 ·show yx3 (n+1) (k:Int) o m ((m:Nat):Int) ((m:Nat):Int) l _ y=_;have d:=v m;have b:(if (stP l k).getD k false=true then yi3 ((zz6 l (k:Int)).take m) (stP l k) else stP l k)=stP l (k+1):=by
   rw [Q3 (by omega)];rfl
  rw [b] at d⊢;rw [qh7,W4 (by omega),z5,if_pos (by omega),jk5,z6,Z1];unfold c4;cases (stP l (k+1)).getD k false<;>rfl
def wg1 (l):qdq v3 l=some (yc9 l):=by
 rw [um2];unfold yc9;by_cases d:l.length=0
 ·rw [if_pos d,d];rfl
 rw [if_neg d,show (((l.length:Nat):Int)==0)=false from beq_eq_false_iff_ne.2 (by omega),z5];by_cases h:l.length>4096
 ·rw [if_pos h,W3 (by omega),z9]
 rw [if_neg h,W4 (by omega),z5,if_pos (by omega),if_pos (by rw [Z9];omega),Z1];have e: ∃Y,qg v3 ((l.length:Nat):Int) l (stP l 0)=some Y/\Y.2.1=(jg9 (c1 l) 0 l.length).getD ((jg9 (c2 l) 0 l.length).getD ((jg9 (c3 l) 0 l.length).getD ((jg9 (c4 l) 0 l.length).getD ⟨0,0⟩))):=by
  rw [zaf5];refine vg7 (fun n k=>jq4 n ((l.length:Nat):Int) ((l.length:Nat):Int) ((k:Nat):Int) l (stP l 0) 0 0) (fun Y=>Y.2.1) (c1 l) 1 l.length 50000 _ (fun n k b c=>?_) (fun f n c=>?_) l.length 0 _ (by omega) (by omega) (by omega)
  ·obtain ⟨n,rfl⟩: ∃j,n=j+1:=⟨n-1,by omega⟩;show _\/_/\ ∃Y,jq4 (n+2) _ _ _ _ _ _ _=_/\_;by_cases a:c1 l k=0
   ·refine .inl ⟨a,?_⟩;show jq4 (n+2) _ _ _ _ _ _ _=jq4 (n+1) _ _ _ _ _ _ _;rw [jw4,W3 (by omega),z9,p1 l k b,z6,a,nx b (by omega)];dsimp only;rw [show ((0:Int) != 0)=false from rfl,z5]
   ·refine .inr ⟨a,?_⟩;rw [jw4,W3 (by omega),z9,p1 l k b,z6];dsimp only;rw [show (c1 l k != 0)=true by simpa using a,z9];exact ⟨_,rfl,rfl⟩
  obtain ⟨n,rfl⟩: ∃j,n=j+2:=⟨n-2,by omega⟩;show ∃Y,jq4 (n+2) _ _ _ _ _ _ _=_/\_;rw [jw4,W4 (by omega),z5];refine vg7 (fun n k=>yt8 n ((l.length:Nat):Int) ((l.length:Nat):Int) ((k:Nat):Int) l (stP l 0) 0 0) (fun Y=>Y.2.1) (c2 l) 1 l.length 40000 _ (fun n k b c=>?_) (fun m n c=>?_) l.length 0 _ (by omega) (by omega) (by omega)
  ·obtain ⟨n,rfl⟩: ∃j,n=j+1:=⟨n-1,by omega⟩;show _\/_/\ ∃Y,yt8 (n+2) _ _ _ _ _ _ _=_/\_;by_cases a:c2 l k=0
   ·refine .inl ⟨a,?_⟩;show yt8 (n+2) _ _ _ _ _ _ _=yt8 (n+1) _ _ _ _ _ _ _;rw [jf3,W3 (by omega),z9,p2 l k b (by omega) (f k b),z6,a,nx b (by omega)];dsimp only;rw [show ((0:Int) != 0)=false from rfl,z5]
   ·refine .inr ⟨a,?_⟩;rw [jf3,W3 (by omega),z9,p2 l k b (by omega) (f k b),z6];dsimp only;rw [show (c2 l k != 0)=true by simpa using a,z9];exact ⟨_,rfl,rfl⟩
  obtain ⟨n,rfl⟩: ∃j,n=j+2:=⟨n-2,by omega⟩;show ∃Y,yt8 (n+2) _ _ _ _ _ _ _=_/\_;rw [jf3,W4 (by omega),z5];refine vg7 (fun n k=>ys9 n ((l.length:Nat):Int) ((l.length:Nat):Int) ((k:Nat):Int) l (stP l 0) 0 0) (fun Y=>Y.2.1) (c3 l) 1 l.length 30000 _ (fun n k b c=>?_) (fun o n c=>?_) l.length 0 _ (by omega) (by omega) (by omega)
  ·obtain ⟨n,rfl⟩: ∃j,n=j+1:=⟨n-1,by omega⟩;show _\/_/\ ∃Y,ys9 (n+2) _ _ _ _ _ _ _=_/\_;by_cases a:c3 l k=0
   ·refine .inl ⟨a,?_⟩;show ys9 (n+2) _ _ _ _ _ _ _=ys9 (n+1) _ _ _ _ _ _ _;rw [jd3,W3 (by omega),z9,p3 l k b (by omega),z6,a,nx b (by omega)];dsimp only;rw [show ((0:Int) != 0)=false from rfl,z5]
   ·refine .inr ⟨a,?_⟩;rw [jd3,W3 (by omega),z9,p3 l k b (by omega),z6];dsimp only;rw [show (c3 l k != 0)=true by simpa using a,z9];exact ⟨_,rfl,rfl⟩
  obtain ⟨n,rfl⟩: ∃j,n=j+2:=⟨n-2,by omega⟩;show ∃Y,ys9 (n+2) _ _ _ _ _ _ _=_/\_;rw [jd3,W4 (by omega),z5];have i:=us1 (by omega) f m o;refine vg7 (fun n k=>yt6 n ((l.length:Nat):Int) ((l.length:Nat):Int) ((k:Nat):Int) l (stP l k) 0 0) (fun Y=>Y.2.1) (c4 l) 1 l.length 20000 _ (fun n k b c=>?_) (fun q n c=>?_) l.length 0 _ (by omega) (by omega) (by omega)
  ·obtain ⟨n,rfl⟩: ∃j,n=j+1:=⟨n-1,by omega⟩;show _\/_/\ ∃Y,yt6 (n+2) _ _ _ _ _ _ _=_/\_;by_cases a:c4 l k=0
   ·refine .inl ⟨a,?_⟩;show yt6 (n+2) _ _ _ _ _ _ _=yt6 (n+1) _ _ _ _ _ _ _;rw [je1,W3 (by omega),z9,p4 (by omega) i k b,z6,a,nx b (by omega)];dsimp only;rw [show ((0:Int) != 0)=false from rfl,z5]
   ·refine .inr ⟨a,?_⟩;rw [je1,W3 (by omega),z9,p4 (by omega) i k b,z6];dsimp only;rw [show (c4 l k != 0)=true by simpa using a,z9];exact ⟨_,rfl,rfl⟩
  obtain ⟨n,rfl⟩: ∃j,n=j+2:=⟨n-2,by omega⟩;show ∃Y,yt6 (n+2) _ _ _ _ _ _ _=_/\_;rw [je1,W4 (by omega),z5];exact ⟨_,rfl,rfl⟩
 obtain ⟨Y,g,p⟩:=e;have g:qg v3 ((l.length:Nat):Int) l ((List.replicate l.length false).set 0 true)=some Y:=g;rw [g,z6,p]
def qg8 (code): ∀m k F,jg9 code k m=some F-> ∃j,k<=j/\j<k+m/\code j≠0/\F=⟨code j,(j:Int)⟩
 |0,_,_,h=>by cases h
 |m+1,k,F,h=>by
  unfold jg9 at h;split at h
  ·obtain ⟨j,d,e,a,b⟩:=qg8 code m (k+1) F h;exact ⟨j,by omega,by omega,a,b⟩
  ·rename_i c;cases h;exact ⟨k,by omega,by omega,c,rfl⟩
def ye7 (code): ∀m k,jg9 code k m=none-> ∀j,k<=j->j<k+m->code j=0
 |0,_,_,j,a,b=>by omega
 |m+1,k,h,j,a,b=>by
  unfold jg9 at h;split at h
  ·rename_i c;by_cases e:j=k
   ·rw [e];exact c
   ·exact ye7 code m (k+1) h j (by omega) (by omega)
  ·cases h
structure Okay (l:List Ins):Prop where
 pos:0<l.length
 len:l.length<=4096
 z1: ∀k,k<l.length->c1 l k=0
 z2: ∀k,k<l.length->c2 l k=0
 z3: ∀k,k<l.length->c3 l k=0
 z4: ∀k,k<l.length->c4 l k=0
def yr3 {o:Option Fault} {d:Fault} (h: ∀F,o=some F->F.Err≠0) (a:(o.getD d).Err=0):o=none/\d.Err=0:=by
 cases o with
 |none=>exact ⟨rfl,a⟩
 |some F=>exact absurd a (h F rfl)
def yz6 (code m k F) (h:jg9 code k m=some F):F.Err≠0:=by
 obtain ⟨j,_,_,a,rfl⟩:=qg8 code m k F h;exact a
def vy4 {l} (h:(yc9 l).Err=0):Okay l:=by
 unfold yc9 at h;by_cases b:l.length=0
 ·rw [if_pos b] at h;cases h
 rw [if_neg b] at h;by_cases c:l.length>4096
 ·rw [if_pos c] at h;cases h
 rw [if_neg c] at h;obtain ⟨d,h⟩:=yr3 (yz6 _ _ _) h;obtain ⟨e,h⟩:=yr3 (yz6 _ _ _) h;obtain ⟨f,h⟩:=yr3 (yz6 _ _ _) h;obtain ⟨g,h⟩:=yr3 (yz6 _ _ _) h;exact ⟨by omega,by omega,fun k a=>ye7 _ _ _ d k (by omega) (by omega),fun k a=>ye7 _ _ _ e k (by omega) (by omega),fun k a=>ye7 _ _ _ f k (by omega) (by omega),fun k a=>ye7 _ _ _ g k (by omega) (by omega)⟩
end Go.Y
namespace Go.Y
open Go.RowKit Go.V Go.X Go.Proofs
def zk6 {x m:Int} (a:0<=x) (b:0<m): ¬x.tmod m<0:=by
 have:=Int.tmod_nonneg m a;omega
def do32 (op a b:Int) (ha:0<=b):X.qc v3 op 32 a b=some (yx0 op 32 a b):=by
 obtain ⟨n,e⟩: ∃n:Nat,(v3:Nat)=n+1:=⟨999999999,rfl⟩;have hj: ∀c:Bool,c=(((op==4)||(op==5))&&(b==0))->X.qo7 (n+1) op c 32 a b=some (yx0 op 32 a b):=fun c hc=>by
  rw [X.qt6,hc];unfold yx0;cases hcc:(((op==(4:Int))||(op==(5:Int)))&&(b==(0:Int))) with
  |true=>rfl
  |false=>
   rw [z5,if_neg (show ¬(false=true) by decide)];by_cases h1:op=1
   ·subst h1;rw [if_pos (rfl:(1:Int)=1)];rw [if_pos (by decide:(((1:Int)==1)=true))];rw [X.gj3,z6];rfl
   by_cases h2:op=2
   ·subst h2;rw [if_neg (by decide: ¬((2:Int)=1)),if_pos (rfl:(2:Int)=2)];rw [if_neg (by decide: ¬(((2:Int)==1)=true)),if_pos (by decide:(((2:Int)==2)=true))];rw [X.gh0,z6];rfl
   by_cases h3:op=3
   ·subst h3;rw [if_neg (by decide: ¬((3:Int)=1)),if_neg (by decide: ¬((3:Int)=2)),if_pos (rfl:(3:Int)=3)];rw [if_neg (by decide: ¬(((3:Int)==1)=true)),if_neg (by decide: ¬(((3:Int)==2)=true)),if_pos (by decide:(((3:Int)==3)=true))];rw [X.gr4,z6];rfl
   by_cases h4:op=4
   ·subst h4;rw [if_neg (by decide: ¬((4:Int)=1)),if_neg (by decide: ¬((4:Int)=2)),if_neg (by decide: ¬((4:Int)=3)),if_pos (rfl:(4:Int)=4)];rw [if_neg (by decide: ¬(((4:Int)==1)=true)),if_neg (by decide: ¬(((4:Int)==2)=true)),if_neg (by decide: ¬(((4:Int)==3)=true)),if_pos (by decide:(((4:Int)==4)=true))];rw [X.gm8,if_neg (fun h=>by subst h;exact absurd hcc (by decide)),z6];rfl
   by_cases h5:op=5
   ·subst h5;rw [if_neg (by decide: ¬((5:Int)=1)),if_neg (by decide: ¬((5:Int)=2)),if_neg (by decide: ¬((5:Int)=3)),if_neg (by decide: ¬((5:Int)=4)),if_pos (rfl:(5:Int)=5)];rw [if_neg (by decide: ¬(((5:Int)==1)=true)),if_neg (by decide: ¬(((5:Int)==2)=true)),if_neg (by decide: ¬(((5:Int)==3)=true)),if_neg (by decide: ¬(((5:Int)==4)=true)),if_pos (by decide:(((5:Int)==5)=true))];rw [X.gp3,if_neg (fun h=>by subst h;exact absurd hcc (by decide)),z6];rfl
   by_cases h6:op=6
   ·subst h6;rw [if_neg (by decide: ¬((6:Int)=1)),if_neg (by decide: ¬((6:Int)=2)),if_neg (by decide: ¬((6:Int)=3)),if_neg (by decide: ¬((6:Int)=4)),if_neg (by decide: ¬((6:Int)=5)),if_pos (rfl:(6:Int)=6)];rw [if_neg (by decide: ¬(((6:Int)==1)=true)),if_neg (by decide: ¬(((6:Int)==2)=true)),if_neg (by decide: ¬(((6:Int)==3)=true)),if_neg (by decide: ¬(((6:Int)==4)=true)),if_neg (by decide: ¬(((6:Int)==5)=true)),if_pos (by decide:(((6:Int)==6)=true))];rw [X.gq1,z6];rfl
   by_cases h7:op=7
   ·subst h7;rw [if_neg (by decide: ¬((7:Int)=1)),if_neg (by decide: ¬((7:Int)=2)),if_neg (by decide: ¬((7:Int)=3)),if_neg (by decide: ¬((7:Int)=4)),if_neg (by decide: ¬((7:Int)=5)),if_neg (by decide: ¬((7:Int)=6)),if_pos (rfl:(7:Int)=7)];rw [if_neg (by decide: ¬(((7:Int)==1)=true)),if_neg (by decide: ¬(((7:Int)==2)=true)),if_neg (by decide: ¬(((7:Int)==3)=true)),if_neg (by decide: ¬(((7:Int)==4)=true)),if_neg (by decide: ¬(((7:Int)==5)=true)),if_neg (by decide: ¬(((7:Int)==6)=true)),if_pos (by decide:(((7:Int)==7)=true))];rw [X.gn5,z6];rfl
   by_cases h8:op=8
   ·subst h8;rw [if_neg (by decide: ¬((8:Int)=1)),if_neg (by decide: ¬((8:Int)=2)),if_neg (by decide: ¬((8:Int)=3)),if_neg (by decide: ¬((8:Int)=4)),if_neg (by decide: ¬((8:Int)=5)),if_neg (by decide: ¬((8:Int)=6)),if_neg (by decide: ¬((8:Int)=7)),if_pos (rfl:(8:Int)=8)];rw [if_neg (by decide: ¬(((8:Int)==1)=true)),if_neg (by decide: ¬(((8:Int)==2)=true)),if_neg (by decide: ¬(((8:Int)==3)=true)),if_neg (by decide: ¬(((8:Int)==4)=true)),if_neg (by decide: ¬(((8:Int)==5)=true)),if_neg (by decide: ¬(((8:Int)==6)=true)),if_neg (by decide: ¬(((8:Int)==7)=true)),if_pos (by decide:(((8:Int)==8)=true))];rw [X.gu3,z6];rfl
   by_cases h9:op=9
   ·subst h9;rw [if_neg (by decide: ¬((9:Int)=1)),if_neg (by decide: ¬((9:Int)=2)),if_neg (by decide: ¬((9:Int)=3)),if_neg (by decide: ¬((9:Int)=4)),if_neg (by decide: ¬((9:Int)=5)),if_neg (by decide: ¬((9:Int)=6)),if_neg (by decide: ¬((9:Int)=7)),if_neg (by decide: ¬((9:Int)=8)),if_pos (rfl:(9:Int)=9)];rw [if_neg (by decide: ¬(((9:Int)==1)=true)),if_neg (by decide: ¬(((9:Int)==2)=true)),if_neg (by decide: ¬(((9:Int)==3)=true)),if_neg (by decide: ¬(((9:Int)==4)=true)),if_neg (by decide: ¬(((9:Int)==5)=true)),if_neg (by decide: ¬(((9:Int)==6)=true)),if_neg (by decide: ¬(((9:Int)==7)=true)),if_neg (by decide: ¬(((9:Int)==8)=true)),if_pos (by decide:(((9:Int)==9)=true))];rw [X.gh6,if_neg (by decide),if_neg (zk6 ha (by decide)),z6];rfl
   by_cases h10:op=10
   ·subst h10;rw [if_neg (by decide: ¬((10:Int)=1)),if_neg (by decide: ¬((10:Int)=2)),if_neg (by decide: ¬((10:Int)=3)),if_neg (by decide: ¬((10:Int)=4)),if_neg (by decide: ¬((10:Int)=5)),if_neg (by decide: ¬((10:Int)=6)),if_neg (by decide: ¬((10:Int)=7)),if_neg (by decide: ¬((10:Int)=8)),if_neg (by decide: ¬((10:Int)=9)),if_pos (rfl:(10:Int)=10)];rw [if_neg (by decide: ¬(((10:Int)==1)=true)),if_neg (by decide: ¬(((10:Int)==2)=true)),if_neg (by decide: ¬(((10:Int)==3)=true)),if_neg (by decide: ¬(((10:Int)==4)=true)),if_neg (by decide: ¬(((10:Int)==5)=true)),if_neg (by decide: ¬(((10:Int)==6)=true)),if_neg (by decide: ¬(((10:Int)==7)=true)),if_neg (by decide: ¬(((10:Int)==8)=true)),if_neg (by decide: ¬(((10:Int)==9)=true)),if_pos (by decide:(((10:Int)==10)=true))];rw [X.gq7,if_neg (by decide),if_neg (zk6 ha (by decide)),z6];rfl
   by_cases h11:op=11
   ·subst h11;rw [if_neg (by decide: ¬((11:Int)=1)),if_neg (by decide: ¬((11:Int)=2)),if_neg (by decide: ¬((11:Int)=3)),if_neg (by decide: ¬((11:Int)=4)),if_neg (by decide: ¬((11:Int)=5)),if_neg (by decide: ¬((11:Int)=6)),if_neg (by decide: ¬((11:Int)=7)),if_neg (by decide: ¬((11:Int)=8)),if_neg (by decide: ¬((11:Int)=9)),if_neg (by decide: ¬((11:Int)=10)),if_pos (rfl:(11:Int)=11)];rw [if_neg (by decide: ¬(((11:Int)==1)=true)),if_neg (by decide: ¬(((11:Int)==2)=true)),if_neg (by decide: ¬(((11:Int)==3)=true)),if_neg (by decide: ¬(((11:Int)==4)=true)),if_neg (by decide: ¬(((11:Int)==5)=true)),if_neg (by decide: ¬(((11:Int)==6)=true)),if_neg (by decide: ¬(((11:Int)==7)=true)),if_neg (by decide: ¬(((11:Int)==8)=true)),if_neg (by decide: ¬(((11:Int)==9)=true)),if_neg (by decide: ¬(((11:Int)==10)=true)),if_pos (by decide:(((11:Int)==11)=true))];rw [X.gn8,if_neg (by decide),if_neg (zk6 ha (by decide)),z6];rfl
   by_cases h12:op=12
   ·subst h12;rw [if_neg (by decide: ¬((12:Int)=1)),if_neg (by decide: ¬((12:Int)=2)),if_neg (by decide: ¬((12:Int)=3)),if_neg (by decide: ¬((12:Int)=4)),if_neg (by decide: ¬((12:Int)=5)),if_neg (by decide: ¬((12:Int)=6)),if_neg (by decide: ¬((12:Int)=7)),if_neg (by decide: ¬((12:Int)=8)),if_neg (by decide: ¬((12:Int)=9)),if_neg (by decide: ¬((12:Int)=10)),if_neg (by decide: ¬((12:Int)=11)),if_pos (rfl:(12:Int)=12)];rw [if_neg (by decide: ¬(((12:Int)==1)=true)),if_neg (by decide: ¬(((12:Int)==2)=true)),if_neg (by decide: ¬(((12:Int)==3)=true)),if_neg (by decide: ¬(((12:Int)==4)=true)),if_neg (by decide: ¬(((12:Int)==5)=true)),if_neg (by decide: ¬(((12:Int)==6)=true)),if_neg (by decide: ¬(((12:Int)==7)=true)),if_neg (by decide: ¬(((12:Int)==8)=true)),if_neg (by decide: ¬(((12:Int)==9)=true)),if_neg (by decide: ¬(((12:Int)==10)=true)),if_neg (by decide: ¬(((12:Int)==11)=true)),if_pos (by decide:(((12:Int)==12)=true))];rw [X.gn6,z6];rfl
   by_cases h13:op=13
   ·subst h13;rw [if_neg (by decide: ¬((13:Int)=1)),if_neg (by decide: ¬((13:Int)=2)),if_neg (by decide: ¬((13:Int)=3)),if_neg (by decide: ¬((13:Int)=4)),if_neg (by decide: ¬((13:Int)=5)),if_neg (by decide: ¬((13:Int)=6)),if_neg (by decide: ¬((13:Int)=7)),if_neg (by decide: ¬((13:Int)=8)),if_neg (by decide: ¬((13:Int)=9)),if_neg (by decide: ¬((13:Int)=10)),if_neg (by decide: ¬((13:Int)=11)),if_neg (by decide: ¬((13:Int)=12)),if_pos (rfl:(13:Int)=13)];rw [if_neg (by decide: ¬(((13:Int)==1)=true)),if_neg (by decide: ¬(((13:Int)==2)=true)),if_neg (by decide: ¬(((13:Int)==3)=true)),if_neg (by decide: ¬(((13:Int)==4)=true)),if_neg (by decide: ¬(((13:Int)==5)=true)),if_neg (by decide: ¬(((13:Int)==6)=true)),if_neg (by decide: ¬(((13:Int)==7)=true)),if_neg (by decide: ¬(((13:Int)==8)=true)),if_neg (by decide: ¬(((13:Int)==9)=true)),if_neg (by decide: ¬(((13:Int)==10)=true)),if_neg (by decide: ¬(((13:Int)==11)=true)),if_neg (by decide: ¬(((13:Int)==12)=true)),if_pos (by decide:(((13:Int)==13)=true))];rw [X.gt6,z6];rfl
   rw [if_neg h1,if_neg h2,if_neg h3,if_neg h4,if_neg h5,if_neg h6,if_neg h7,if_neg h8,if_neg h9,if_neg h10,if_neg h11,if_neg h12,if_neg h13];rw [if_neg (by simpa using h1),if_neg (by simpa using h2),if_neg (by simpa using h3),if_neg (by simpa using h4),if_neg (by simpa using h5),if_neg (by simpa using h6),if_neg (by simpa using h7),if_neg (by simpa using h8),if_neg (by simpa using h9),if_neg (by simpa using h10),if_neg (by simpa using h11),if_neg (by simpa using h12),if_neg (by simpa using h13)]
 rw [X.wx1,e];cases h4:(op==(4:Int)) with
 |true=>rw [z9,hj _ (by rw [h4];rfl)]
 |false=>
  rw [z5];cases h5:(op==(5:Int)) with
  |true=>rw [z9,hj _ (by rw [h4,h5];rfl)]
  |false=>rw [z5,hj _ (by rw [h4,h5];rfl)]
def do64 (op a b:Int) (ha:0<=b):X.qbe v3 op 64 a b=some (jy4 op 64 a b):=by
 obtain ⟨n,e⟩: ∃n:Nat,(v3:Nat)=n+1:=⟨999999999,rfl⟩;have hj: ∀c:Bool,c=(((op==4)||(op==5))&&(b==0))->X.jl0 (n+1) op c 64 a b=some (jy4 op 64 a b):=fun c hc=>by
  rw [X.qd6,hc];unfold jy4;cases hcc:(((op==(4:Int))||(op==(5:Int)))&&(b==(0:Int))) with
  |true=>rfl
  |false=>
   rw [z5,if_neg (show ¬(false=true) by decide)];by_cases h1:op=1
   ·subst h1;rw [if_pos (rfl:(1:Int)=1)];rw [if_pos (by decide:(((1:Int)==1)=true))];rw [X.go0,z6];rfl
   by_cases h2:op=2
   ·subst h2;rw [if_neg (by decide: ¬((2:Int)=1)),if_pos (rfl:(2:Int)=2)];rw [if_neg (by decide: ¬(((2:Int)==1)=true)),if_pos (by decide:(((2:Int)==2)=true))];rw [X.gj0,z6];rfl
   by_cases h3:op=3
   ·subst h3;rw [if_neg (by decide: ¬((3:Int)=1)),if_neg (by decide: ¬((3:Int)=2)),if_pos (rfl:(3:Int)=3)];rw [if_neg (by decide: ¬(((3:Int)==1)=true)),if_neg (by decide: ¬(((3:Int)==2)=true)),if_pos (by decide:(((3:Int)==3)=true))];rw [X.gu0,z6];rfl
   by_cases h4:op=4
   ·subst h4;rw [if_neg (by decide: ¬((4:Int)=1)),if_neg (by decide: ¬((4:Int)=2)),if_neg (by decide: ¬((4:Int)=3)),if_pos (rfl:(4:Int)=4)];rw [if_neg (by decide: ¬(((4:Int)==1)=true)),if_neg (by decide: ¬(((4:Int)==2)=true)),if_neg (by decide: ¬(((4:Int)==3)=true)),if_pos (by decide:(((4:Int)==4)=true))];rw [X.gt1,if_neg (fun h=>by subst h;exact absurd hcc (by decide)),z6];rfl
   by_cases h5:op=5
   ·subst h5;rw [if_neg (by decide: ¬((5:Int)=1)),if_neg (by decide: ¬((5:Int)=2)),if_neg (by decide: ¬((5:Int)=3)),if_neg (by decide: ¬((5:Int)=4)),if_pos (rfl:(5:Int)=5)];rw [if_neg (by decide: ¬(((5:Int)==1)=true)),if_neg (by decide: ¬(((5:Int)==2)=true)),if_neg (by decide: ¬(((5:Int)==3)=true)),if_neg (by decide: ¬(((5:Int)==4)=true)),if_pos (by decide:(((5:Int)==5)=true))];rw [X.go4,if_neg (fun h=>by subst h;exact absurd hcc (by decide)),z6];rfl
   by_cases h6:op=6
   ·subst h6;rw [if_neg (by decide: ¬((6:Int)=1)),if_neg (by decide: ¬((6:Int)=2)),if_neg (by decide: ¬((6:Int)=3)),if_neg (by decide: ¬((6:Int)=4)),if_neg (by decide: ¬((6:Int)=5)),if_pos (rfl:(6:Int)=6)];rw [if_neg (by decide: ¬(((6:Int)==1)=true)),if_neg (by decide: ¬(((6:Int)==2)=true)),if_neg (by decide: ¬(((6:Int)==3)=true)),if_neg (by decide: ¬(((6:Int)==4)=true)),if_neg (by decide: ¬(((6:Int)==5)=true)),if_pos (by decide:(((6:Int)==6)=true))];rw [X.gg4,z6];rfl
   by_cases h7:op=7
   ·subst h7;rw [if_neg (by decide: ¬((7:Int)=1)),if_neg (by decide: ¬((7:Int)=2)),if_neg (by decide: ¬((7:Int)=3)),if_neg (by decide: ¬((7:Int)=4)),if_neg (by decide: ¬((7:Int)=5)),if_neg (by decide: ¬((7:Int)=6)),if_pos (rfl:(7:Int)=7)];rw [if_neg (by decide: ¬(((7:Int)==1)=true)),if_neg (by decide: ¬(((7:Int)==2)=true)),if_neg (by decide: ¬(((7:Int)==3)=true)),if_neg (by decide: ¬(((7:Int)==4)=true)),if_neg (by decide: ¬(((7:Int)==5)=true)),if_neg (by decide: ¬(((7:Int)==6)=true)),if_pos (by decide:(((7:Int)==7)=true))];rw [X.gj9,z6];rfl
   by_cases h8:op=8
   ·subst h8;rw [if_neg (by decide: ¬((8:Int)=1)),if_neg (by decide: ¬((8:Int)=2)),if_neg (by decide: ¬((8:Int)=3)),if_neg (by decide: ¬((8:Int)=4)),if_neg (by decide: ¬((8:Int)=5)),if_neg (by decide: ¬((8:Int)=6)),if_neg (by decide: ¬((8:Int)=7)),if_pos (rfl:(8:Int)=8)];rw [if_neg (by decide: ¬(((8:Int)==1)=true)),if_neg (by decide: ¬(((8:Int)==2)=true)),if_neg (by decide: ¬(((8:Int)==3)=true)),if_neg (by decide: ¬(((8:Int)==4)=true)),if_neg (by decide: ¬(((8:Int)==5)=true)),if_neg (by decide: ¬(((8:Int)==6)=true)),if_neg (by decide: ¬(((8:Int)==7)=true)),if_pos (by decide:(((8:Int)==8)=true))];rw [X.gn4,z6];rfl
   by_cases h9:op=9
   ·subst h9;rw [if_neg (by decide: ¬((9:Int)=1)),if_neg (by decide: ¬((9:Int)=2)),if_neg (by decide: ¬((9:Int)=3)),if_neg (by decide: ¬((9:Int)=4)),if_neg (by decide: ¬((9:Int)=5)),if_neg (by decide: ¬((9:Int)=6)),if_neg (by decide: ¬((9:Int)=7)),if_neg (by decide: ¬((9:Int)=8)),if_pos (rfl:(9:Int)=9)];rw [if_neg (by decide: ¬(((9:Int)==1)=true)),if_neg (by decide: ¬(((9:Int)==2)=true)),if_neg (by decide: ¬(((9:Int)==3)=true)),if_neg (by decide: ¬(((9:Int)==4)=true)),if_neg (by decide: ¬(((9:Int)==5)=true)),if_neg (by decide: ¬(((9:Int)==6)=true)),if_neg (by decide: ¬(((9:Int)==7)=true)),if_neg (by decide: ¬(((9:Int)==8)=true)),if_pos (by decide:(((9:Int)==9)=true))];rw [X.gn2,if_neg (by decide),if_neg (zk6 ha (by decide)),z6];rfl
   by_cases h10:op=10
   ·subst h10;rw [if_neg (by decide: ¬((10:Int)=1)),if_neg (by decide: ¬((10:Int)=2)),if_neg (by decide: ¬((10:Int)=3)),if_neg (by decide: ¬((10:Int)=4)),if_neg (by decide: ¬((10:Int)=5)),if_neg (by decide: ¬((10:Int)=6)),if_neg (by decide: ¬((10:Int)=7)),if_neg (by decide: ¬((10:Int)=8)),if_neg (by decide: ¬((10:Int)=9)),if_pos (rfl:(10:Int)=10)];rw [if_neg (by decide: ¬(((10:Int)==1)=true)),if_neg (by decide: ¬(((10:Int)==2)=true)),if_neg (by decide: ¬(((10:Int)==3)=true)),if_neg (by decide: ¬(((10:Int)==4)=true)),if_neg (by decide: ¬(((10:Int)==5)=true)),if_neg (by decide: ¬(((10:Int)==6)=true)),if_neg (by decide: ¬(((10:Int)==7)=true)),if_neg (by decide: ¬(((10:Int)==8)=true)),if_neg (by decide: ¬(((10:Int)==9)=true)),if_pos (by decide:(((10:Int)==10)=true))];rw [X.gm1,if_neg (by decide),if_neg (zk6 ha (by decide)),z6];rfl
   by_cases h11:op=11
   ·subst h11;rw [if_neg (by decide: ¬((11:Int)=1)),if_neg (by decide: ¬((11:Int)=2)),if_neg (by decide: ¬((11:Int)=3)),if_neg (by decide: ¬((11:Int)=4)),if_neg (by decide: ¬((11:Int)=5)),if_neg (by decide: ¬((11:Int)=6)),if_neg (by decide: ¬((11:Int)=7)),if_neg (by decide: ¬((11:Int)=8)),if_neg (by decide: ¬((11:Int)=9)),if_neg (by decide: ¬((11:Int)=10)),if_pos (rfl:(11:Int)=11)];rw [if_neg (by decide: ¬(((11:Int)==1)=true)),if_neg (by decide: ¬(((11:Int)==2)=true)),if_neg (by decide: ¬(((11:Int)==3)=true)),if_neg (by decide: ¬(((11:Int)==4)=true)),if_neg (by decide: ¬(((11:Int)==5)=true)),if_neg (by decide: ¬(((11:Int)==6)=true)),if_neg (by decide: ¬(((11:Int)==7)=true)),if_neg (by decide: ¬(((11:Int)==8)=true)),if_neg (by decide: ¬(((11:Int)==9)=true)),if_neg (by decide: ¬(((11:Int)==10)=true)),if_pos (by decide:(((11:Int)==11)=true))];rw [X.gs7,if_neg (by decide),if_neg (zk6 ha (by decide)),z6];rfl
   by_cases h12:op=12
   ·subst h12;rw [if_neg (by decide: ¬((12:Int)=1)),if_neg (by decide: ¬((12:Int)=2)),if_neg (by decide: ¬((12:Int)=3)),if_neg (by decide: ¬((12:Int)=4)),if_neg (by decide: ¬((12:Int)=5)),if_neg (by decide: ¬((12:Int)=6)),if_neg (by decide: ¬((12:Int)=7)),if_neg (by decide: ¬((12:Int)=8)),if_neg (by decide: ¬((12:Int)=9)),if_neg (by decide: ¬((12:Int)=10)),if_neg (by decide: ¬((12:Int)=11)),if_pos (rfl:(12:Int)=12)];rw [if_neg (by decide: ¬(((12:Int)==1)=true)),if_neg (by decide: ¬(((12:Int)==2)=true)),if_neg (by decide: ¬(((12:Int)==3)=true)),if_neg (by decide: ¬(((12:Int)==4)=true)),if_neg (by decide: ¬(((12:Int)==5)=true)),if_neg (by decide: ¬(((12:Int)==6)=true)),if_neg (by decide: ¬(((12:Int)==7)=true)),if_neg (by decide: ¬(((12:Int)==8)=true)),if_neg (by decide: ¬(((12:Int)==9)=true)),if_neg (by decide: ¬(((12:Int)==10)=true)),if_neg (by decide: ¬(((12:Int)==11)=true)),if_pos (by decide:(((12:Int)==12)=true))];rw [X.gl2,z6];rfl
   by_cases h13:op=13
   ·subst h13;rw [if_neg (by decide: ¬((13:Int)=1)),if_neg (by decide: ¬((13:Int)=2)),if_neg (by decide: ¬((13:Int)=3)),if_neg (by decide: ¬((13:Int)=4)),if_neg (by decide: ¬((13:Int)=5)),if_neg (by decide: ¬((13:Int)=6)),if_neg (by decide: ¬((13:Int)=7)),if_neg (by decide: ¬((13:Int)=8)),if_neg (by decide: ¬((13:Int)=9)),if_neg (by decide: ¬((13:Int)=10)),if_neg (by decide: ¬((13:Int)=11)),if_neg (by decide: ¬((13:Int)=12)),if_pos (rfl:(13:Int)=13)];rw [if_neg (by decide: ¬(((13:Int)==1)=true)),if_neg (by decide: ¬(((13:Int)==2)=true)),if_neg (by decide: ¬(((13:Int)==3)=true)),if_neg (by decide: ¬(((13:Int)==4)=true)),if_neg (by decide: ¬(((13:Int)==5)=true)),if_neg (by decide: ¬(((13:Int)==6)=true)),if_neg (by decide: ¬(((13:Int)==7)=true)),if_neg (by decide: ¬(((13:Int)==8)=true)),if_neg (by decide: ¬(((13:Int)==9)=true)),if_neg (by decide: ¬(((13:Int)==10)=true)),if_neg (by decide: ¬(((13:Int)==11)=true)),if_neg (by decide: ¬(((13:Int)==12)=true)),if_pos (by decide:(((13:Int)==13)=true))];rw [X.gl0,z6];rfl
   rw [if_neg h1,if_neg h2,if_neg h3,if_neg h4,if_neg h5,if_neg h6,if_neg h7,if_neg h8,if_neg h9,if_neg h10,if_neg h11,if_neg h12,if_neg h13];rw [if_neg (by simpa using h1),if_neg (by simpa using h2),if_neg (by simpa using h3),if_neg (by simpa using h4),if_neg (by simpa using h5),if_neg (by simpa using h6),if_neg (by simpa using h7),if_neg (by simpa using h8),if_neg (by simpa using h9),if_neg (by simpa using h10),if_neg (by simpa using h11),if_neg (by simpa using h12),if_neg (by simpa using h13)]
 rw [X.gr3,e];cases h4:(op==(4:Int)) with
 |true=>rw [z9,hj _ (by rw [h4];rfl)]
 |false=>
  rw [z5];cases h5:(op==(5:Int)) with
  |true=>rw [z9,hj _ (by rw [h4,h5];rfl)]
  |false=>rw [z5,hj _ (by rw [h4,h5];rfl)]
def kr6 (x):q8 (IntKind.u32.wrap x):=by rw [w5];omega
def vv6 (nw a b) (c:0<=b):qcv v3 11 nw a b=some (za4 11 nw a b):=by
 rw [vn9];cases nw with
 |true=>
  rw [z9,do32 _ _ _ (kr6 b).1,z6];have:yx0 11 32 (IntKind.u32.wrap a) (IntKind.u32.wrap b)=(yp9 (IntKind.u32.wrap a) (IntKind.u32.wrap b) 32,0):=rfl;unfold za4 za5;rw [if_pos rfl,this];show some (IntKind.u64.wrap (yp9 _ _ 32),(0:Int))=some (yp9 _ _ 32,0);rw [zc1];exact ⟨(kr6 _).1,(kr6 _).2⟩
 |false=>rw [z5,do64 _ _ _ c,z6];rfl
def zak5 (a b):qed v3 a b=some (ye5 a b):=by rw [us6];rfl
def wj9: ∀i:Fin 256,(wz4[i.val]?).map (fun b=>(b.toNat:Int))=some (tab0.getD i.val 0):=by decide+kernel
def gk0: ∀i:Fin 256,0<=tab0.getD i.val 0/\tab0.getD i.val 0<=8:=by decide+kernel
def u8in (x):0<=IntKind.u8.wrap x/\IntKind.u8.wrap x<256:=by rw [zx5];omega
def zag5 {R} (x:Int) (K:Int->Option R):jh9 wz4 (IntKind.u8.wrap x) K=K (tab0.getD (IntKind.u8.wrap x).toNat 0):=by
 have h:=u8in x;have:=wj9 ⟨(IntKind.u8.wrap x).toNat,by omega⟩;unfold jh9;rw [if_pos h.1];simp only at this;cases hs:wz4[(IntKind.u8.wrap x).toNat]? with
 |none=>rw [hs] at this;cases this
 |some b=>rw [hs] at this;simp only [Z8,X0] at this;rw [<-this]
def zah5 (x:Int):qab v3 x=some (jr0 x):=by
 obtain ⟨n,e⟩: ∃n:Nat,(v3:Nat)=n+1+1+1:=⟨999999997,rfl⟩;have j2: ∀s0 s2:Int,0<=s2/\s2<=1000->qq0 (n+1) s0 s2=some (s2+tab0.getD (IntKind.u8.wrap s0).toNat 0):=fun s0 s2 h=>by
  have h1:=u8in s0;have h2:=gk0 ⟨(IntKind.u8.wrap s0).toNat,by omega⟩;simp only at h2;rw [kd0,zag5,u0 (x:=tab0.getD _ 0) (by omega),u0 (by omega)]
 have j1: ∀s0 s2:Int,0<=s2/\s2<=900->qp6 (n+1+1) s0 s2=some (if decide (s0>=(256:Int))=true then (s2+8)+tab0.getD (IntKind.u8.wrap (za6 .u64 s0 8)).toNat 0 else s2+tab0.getD (IntKind.u8.wrap s0).toNat 0):=fun s0 s2 h=>by
  rw [kb5,u0 (by omega),j2 _ _ (by omega),j2 _ _ (by omega),za9]
 have j0: ∀s0 s2:Int,0<=s2/\s2<=800->qo0 (n+1+1+1) s0 s2=some (if decide (s0>=(65536:Int))=true then (if decide (za6 .u64 s0 16>=(256:Int))=true then (s2+16+8)+tab0.getD (IntKind.u8.wrap (za6 .u64 (za6 .u64 s0 16) 8)).toNat 0 else s2+16+tab0.getD (IntKind.u8.wrap (za6 .u64 s0 16)).toNat 0) else if decide (s0>=(256:Int))=true then (s2+8)+tab0.getD (IntKind.u8.wrap (za6 .u64 s0 8)).toNat 0 else s2+tab0.getD (IntKind.u8.wrap s0).toNat 0):=fun s0 s2 h=>by
  rw [vz8,u0 (by omega),j1 _ _ (by omega),j1 _ _ (by omega),za9]
 rw [ue4,e,j0 _ _ (by omega),j0 _ _ (by omega),za9];unfold jr0;simp only [show (48:Int)+8=56 from rfl,show (16:Int)+8=24 from rfl,show (32:Int)+16=48 from rfl,show (32:Int)+8=40 from rfl,show (0:Int)+16=16 from rfl,show (0:Int)+8=8 from rfl]
end Go.Y
namespace Go.Y
open Go.RowKit Go.V Go.X Go.Proofs
def wp6 (x): ¬zh7 x 1=0:=by unfold zh7;split<;>omega
end Go.Y
namespace Go.Y
open Go.RowKit Go.V Go.X Go.Proofs
def zz3 (nw):qw v3 nw=some (zg8 nw):=by rw [zad6];cases nw<;>rfl
def zb7 (s):qv v3 s=some (q9 s):=by rw [zal4];rfl
def gi7 (x):qbv v3 x=some (zn0 x):=by rw [ue3];rfl
def qa3 (s):X.qy v3 s=some (qy s):=by rw [X.zaf3,gi7,z6];rfl
def wx3 (s nw):X.qh v3 s nw=some (qh s nw):=by rw [X.zal8,zz3,z6,za9,za9];rfl
def wW (nw:Bool) (u v:j6):Work:=⟨u.Lo,u.Hi,v.Lo,v.Hi,nw,j9 nw,if nw then 32 else 64⟩
def tW (w:Work):Twork:=⟨⟨w.a_Lo,w.a_Hi⟩,⟨w.b_Lo,w.b_Hi⟩,w.narrow,w.most,w.size⟩
def yb8 (nw u v):tW (wW nw u v)=wk nw u v:=rfl
def zr6 (nw a b):X.qan v3 nw a b=some (wW nw (qh a nw) (qh b nw)):=by
 rw [X.um4,wx3,z6,wx3,z6];cases nw<;>rfl
def pS (o:Option j6):Unit×((Span×Unit)⊕(Unit×Unit)):=((),match o with|some r=>.inl (r,())|none=>.inr ((),()))
def zh0 (c):qu v3 c=some ((),if c=true then .inl () else .inr ((),())):=by rw [zaj8];cases c<;>rfl
def vp8 (w x y):X.qbw v3 w x y=some (qbw (tW w) x y):=by rw [X.ug4];rfl
def jx4 (w):X.qag v3 w=some (qag (tW w)):=by
 rw [X.uj5,qa3,z6,qa3,z6,zx8];rfl
def gu8 (x):X.qcf v3 x=some (qcf x):=by
 have h:0<=jr0 x:=by
  have a: ∀k:Int,0<=tab0.getD (IntKind.u8.wrap k).toNat 0:=fun k=>by
   have b:=u8in k;exact (gk0 ⟨(IntKind.u8.wrap k).toNat,by omega⟩).1
  unfold jr0
  repeat' split
  all_goals first|exact Int.add_nonneg (by decide) (a _)
 rw [X.uu3,zah5,z6,if_neg (by omega)];rfl
def zaf9 (w:Work):qbn v3 w=some (pS (zs5 (tW w))):=by
 obtain ⟨n,e⟩: ∃n:Nat,(v3:Nat)=n+1:=⟨999999999,rfl⟩;rw [uz0,zh0,z6,zh0,z6,e,kb1,vp8,z6];show _=some (pS (zk1 (za3 (decide (w.b_Hi<=IntKind.u64.wrap (w.most-w.a_Hi))||decide (w.b_Lo>IntKind.u64.wrap (w.most-w.a_Lo)))) none _));cases decide (w.b_Hi<=IntKind.u64.wrap (w.most-w.a_Hi))<;>cases decide (w.b_Lo>IntKind.u64.wrap (w.most-w.a_Lo))<;>rfl
def zad9 (w:Work):qbo v3 w=some (pS (zs2 (tW w))):=by
 obtain ⟨n,e⟩: ∃n:Nat,(v3:Nat)=n+1:=⟨999999999,rfl⟩;rw [uu4,zh0,z6,zh0,z6,e,ka5,vp8,z6];show _=some (pS (zk1 (za3 (decide (w.a_Lo>=w.b_Hi)||decide (w.a_Hi<w.b_Lo))) none _));cases decide (w.a_Lo>=w.b_Hi)<;>cases decide (w.a_Hi<w.b_Lo)<;>rfl
def uh7 (w:Work):qbp v3 w=some (pS (zs3 (tW w))):=by
 obtain ⟨n,e⟩: ∃n:Nat,(v3:Nat)=n+1:=⟨999999999,rfl⟩;rw [uk6,zak5,z6,zh0,z6,zh0,z6,e,kf8];show _=some (pS (zk1 (za3 (((ye5 w.a_Hi w.b_Hi).1==(0:Int))&&decide ((ye5 w.a_Hi w.b_Hi).2<=w.most))) none _));cases ((ye5 w.a_Hi w.b_Hi).1==(0:Int))<;>cases decide ((ye5 w.a_Hi w.b_Hi).2<=w.most)<;>rfl
def zah0 (w):X.qcp v3 w=some (qcp (tW w)):=by
 rw [X.un9,if_neg (wp6 _),if_neg (wp6 _)];rfl
def zah8 (w):X.qcq v3 w=some (qcq (tW w)):=by
 rw [X.uo3,za9];rfl
def zag7 (w):X.qce v3 w=some (qce (tW w)):=by
 rw [X.zaa1,jx4,z6,gi7,z6,za9];rfl
def or_v (w):X.qcg v3 w=some (qcg (tW w)):=by
 rw [X.uh4,jx4,z6,gi7,z6,gu8,z6,za9];rfl
def zai9 (w):X.qch v3 w=some (qch (tW w)):=by
 rw [X.uu1,jx4,z6,gi7,z6,gu8,z6,za9];rfl
def zal2 (w):X.qcr v3 w=some (qcr (tW w)):=by rw [X.ug7];rfl
def zae4 (w):qds v3 w=some (pS (zj8 (tW w))):=by
 rw [uo7,zh0,z6,vp8,z6];show _=some (pS (if (w.a_Hi==(0:Int))=true then some ⟨w.a_Lo,w.a_Hi⟩ else zk1 (za3 (decide (w.a_Lo>(0:Int)))) none _));cases (w.a_Hi==(0:Int))<;>cases decide (w.a_Lo>(0:Int))<;>rfl
def zae2 (w:Work) (hs:0<w.size) (hb:0<=w.b_Lo):qbq v3 w=some (pS (zr8 (tW w))):=by
 obtain ⟨n,e⟩: ∃n:Nat,(v3:Nat)=n+1:=⟨999999999,rfl⟩;have ht:=zk6 hb hs;rw [ug5,if_neg (by omega),qa3,z6,if_neg ht,zh0,z6,zh0,z6,e,kb8,if_neg ht,if_neg ht];show _=some (pS (zk1 (za3 (qy (⟨w.b_Lo,w.b_Hi⟩:j6)&&decide (w.a_Hi<=za6 .u64 w.most (w.b_Lo.tmod w.size)))) none _));cases qy (⟨w.b_Lo,w.b_Hi⟩:j6)<;>cases decide (w.a_Hi<=za6 .u64 w.most (w.b_Lo.tmod w.size))<;>rfl
def zak1 (w:Work) (hs:0<w.size) (hb:0<=w.b_Lo) (hc:0<=w.b_Hi):X.qau v3 w=some (qau (tW w)):=by
 obtain ⟨n,e⟩: ∃n:Nat,(v3:Nat)=n+1:=⟨999999999,rfl⟩;have ht:=zk6 hb hs;have hu:=zk6 hc hs;rw [X.uz8,qa3,z6,if_neg (by omega),if_neg (by omega),e,X.qc1,X.qc1,if_neg hu,if_neg ht,if_neg (by omega),if_neg (by omega),za9,za9];rfl
def qk4 (w x):X.qaa v3 w x=some (qaa (tW w) x):=by
 rw [X.ui6,if_neg (by rw [q7];omega)];rfl
def vy2 (w s):X.qav v3 w s=some (qav (tW w) s):=by
 rw [X.ux4,qk4,z6,qk4,z6];rfl
def zaj0 (w:Work) (hb:0<=w.b_Lo):qbr v3 w=some (pS (zs1 (tW w))):=by
 obtain ⟨n,e⟩: ∃n:Nat,(v3:Nat)=n+1:=⟨999999999,rfl⟩;rw [ue9,qa3,z6,vy2,z6,zh0,z6,zh0,z6,e,kg8,vv6 _ _ _ hb,z6,vv6 _ _ _ hb,z6];show _=some (pS (zk1 (za3 (qy (⟨w.b_Lo,w.b_Hi⟩:j6)&& !(qav (tW w) (⟨w.a_Lo,w.a_Hi⟩:j6)))) none _));cases qy (⟨w.b_Lo,w.b_Hi⟩:j6)<;>cases qav (tW w) (⟨w.a_Lo,w.a_Hi⟩:j6)<;>rfl
end Go.Y
namespace Go.Y
open Go.RowKit Go.V Go.X Go.Proofs
def doP (nw x):(match (pS x).2 with| .inl z=>(z8 (qai nw z.1.Lo z.1.Hi) fun y=>some ((),((⟨y.2.1.1,y.2.1.2.1⟩:Span),())))| .inr _=>(z8 (qbd nw 0 0) fun y=>some ((),((⟨y.2.1.1,y.2.1.2.1⟩:Span),()))))=some ((),(x.getD (zg8 nw),())):=by
 cases x with
 |none=>show z8 (qbd nw 0 0) _=_;rw [uf8,zz3,z6,z6];rfl
 |some r=>show z8 (qai nw r.Lo r.Hi) _=_;rw [go1,z6];rfl
def doT (nw r):(z8 (qai nw r.Lo r.Hi) fun y=>some ((),((⟨y.2.1.1,y.2.1.2.1⟩:Span),())))=some ((),(r,())):=by rw [go1,z6]
def doR (k) (e:1<=k/\k<=13) (nw a b):span_Do k nw a b=if ((!q9 a)|| !q9 b)=true then zg8 nw else (zb8 k (wk nw (qh a nw) (qh b nw))).getD (zg8 nw):=by
 rw [zr7,vr5];unfold q9;by_cases c:a.Lo<=a.Hi
 ·by_cases d:b.Lo<=b.Hi
  ·rw [if_pos ⟨e,c,d⟩,W3 c,W3 d];rfl
  ·rw [if_neg (fun h=>d h.2.2),W4 d,W3 c];rfl
 ·rw [if_neg (fun h=>c h.2.1),W4 c];rfl
def do1 (nw a b) (d:q8 a.Lo/\q8 a.Hi) (e:q8 b.Lo/\q8 b.Hi):qq v3 1 nw a b=some ((),(span_Do 1 nw a b,())):=by
 have c: ∀w,zb8 1 w=zs5 w:=fun w=>by
  unfold zb8;rw [if_pos (rfl:(1:Int)=1)]
 rw [doR 1 (by decide),c,yi6,zr9,z6,if_pos (rfl:(1:Int)=1),zb7,z6,zz3,z6,zb7,z6,zr6,z6];cases h1:q9 a with
 |false=>rfl
 |true=>
  cases h2:q9 b with
  |false=>rfl
  |true=>
   rw [W5,z5,z5,zaf9,z6,yb8];exact doP nw _
def do2 (nw a b) (d:q8 a.Lo/\q8 a.Hi) (e:q8 b.Lo/\q8 b.Hi):qq v3 2 nw a b=some ((),(span_Do 2 nw a b,())):=by
 have c: ∀w,zb8 2 w=zs2 w:=fun w=>by
  unfold zb8;rw [if_neg (by decide: ¬((2:Int)=1)),if_pos (rfl:(2:Int)=2)]
 rw [doR 2 (by decide),c,yi6,zr9,z6,if_neg (by decide: ¬((2:Int)=1)),if_pos (rfl:(2:Int)=2),zb7,z6,zz3,z6,zb7,z6,zr6,z6];cases h1:q9 a with
 |false=>rfl
 |true=>
  cases h2:q9 b with
  |false=>rfl
  |true=>
   rw [W5,z5,z5,zad9,z6,yb8];exact doP nw _
def do3 (nw a b) (d:q8 a.Lo/\q8 a.Hi) (e:q8 b.Lo/\q8 b.Hi):qq v3 3 nw a b=some ((),(span_Do 3 nw a b,())):=by
 have c: ∀w,zb8 3 w=zs3 w:=fun w=>by
  unfold zb8;rw [if_neg (by decide: ¬((3:Int)=1)),if_neg (by decide: ¬((3:Int)=2)),if_pos (rfl:(3:Int)=3)]
 rw [doR 3 (by decide),c,yi6,zr9,z6,if_neg (by decide: ¬((3:Int)=1)),if_neg (by decide: ¬((3:Int)=2)),if_pos (rfl:(3:Int)=3),zb7,z6,zz3,z6,zb7,z6,zr6,z6];cases h1:q9 a with
 |false=>rfl
 |true=>
  cases h2:q9 b with
  |false=>rfl
  |true=>
   rw [W5,z5,z5,uh7,z6,yb8];exact doP nw _
def do4 (nw a b) (d:q8 a.Lo/\q8 a.Hi) (e:q8 b.Lo/\q8 b.Hi):qq v3 4 nw a b=some ((),(span_Do 4 nw a b,())):=by
 have c: ∀w,zb8 4 w=some (qcp w):=fun w=>by
  unfold zb8;rw [if_neg (by decide: ¬((4:Int)=1)),if_neg (by decide: ¬((4:Int)=2)),if_neg (by decide: ¬((4:Int)=3)),if_pos (rfl:(4:Int)=4)]
 rw [doR 4 (by decide),c,yi6,zr9,z6,if_neg (by decide: ¬((4:Int)=1)),if_neg (by decide: ¬((4:Int)=2)),if_neg (by decide: ¬((4:Int)=3)),if_pos (rfl:(4:Int)=4),zb7,z6,zz3,z6,zb7,z6,zr6,z6];cases h1:q9 a with
 |false=>rfl
 |true=>
  cases h2:q9 b with
  |false=>rfl
  |true=>
   rw [W5,z5,z5,zah0,z6,yb8];exact doT nw _
def do5 (nw a b) (d:q8 a.Lo/\q8 a.Hi) (e:q8 b.Lo/\q8 b.Hi):qq v3 5 nw a b=some ((),(span_Do 5 nw a b,())):=by
 have c: ∀w,zb8 5 w=some (qcq w):=fun w=>by
  unfold zb8;rw [if_neg (by decide: ¬((5:Int)=1)),if_neg (by decide: ¬((5:Int)=2)),if_neg (by decide: ¬((5:Int)=3)),if_neg (by decide: ¬((5:Int)=4)),if_pos (rfl:(5:Int)=5)]
 rw [doR 5 (by decide),c,yi6,zr9,z6,if_neg (by decide: ¬((5:Int)=1)),if_neg (by decide: ¬((5:Int)=2)),if_neg (by decide: ¬((5:Int)=3)),if_neg (by decide: ¬((5:Int)=4)),if_pos (rfl:(5:Int)=5),zb7,z6,zz3,z6,zb7,z6,zr6,z6];cases h1:q9 a with
 |false=>rfl
 |true=>
  cases h2:q9 b with
  |false=>rfl
  |true=>
   rw [W5,z5,z5,zah8,z6,yb8];exact doT nw _
def do6 (nw a b) (d:q8 a.Lo/\q8 a.Hi) (e:q8 b.Lo/\q8 b.Hi):qq v3 6 nw a b=some ((),(span_Do 6 nw a b,())):=by
 have c: ∀w,zb8 6 w=some (qce w):=fun w=>by
  unfold zb8;rw [if_neg (by decide: ¬((6:Int)=1)),if_neg (by decide: ¬((6:Int)=2)),if_neg (by decide: ¬((6:Int)=3)),if_neg (by decide: ¬((6:Int)=4)),if_neg (by decide: ¬((6:Int)=5)),if_pos (rfl:(6:Int)=6)]
 rw [doR 6 (by decide),c,yi6,zr9,z6,if_neg (by decide: ¬((6:Int)=1)),if_neg (by decide: ¬((6:Int)=2)),if_neg (by decide: ¬((6:Int)=3)),if_neg (by decide: ¬((6:Int)=4)),if_neg (by decide: ¬((6:Int)=5)),if_pos (rfl:(6:Int)=6),zb7,z6,zz3,z6,zb7,z6,zr6,z6];cases h1:q9 a with
 |false=>rfl
 |true=>
  cases h2:q9 b with
  |false=>rfl
  |true=>
   rw [W5,z5,z5,zag7,z6,yb8];exact doT nw _
def do7 (nw a b) (d:q8 a.Lo/\q8 a.Hi) (e:q8 b.Lo/\q8 b.Hi):qq v3 7 nw a b=some ((),(span_Do 7 nw a b,())):=by
 have c: ∀w,zb8 7 w=some (qcg w):=fun w=>by
  unfold zb8;rw [if_neg (by decide: ¬((7:Int)=1)),if_neg (by decide: ¬((7:Int)=2)),if_neg (by decide: ¬((7:Int)=3)),if_neg (by decide: ¬((7:Int)=4)),if_neg (by decide: ¬((7:Int)=5)),if_neg (by decide: ¬((7:Int)=6)),if_pos (rfl:(7:Int)=7)]
 rw [doR 7 (by decide),c,yi6,zr9,z6,if_neg (by decide: ¬((7:Int)=1)),if_neg (by decide: ¬((7:Int)=2)),if_neg (by decide: ¬((7:Int)=3)),if_neg (by decide: ¬((7:Int)=4)),if_neg (by decide: ¬((7:Int)=5)),if_neg (by decide: ¬((7:Int)=6)),if_pos (rfl:(7:Int)=7),zb7,z6,zz3,z6,zb7,z6,zr6,z6];cases h1:q9 a with
 |false=>rfl
 |true=>
  cases h2:q9 b with
  |false=>rfl
  |true=>
   rw [W5,z5,z5,or_v,z6,yb8];exact doT nw _
def do8 (nw a b) (d:q8 a.Lo/\q8 a.Hi) (e:q8 b.Lo/\q8 b.Hi):qq v3 8 nw a b=some ((),(span_Do 8 nw a b,())):=by
 have c: ∀w,zb8 8 w=some (qch w):=fun w=>by
  unfold zb8;rw [if_neg (by decide: ¬((8:Int)=1)),if_neg (by decide: ¬((8:Int)=2)),if_neg (by decide: ¬((8:Int)=3)),if_neg (by decide: ¬((8:Int)=4)),if_neg (by decide: ¬((8:Int)=5)),if_neg (by decide: ¬((8:Int)=6)),if_neg (by decide: ¬((8:Int)=7)),if_pos (rfl:(8:Int)=8)]
 rw [doR 8 (by decide),c,yi6,zr9,z6,if_neg (by decide: ¬((8:Int)=1)),if_neg (by decide: ¬((8:Int)=2)),if_neg (by decide: ¬((8:Int)=3)),if_neg (by decide: ¬((8:Int)=4)),if_neg (by decide: ¬((8:Int)=5)),if_neg (by decide: ¬((8:Int)=6)),if_neg (by decide: ¬((8:Int)=7)),if_pos (rfl:(8:Int)=8),zb7,z6,zz3,z6,zb7,z6,zr6,z6];cases h1:q9 a with
 |false=>rfl
 |true=>
  cases h2:q9 b with
  |false=>rfl
  |true=>
   rw [W5,z5,z5,zai9,z6,yb8];exact doT nw _
def do9 (nw a b) (c:q8 a.Lo/\q8 a.Hi) (d:q8 b.Lo/\q8 b.Hi):qq v3 9 nw a b=some ((),(span_Do 9 nw a b,())):=by
 have e: ∀w,zb8 9 w=zr8 w:=fun w=>by
  unfold zb8;rw [if_neg (by decide: ¬((9:Int)=1)),if_neg (by decide: ¬((9:Int)=2)),if_neg (by decide: ¬((9:Int)=3)),if_neg (by decide: ¬((9:Int)=4)),if_neg (by decide: ¬((9:Int)=5)),if_neg (by decide: ¬((9:Int)=6)),if_neg (by decide: ¬((9:Int)=7)),if_neg (by decide: ¬((9:Int)=8)),if_pos (rfl:(9:Int)=9)]
 rw [doR 9 (by decide),e,yi6,zr9,z6,if_neg (by decide: ¬((9:Int)=1)),if_neg (by decide: ¬((9:Int)=2)),if_neg (by decide: ¬((9:Int)=3)),if_neg (by decide: ¬((9:Int)=4)),if_neg (by decide: ¬((9:Int)=5)),if_neg (by decide: ¬((9:Int)=6)),if_neg (by decide: ¬((9:Int)=7)),if_neg (by decide: ¬((9:Int)=8)),if_pos (rfl:(9:Int)=9),zb7,z6,zz3,z6,zb7,z6,zr6,z6];cases h1:q9 a with
 |false=>rfl
 |true=>
  cases h2:q9 b with
  |false=>rfl
  |true=>
   have h:=(zl5 (nw:=nw) c (of_decide_eq_true h1)).u;have f:=(zl5 (nw:=nw) d (of_decide_eq_true h2)).u;have g:0<(wW nw (qh a nw) (qh b nw)).size:=by unfold wW;cases nw;exact (by decide:(0:Int)<64);exact (by decide:(0:Int)<32)
   rw [W5,z5,z5,zae2 _ g f.1.1,z6,yb8];exact doP nw _
def do10 (nw a b) (d:q8 a.Lo/\q8 a.Hi) (e:q8 b.Lo/\q8 b.Hi):qq v3 10 nw a b=some ((),(span_Do 10 nw a b,())):=by
 have f: ∀w,zb8 10 w=some (qau w):=fun w=>by
  unfold zb8;rw [if_neg (by decide: ¬((10:Int)=1)),if_neg (by decide: ¬((10:Int)=2)),if_neg (by decide: ¬((10:Int)=3)),if_neg (by decide: ¬((10:Int)=4)),if_neg (by decide: ¬((10:Int)=5)),if_neg (by decide: ¬((10:Int)=6)),if_neg (by decide: ¬((10:Int)=7)),if_neg (by decide: ¬((10:Int)=8)),if_neg (by decide: ¬((10:Int)=9)),if_pos (rfl:(10:Int)=10)]
 rw [doR 10 (by decide),f,yi6,zr9,z6,if_neg (by decide: ¬((10:Int)=1)),if_neg (by decide: ¬((10:Int)=2)),if_neg (by decide: ¬((10:Int)=3)),if_neg (by decide: ¬((10:Int)=4)),if_neg (by decide: ¬((10:Int)=5)),if_neg (by decide: ¬((10:Int)=6)),if_neg (by decide: ¬((10:Int)=7)),if_neg (by decide: ¬((10:Int)=8)),if_neg (by decide: ¬((10:Int)=9)),if_pos (rfl:(10:Int)=10),zb7,z6,zz3,z6,zb7,z6,zr6,z6];cases h1:q9 a with
 |false=>rfl
 |true=>
  cases h2:q9 b with
  |false=>rfl
  |true=>
   have h:=(zl5 (nw:=nw) d (of_decide_eq_true h1)).u;have c:=(zl5 (nw:=nw) e (of_decide_eq_true h2)).u;have g:0<(wW nw (qh a nw) (qh b nw)).size:=by unfold wW;cases nw;exact (by decide:(0:Int)<64);exact (by decide:(0:Int)<32)
   rw [W5,z5,z5,zak1 _ g c.1.1 c.2.1,z6,yb8];exact doT nw _
def do11 (nw a b) (c:q8 a.Lo/\q8 a.Hi) (d:q8 b.Lo/\q8 b.Hi):qq v3 11 nw a b=some ((),(span_Do 11 nw a b,())):=by
 have e: ∀w,zb8 11 w=zs1 w:=fun w=>by
  unfold zb8;rw [if_neg (by decide: ¬((11:Int)=1)),if_neg (by decide: ¬((11:Int)=2)),if_neg (by decide: ¬((11:Int)=3)),if_neg (by decide: ¬((11:Int)=4)),if_neg (by decide: ¬((11:Int)=5)),if_neg (by decide: ¬((11:Int)=6)),if_neg (by decide: ¬((11:Int)=7)),if_neg (by decide: ¬((11:Int)=8)),if_neg (by decide: ¬((11:Int)=9)),if_neg (by decide: ¬((11:Int)=10)),if_pos (rfl:(11:Int)=11)]
 rw [doR 11 (by decide),e,yi6,zr9,z6,if_neg (by decide: ¬((11:Int)=1)),if_neg (by decide: ¬((11:Int)=2)),if_neg (by decide: ¬((11:Int)=3)),if_neg (by decide: ¬((11:Int)=4)),if_neg (by decide: ¬((11:Int)=5)),if_neg (by decide: ¬((11:Int)=6)),if_neg (by decide: ¬((11:Int)=7)),if_neg (by decide: ¬((11:Int)=8)),if_neg (by decide: ¬((11:Int)=9)),if_neg (by decide: ¬((11:Int)=10)),if_pos (rfl:(11:Int)=11),zb7,z6,zz3,z6,zb7,z6,zr6,z6];cases h1:q9 a with
 |false=>rfl
 |true=>
  cases h2:q9 b with
  |false=>rfl
  |true=>
   have g:=(zl5 (nw:=nw) c (of_decide_eq_true h1)).u;have f:=(zl5 (nw:=nw) d (of_decide_eq_true h2)).u;rw [W5,z5,z5,zaj0 _ f.1.1,z6,yb8];exact doP nw _
def do12 (nw a b) (d:q8 a.Lo/\q8 a.Hi) (e:q8 b.Lo/\q8 b.Hi):qq v3 12 nw a b=some ((),(span_Do 12 nw a b,())):=by
 have c: ∀w,zb8 12 w=some (qcr w):=fun w=>by
  unfold zb8;rw [if_neg (by decide: ¬((12:Int)=1)),if_neg (by decide: ¬((12:Int)=2)),if_neg (by decide: ¬((12:Int)=3)),if_neg (by decide: ¬((12:Int)=4)),if_neg (by decide: ¬((12:Int)=5)),if_neg (by decide: ¬((12:Int)=6)),if_neg (by decide: ¬((12:Int)=7)),if_neg (by decide: ¬((12:Int)=8)),if_neg (by decide: ¬((12:Int)=9)),if_neg (by decide: ¬((12:Int)=10)),if_neg (by decide: ¬((12:Int)=11)),if_pos (rfl:(12:Int)=12)]
 rw [doR 12 (by decide),c,yi6,zr9,z6,if_neg (by decide: ¬((12:Int)=1)),if_neg (by decide: ¬((12:Int)=2)),if_neg (by decide: ¬((12:Int)=3)),if_neg (by decide: ¬((12:Int)=4)),if_neg (by decide: ¬((12:Int)=5)),if_neg (by decide: ¬((12:Int)=6)),if_neg (by decide: ¬((12:Int)=7)),if_neg (by decide: ¬((12:Int)=8)),if_neg (by decide: ¬((12:Int)=9)),if_neg (by decide: ¬((12:Int)=10)),if_neg (by decide: ¬((12:Int)=11)),if_pos (rfl:(12:Int)=12),zb7,z6,zz3,z6,zb7,z6,zr6,z6];cases h1:q9 a with
 |false=>rfl
 |true=>
  cases h2:q9 b with
  |false=>rfl
  |true=>
   rw [W5,z5,z5,zal2,z6,yb8];exact doT nw _
def do13 (nw a b) (d:q8 a.Lo/\q8 a.Hi) (e:q8 b.Lo/\q8 b.Hi):qq v3 13 nw a b=some ((),(span_Do 13 nw a b,())):=by
 have c: ∀w,zb8 13 w=zj8 w:=fun w=>by
  unfold zb8;rw [if_neg (by decide: ¬((13:Int)=1)),if_neg (by decide: ¬((13:Int)=2)),if_neg (by decide: ¬((13:Int)=3)),if_neg (by decide: ¬((13:Int)=4)),if_neg (by decide: ¬((13:Int)=5)),if_neg (by decide: ¬((13:Int)=6)),if_neg (by decide: ¬((13:Int)=7)),if_neg (by decide: ¬((13:Int)=8)),if_neg (by decide: ¬((13:Int)=9)),if_neg (by decide: ¬((13:Int)=10)),if_neg (by decide: ¬((13:Int)=11)),if_neg (by decide: ¬((13:Int)=12))]
 rw [doR 13 (by decide),c,yi6,zr9,z6,if_neg (by decide: ¬((13:Int)=1)),if_neg (by decide: ¬((13:Int)=2)),if_neg (by decide: ¬((13:Int)=3)),if_neg (by decide: ¬((13:Int)=4)),if_neg (by decide: ¬((13:Int)=5)),if_neg (by decide: ¬((13:Int)=6)),if_neg (by decide: ¬((13:Int)=7)),if_neg (by decide: ¬((13:Int)=8)),if_neg (by decide: ¬((13:Int)=9)),if_neg (by decide: ¬((13:Int)=10)),if_neg (by decide: ¬((13:Int)=11)),if_neg (by decide: ¬((13:Int)=12)),if_pos (rfl:(13:Int)=13),zb7,z6,zz3,z6,zb7,z6,zr6,z6];cases h1:q9 a with
 |false=>rfl
 |true=>
  cases h2:q9 b with
  |false=>rfl
  |true=>
   rw [W5,z5,z5,zae4,z6,yb8];exact doP nw _
def do_v (op nw a b) (c:q8 a.Lo/\q8 a.Hi) (d:q8 b.Lo/\q8 b.Hi):qq v3 op nw a b=some ((),(span_Do op nw a b,())):=by
 by_cases j:op=1
 ·subst j;exact do1 nw a b c d
 by_cases k:op=2
 ·subst k;exact do2 nw a b c d
 by_cases l:op=3
 ·subst l;exact do3 nw a b c d
 by_cases m:op=4
 ·subst m;exact do4 nw a b c d
 by_cases n:op=5
 ·subst n;exact do5 nw a b c d
 by_cases o:op=6
 ·subst o;exact do6 nw a b c d
 by_cases p:op=7
 ·subst p;exact do7 nw a b c d
 by_cases q:op=8
 ·subst q;exact do8 nw a b c d
 by_cases r:op=9
 ·subst r;exact do9 nw a b c d
 by_cases e:op=10
 ·subst e;exact do10 nw a b c d
 by_cases f:op=11
 ·subst f;exact do11 nw a b c d
 by_cases g:op=12
 ·subst g;exact do12 nw a b c d
 by_cases i:op=13
 ·subst i;exact do13 nw a b c d
 rw [yi6,zr9,z6,if_neg j,if_neg k,if_neg l,if_neg m,if_neg n,if_neg o,if_neg p,if_neg q,if_neg r,if_neg e,if_neg f,if_neg g,if_neg i,zz3,z6,zr7,if_neg (fun h=>by have:=h.1;omega),vr5]
end Go.Y
namespace Go.Y
open Go.RowKit Go.V Go.X Go.Proofs
def jm4 (nw):j9 nw<=18446744073709551615:=by cases nw<;>decide
def finE (nw:Bool) (a b:j6) (o:Option (j6×j6)):Span×Span×Bool:=match o with|none=>(⟨0,0⟩,⟨0,0⟩,false)|some x=>(if a.Hi>j9 nw then a else x.1,if b.Hi>j9 nw then b else x.2,true)
def kv0 {op} (a:17<=op/\op<=26):17<=jh1 op/\jh1 op<=26:=by
 unfold jh1
 repeat' split
 all_goals omega
def ifE (op:Int) (nw yes:Bool) (a b:j6):Span×Span×Bool:=if (17<=op/\op<=27)/\a.Lo<=a.Hi/\b.Lo<=b.Hi then finE nw a b (qc9 nw op yes (qh a nw) (qh b nw)) else (a,b,true)
def ke9 (op nw yes a b) (c:q8 a.Lo/\q8 a.Hi) (d:q8 b.Lo/\q8 b.Hi):zq9 op nw yes a b=ifE op nw yes a b:=by
 unfold ifE;by_cases h:(17<=op/\op<=27)/\a.Lo<=a.Hi/\b.Lo<=b.Hi
 ·rw [if_pos h,jr7 h.1 c d h.2.1 h.2.2];rfl
 ·rw [if_neg h];unfold zq9;rw [if_pos];unfold q9;simp only [V6,decide_eq_true_eq,V2,decide_eq_false_iff_not];omega
end Go.Y
namespace Go.Y
open Go.RowKit Go.V Go.X Go.Proofs
def Rt (s:j6):Prop:=s.Lo<=s.Hi
def Snd (o:Option (j6×j6)) (u v:j6) (p q:Int):Prop:= ∃x y,o=some (x,y)/\Rt x/\Rt y/\Hs x p/\Hs y q/\Wi x u/\Wi y v
def Snd.swap {o u v p q} (h:Snd o u v p q):Snd (ji5 o) v u q p:=by
 obtain ⟨x,y,rfl,a,b,c,d,e,f⟩:=h;exact ⟨y,x,rfl,b,a,d,c,f,e⟩
def ji6 {o u v p q} (x y) (c:o=some (x,y)) (a:Rt x/\Hs x p/\Wi x u) (b:Rt y/\Hs y q/\Wi y v):Snd o u v p q:=
 ⟨x,y,c,a.1,b.1,a.2.1,b.2.1,a.2.2,b.2.2⟩
def ju9 {u v p q} (a:Hs u p) (b:Hs v q):Snd (some (u,v)) u v p q:=
 ji6 u v rfl ⟨J3 a.1 a.2,a,W7 _,W7 _⟩ ⟨J3 b.1 b.2,b,W7 _,W7 _⟩
def gr6 {u v p q} (a:Hs u p) (b:Hs v q) (h:p>q):Snd (gtE u v) u v p q:=by
 have p1:=a.1;have p2:=a.2;have c:=b.1;have d:=b.2;refine ji6 _ _ (if_pos (by omega)) ⟨?_,⟨?_,?_⟩,?_,?_⟩ ⟨?_,⟨?_,?_⟩,?_,?_⟩
 all_goals simp only [Rt]
 all_goals omega
def gl6 {u v p q} (a:Hs u p) (b:Hs v q) (h:p>=q):Snd (geE u v) u v p q:=by
 have p1:=a.1;have p2:=a.2;have c:=b.1;have d:=b.2;refine ji6 _ _ (if_pos (by omega)) ⟨?_,⟨?_,?_⟩,?_,?_⟩ ⟨?_,⟨?_,?_⟩,?_,?_⟩
 all_goals simp only [Rt]
 all_goals omega
def gi4 {u v p q} (a:Hs u p) (b:Hs v q) (h:p≠q):Rt (woE u v)/\Hs (woE u v) p/\Wi (woE u v) u:=by
 have p1:=a.1;have p2:=a.2;have d:=b.1;have e:=b.2;unfold woE;by_cases c:u.Lo=u.Hi\/v.Lo≠v.Hi
 ·rw [if_pos c];exact ⟨by unfold Rt;omega,a,W7 _,W7 _⟩
 ·rw [if_neg c];refine ⟨?_,⟨?_,?_⟩,?_,?_⟩
  all_goals simp only [Rt]
  all_goals (try split)<;>(try split)<;>omega
def qf6 {op} (c:17<=op/\op<=22) {nw u v p q} (a:Hs u p) (b:Hs v q) (h:isE nw op p q=true):Snd (zx7 op u v) u v p q:=by
 have p1:=a.1;have p2:=a.2;have e:=b.1;have f:=b.2;have d:op=17\/op=18\/op=19\/op=20\/op=21\/op=22:=by omega
 rcases d with rfl|rfl|rfl|rfl|rfl|rfl
 ·have h:p=q:=of_decide_eq_true h;show Snd (if max u.Lo v.Lo<=min u.Hi v.Hi then some (⟨max u.Lo v.Lo,min u.Hi v.Hi⟩,⟨max u.Lo v.Lo,min u.Hi v.Hi⟩) else none) u v p q;refine ji6 _ _ (if_pos (by omega)) ⟨?_,⟨?_,?_⟩,?_,?_⟩ ⟨?_,⟨?_,?_⟩,?_,?_⟩
  all_goals simp only [Rt]
  all_goals omega
 ·have h:p≠q:=of_decide_eq_true h;show Snd (if u.Lo=u.Hi/\v.Lo=v.Hi/\u.Lo=v.Lo then none else some (woE u v,woE v u)) u v p q;exact ji6 _ _ (if_neg (by omega)) (gi4 a b h) (gi4 b a (Ne.symm h))
 ·exact gr6 a b (of_decide_eq_true h)
 ·exact gl6 a b (of_decide_eq_true h)
 ·exact (gr6 b a (show p<q from of_decide_eq_true h)).swap
 ·exact (gl6 b a (show p<=q from of_decide_eq_true h)).swap
def vs3 {nw u p} (a:Hs u p) (h:zc0 nw u.Lo=zc0 nw u.Hi):zc0 nw p=zc0 nw u.Lo:=by
 have p1:=a.1;have p2:=a.2;unfold zc0 at *;rw [W9,decide_eq_true_eq,decide_eq_true_eq] at *;omega
def gh1 {nw p q} (h:zc0 nw p=zc0 nw q):sgn nw p<sgn nw q↔p<q:=by
 unfold zc0 at h;unfold sgn;rw [W9,decide_eq_true_eq,decide_eq_true_eq] at h;split<;>split<;>omega
def ur5 {nw p q} (a:0<=p/\p<=j9 nw) (b:0<=q/\q<=j9 nw) (h:zc0 nw p≠zc0 nw q):(sgn nw p<sgn nw q↔zc0 nw q=false)/\sgn nw p≠sgn nw q:=by
 unfold sgn;cases h1:zc0 nw p<;>cases h2:zc0 nw q
 ·rw [h1,h2] at h;exact absurd rfl h
 ·unfold zc0 at h1 h2;simp at h1 h2;rw [if_neg (by omega),if_pos h2];simp;omega
 ·unfold zc0 at h1 h2;simp at h1 h2;rw [if_pos h1,if_neg (by omega)];simp;omega
 ·rw [h1,h2] at h;exact absurd rfl h
def vh3 {op} (n:23<=op/\op<=26) {nw u v} (i:SpOk nw u) (j:SpOk nw v) {p q} (b:Hs u p) (c:Hs v q) (h:isE nw op p q=true):Snd (zr3 nw op u v) u v p q:=by
 have k:op=23\/op=24\/op=25\/op=26:=by omega
 unfold zr3;split
 ·exact ju9 b c
 ·rename_i l;have o:zc0 nw u.Lo=zc0 nw u.Hi:=Classical.byContradiction fun d=>l (.inl d);have r:zc0 nw v.Lo=zc0 nw v.Hi:=Classical.byContradiction fun d=>l (.inr d);have m:=vs3 b o;have f:=vs3 c r;split
  ·rename_i g;have e:zc0 nw p=zc0 nw q:=by rw [m,f,g]
   have a:=gh1 e;have l2:=gh1 e.symm;refine qf6 (nw:=nw) (by omega) b c ?_;rcases k with rfl|rfl|rfl|rfl
   ·have h:sgn nw p>sgn nw q:=of_decide_eq_true h;exact W3 (show p>q from l2.1 h)
   ·have h:sgn nw p>=sgn nw q:=of_decide_eq_true h;exact W3 (show p>=q by omega)
   ·have h:sgn nw p<sgn nw q:=of_decide_eq_true h;exact W3 (show p<q from a.1 h)
   ·have h:sgn nw p<=sgn nw q:=of_decide_eq_true h;exact W3 (show p<=q by omega)
  ·rename_i g;have s:0<=p/\p<=j9 nw:=by have:=b.1;have:=b.2;have:=i.lo;have:=i.hi;omega
   have t:0<=q/\q<=j9 nw:=by have:=c.1;have:=c.2;have:=j.lo;have:=j.hi;omega
   obtain ⟨a,l2⟩:=ur5 s t (by rw [m,f];exact g);rw [f] at a;rw [if_pos]
   ·exact ju9 b c
   ·rcases k with rfl|rfl|rfl|rfl
    ·have h:sgn nw p>sgn nw q:=of_decide_eq_true h;cases hb:zc0 nw v.Lo with
     |true=>simp
     |false=>have:=a.2 hb;omega
    ·have h:sgn nw p>=sgn nw q:=of_decide_eq_true h;cases hb:zc0 nw v.Lo with
     |true=>simp
     |false=>have:=a.2 hb;omega
    ·have h:sgn nw p<sgn nw q:=of_decide_eq_true h;rw [a.1 h];simp
    ·have h:sgn nw p<=sgn nw q:=of_decide_eq_true h;rw [a.1 (by omega)];simp
def wf8 {yes nw u v} (c:SpOk nw u) (d:SpOk nw v) {p q} (a:Hs u p) (b:Hs v q) (h:isE nw 27 p q=yes):Snd (zx2 yes u v) u v p q:=by
 have p1:=a.1;have p2:=a.2;have j:=b.1;have k:=b.2;have l:=c.lo;have m:=d.lo;cases yes with
 |false=>
  have h:p.toNat&&&q.toNat=0:=by have:=of_decide_eq_false h;simpa using this
  unfold zx2;rw [if_pos rfl,if_neg]
  ·exact ju9 a b
  ·rintro ⟨c1,c2,c3⟩
   rw [show u.Lo=p by omega,show v.Lo=q by omega] at c3;exact c3 h
 |true=>
  have h:p.toNat&&&q.toNat≠0:=of_decide_eq_true h;have f:p≠0:=by intro e;rw [e] at h;simp at h
  have g:q≠0:=by intro e;rw [e] at h;simp at h
  unfold zx2;rw [if_neg (by decide)];have i: ¬(u.Lo=u.Hi/\v.Lo=v.Hi/\u.Lo.toNat&&&v.Lo.toNat=0):=by
   rintro ⟨c1,c2,c3⟩
   rw [show u.Lo=p by omega,show v.Lo=q by omega] at c3;exact h c3
  refine ji6 _ _ (if_pos ⟨by omega,by omega,i⟩) ⟨?_,⟨?_,?_⟩,?_,?_⟩ ⟨?_,⟨?_,?_⟩,?_,?_⟩
  all_goals simp only [Rt]
  all_goals omega
def uq5 {op} (a:17<=op/\op<=26) {nw p q}:isE nw (jh1 op) p q= !isE nw op p q:=by
 have b:op=17\/op=18\/op=19\/op=20\/op=21\/op=22\/op=23\/op=24\/op=25\/op=26:=by omega
 rcases b with rfl|rfl|rfl|rfl|rfl|rfl|rfl|rfl|rfl|rfl
 ·show decide (p≠q)= !decide (p=q);simp
 ·show decide (p=q)= !decide (p≠q);simp
 ·show decide (p<=q)= !decide (p>q);rw [W9];simp
 ·show decide (p<q)= !decide (p>=q);rw [W9];simp
 ·show decide (p>=q)= !decide (p<q);rw [W9];simp
 ·show decide (p>q)= !decide (p<=q);rw [W9];simp
 ·show decide (sgn nw p<=sgn nw q)= !decide (sgn nw p>sgn nw q);rw [W9];simp
 ·show decide (sgn nw p<sgn nw q)= !decide (sgn nw p>=sgn nw q);rw [W9];simp
 ·show decide (sgn nw p>=sgn nw q)= !decide (sgn nw p<sgn nw q);rw [W9];simp
 ·show decide (sgn nw p>sgn nw q)= !decide (sgn nw p<=sgn nw q);rw [W9];simp
def qe9 {op} (a:17<=op/\op<=26):17<=jh1 op/\jh1 op<=26/\(jh1 op>=23↔op>=23):=by
 unfold jh1
 repeat' split
 all_goals omega
def wl5 {op} (j:17<=op/\op<=27) {nw yes u v} (f:SpOk nw u) (g:SpOk nw v) {p q} (c:Hs u p) (d:Hs v q) (h:isE nw op p q=yes):Snd (qc9 nw op yes u v) u v p q:=by
 unfold qc9;by_cases a:op=27
 ·subst a;rw [if_pos rfl];exact wf8 f g c d h
 ·rw [if_neg a];have b: ∀o:Int,17<=o/\o<=26->isE nw o p q=true->Snd (if o>=23 then zr3 nw o u v else zx7 o u v) u v p q:=by
   intro o e i;split
   ·exact vh3 (by omega) f g c d i
   ·exact qf6 (by omega) c d i
  cases yes with
  |true=>exact b op (by omega) h
  |false=>
   have e:=qe9 (op:=op) (by omega);exact b (jh1 op) ⟨e.1,e.2.1⟩ (by rw [uq5 (by omega),h];rfl)
def uk9 {s nw} (h:q8 s.Lo/\q8 s.Hi) (b:s.Lo<=s.Hi) (a:s.Hi<=j9 nw):qh s nw=s:=by
 cases nw with
 |false=>rfl
 |true=>
  have a:s.Hi<=4294967295:=a;unfold qh;simp only [W5,W8,if_false,gv8,yj9 h.1,yj9 h.2];rw [if_neg (by simp;omega),show s.Lo%4294967296=s.Lo by omega,show s.Hi%4294967296=s.Hi by omega]
def wj7 {nw p} (h:0<=p/\p<=j9 nw):yc5 nw p=p:=by
 cases nw with
 |false=>rfl
 |true=>have a:p<=4294967295:=h.2;show p%4294967296=p;omega
def uk3 {op} (g:17<=op/\op<=27) {nw yes a b} (k:q8 a.Lo/\q8 a.Hi) (l:q8 b.Lo/\q8 b.Hi) (c:a.Lo<=a.Hi) (d:b.Lo<=b.Hi) {p q} (f:Hs a p) (u:Hs b q) (h:isE nw op (yc5 nw p) (yc5 nw q)=yes):
  (zq9 op nw yes a b).2.2=true/\Rt (zq9 op nw yes a b).1/\Rt (zq9 op nw yes a b).2.1/\Hs (zq9 op nw yes a b).1 p/\Hs (zq9 op nw yes a b).2.1 q/\Wi (zq9 op nw yes a b).1 a/\Wi (zq9 op nw yes a b).2.1 b:=by
 obtain ⟨x,y,e,o,m,n,v,w,z⟩:=wl5 g (nw:=nw) (yes:=yes) (zl5 k c) (zl5 l d) (jr6 k f) (jr6 l u) h;rw [jr7 g k l c d,e];have i: ∀(s x:j6) (p:Int),(q8 s.Lo/\q8 s.Hi)->s.Lo<=s.Hi->Hs s p->Rt x->Hs x (yc5 nw p)->Wi x (qh s nw)->Rt (if s.Hi>j9 nw then s else x)/\Hs (if s.Hi>j9 nw then s else x) p/\Wi (if s.Hi>j9 nw then s else x) s:=by
  intro s x p A j f o m n;split
  ·exact ⟨j,f,W7 _,W7 _⟩
  ·rename_i B;rw [uk9 A j (by omega)] at n;rw [wj7 (by have:=f.1;have:=f.2;omega)] at m;exact ⟨o,m,n⟩
 have r:=i a x p k c f o n w;have t:=i b y q l d u m v z;exact ⟨rfl,r.1,t.1,r.2.1,t.2.1,r.2.2,t.2.2⟩
end Go.Y
