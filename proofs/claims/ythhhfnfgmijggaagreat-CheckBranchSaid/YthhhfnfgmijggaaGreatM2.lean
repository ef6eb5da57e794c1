import Derived.Test.YthhhfnfgmijggaaGreatIb
import Derived.Test.YthhhfnfgmijggaaGreatM1
import Derived.Test.YthhhfnfgmijggaaGreatIa
import Derived.Test.YthhhfnfgmijggaaGreatIc
namespace Go.Y
open Go.RowKit Go.V Go.X Go.Proofs
def zm9 (x:Int):Prop:=x=1\/x=2\/x=4\/x=8
instance (x:Int):Decidable (zm9 x):=by unfold zm9;infer_instance
def zh3 (b:List Bool) (at_ sz:Int):Int:=if b.length≠512\/ ¬zm9 sz then 2 else if at_< -512\/at_> -sz then 112 else 0
def jk9 (b:List Bool) (p:Nat):Nat->List Bool
 |0=>b
 |k+1=>(jk9 b p k).set (p+k) true
theorem yz0 (b:List Bool) (p:Nat): ∀k,(jk9 b p k).length=b.length
 |0=>rfl
 |k+1=>by rw [jk9,Q1,yz0 b p k]
theorem vb0 {b:List Bool} {at_ sz:Int} (h:zh3 b at_ sz=0):b.length=512/\zm9 sz/\ -512<=at_/\at_<= -sz:=by
 unfold zh3 at h;split at h
 ·cases h
 ·rename_i h1;split at h
  ·cases h
  ·rename_i h2;exact ⟨by omega,Classical.not_not.1 fun hn=>h1 (.inr hn),by omega,by omega⟩
def qb3 (b:List Bool) (at_ sz:Int):List Bool×Int:=if zh3 b at_ sz=0 then (jk9 b (at_+512).toNat sz.toNat,0) else ([],zh3 b at_ sz)
def vg8 (b:List Bool) (p m:Nat) (k:Nat):Bool:=(List.range' k (m-k)).all fun i=>b.getD (p+i) false
theorem kc1 (b:List Bool) (p m k:Nat) (h:k<m):vg8 b p m k=(b.getD (p+k) false&&vg8 b p m (k+1)):=by
 unfold vg8;obtain ⟨d,hd⟩: ∃d,m-k=d+1:=⟨m-k-1,by omega⟩;rw [hd,List.range'_succ,List.all_cons,show m-(k+1)=d by omega]
theorem kn1 (b:List Bool) (p m:Nat):vg8 b p m m=true:=by unfold vg8;simp
def ki5 (b:List Bool) (at_ sz:Int):Int:=if zh3 b at_ sz=0 then (if vg8 b (at_+512).toNat sz.toNat 0=true then 0 else 110) else zh3 b at_ sz
def yb0 (a b r:List Bool):Nat->List Bool
 |0=>r
 |k+1=>(yb0 a b r k).set k (a.getD k false&&b.getD k false)
theorem yy8 (a b r:List Bool): ∀k,(yb0 a b r k).length=r.length
 |0=>rfl
 |k+1=>by rw [yb0,Q1,yy8 a b r k]
theorem yt7 (a b r:List Bool) (j:Nat): ∀k,(yb0 a b r k)[j]?=if j<k/\j<r.length then some (a.getD j false&&b.getD j false) else r[j]?
 |0=>by simp [yb0]
 |k+1=>by
  rw [yb0,List.getElem?_set,yt7 a b r j k,yy8];by_cases hjk:k=j
  ·subst hjk;simp only [Nat.lt_irrefl,false_and,if_false,true_and,if_true];by_cases hl:k<r.length
   ·rw [if_pos hl,if_pos ⟨by omega,hl⟩]
   ·rw [if_neg hl,if_neg (fun h=>hl h.2),Y5 (by omega)]
  ·rw [if_neg hjk];by_cases hl:j<k/\j<r.length
   ·rw [if_pos hl,if_pos ⟨by omega,hl.2⟩]
   ·rw [if_neg hl,if_neg (fun h=>hl ⟨by omega,h.2⟩)]
def vh1 (a b:List Bool):List Bool:=if a.length=512/\b.length=512 then yb0 a b (List.replicate 512 false) 512 else []
theorem qi8 (b:List Bool) (h:b.length=512):qbc v9 b=some ((),.inl (b,())):=by
 rw [gc2,show (((b.length:Nat):Int) != 512)=false by simp [h],j6,if_pos (by omega)]
theorem kg7 (b:List Bool) (h: ¬b.length=512):qbc v9 b=some ((),.inr (2,())):=by
 rw [gc2,show (((b.length:Nat):Int) != 512)=true by simp only [bne_iff_ne,ne_eq];omega,j8]
def qf6 (x:Int):Bool:=decide (zm9 x)
theorem wg0 {R:Type} (x:Int) (f:Bool->Option R):q7 (x==1) (f (x==1)) (q7 (x==2) (f (x==2)) (q7 (x==4) (f (x==4)) (f (x==8))))=f (qf6 x):=by
 by_cases h1:x=1
 ·subst h1;rfl
 by_cases h2:x=2
 ·subst h2;rfl
 by_cases h4:x=4
 ·subst h4;rfl
 by_cases h8:x=8
 ·subst h8;rfl
 have hn:qf6 x=false:=W4 (by unfold zm9;omega);rw [show (x==1)=false by simpa using h1,show (x==2)=false by simpa using h2,show (x==4)=false by simpa using h4,show (x==8)=false by simpa using h8,hn];rfl
theorem ux5 (b:List Bool) (hl:b.length=512) (at_ sz:Int):qj v9 b at_ sz=some (((b,()),()),if zh3 b at_ sz=0 then .inl (((at_+512).toNat,sz.toNat),()) else .inr (zh3 b at_ sz,())):=by
 obtain ⟨n,e⟩: ∃n:Nat,(v9:Nat)=n+1+1+1+1:=⟨999999996,rfl⟩;rw [uq1,wg0 sz (fun c=>qf9 v9 at_ sz c b),e,km0];unfold zh3 qf6;by_cases hs:zm9 sz
 ·rw [W3 hs,j8,kv6,if_neg (c:=b.length≠512\/ ¬zm9 sz) (fun h=>h.elim (fun h=>h hl) (fun h=>h hs))];have hs':=hs;unfold zm9 at hs';rw [ze0 (x:=0-sz) (by omega),Int.zero_sub];by_cases h1:at_< -512
  ·rw [W3 h1,j8,jm6,j8,if_pos (c:=at_< -512\/at_> -sz) (.inl h1),if_neg (by decide)]
  ·by_cases h2:at_> -sz
   ·rw [W4 h1,j6,jm6,W3 h2,j8,if_pos (c:=at_< -512\/at_> -sz) (.inr h2),if_neg (by decide)]
   ·rw [W4 h1,j6,jm6,W4 h2,j6,if_neg (c:=at_< -512\/at_> -sz) (fun h=>h.elim h1 h2),if_pos rfl,km9,ze0 (x:=512+at_) (by omega),if_pos (by omega),if_pos (by omega),Int.add_comm 512 at_,Nat.add_zero,Nat.sub_zero]
 ·rw [W4 hs,j6,if_pos (c:=b.length≠512\/ ¬zm9 sz) (.inr hs),if_neg (by decide)]
theorem ut1 (b:List Bool) (hl:b.length=512) (at_ sz:Int):qi v9 b at_ sz=some ((),if zh3 b at_ sz=0 then .inl (List.take sz.toNat (List.drop (at_+512).toNat b),()) else .inr (zh3 b at_ sz,())):=by
 obtain ⟨n,e⟩: ∃n:Nat,(v9:Nat)=n+1+1+1+1:=⟨999999996,rfl⟩;rw [us7,wg0 sz (fun c=>qe8 v9 b at_ sz c),e,km3];unfold zh3 qf6;by_cases hs:zm9 sz
 ·rw [W3 hs,j8,kk5,if_neg (c:=b.length≠512\/ ¬zm9 sz) (fun h=>h.elim (fun h=>h hl) (fun h=>h hs))];have hs':=hs;unfold zm9 at hs';rw [ze0 (x:=0-sz) (by omega),Int.zero_sub];by_cases h1:at_< -512
  ·rw [W3 h1,j8,jp2,j8,if_pos (c:=at_< -512\/at_> -sz) (.inl h1),if_neg (by decide)]
  ·by_cases h2:at_> -sz
   ·rw [W4 h1,j6,jp2,W3 h2,j8,if_pos (c:=at_< -512\/at_> -sz) (.inr h2),if_neg (by decide)]
   ·rw [W4 h1,j6,jp2,W4 h2,j6,if_neg (c:=at_< -512\/at_> -sz) (fun h=>h.elim h1 h2),if_pos rfl,ku5,ze0 (x:=512+at_) (by omega),if_pos (by omega),if_pos (by omega),Int.add_comm 512 at_,List.drop_zero,Nat.sub_zero,
     show List.take (((512:Nat):Int).toNat-(at_+512).toNat) (List.drop (at_+512).toNat b)=List.drop (at_+512).toNat b from Q3 (by rw [Q6,hl];omega),
     if_pos (by rw [Q6,hl];omega)]
 ·rw [W4 hs,j6,if_pos (c:=b.length≠512\/ ¬zm9 sz) (.inr hs),if_neg (by decide)]
theorem jj8 {b:List Bool} (h: ¬b.length=512) (at_ sz:Int):zh3 b at_ sz=2:=by unfold zh3;rw [if_pos (.inl h)]
theorem set1 (b:List Bool) (at_ sz:Int):qal v9 b at_ sz=some (((b,()),(at_,()),(sz,()),()),if zh3 b at_ sz=0 then .inl (jk9 b (at_+512).toNat sz.toNat,()) else .inr (zh3 b at_ sz,())):=by
 rw [wy5];by_cases hl:b.length=512
 ·rw [qi8 b hl,j4];show (if 512<=b.length then j7 (qj v9 (List.take 512 (List.drop 0 b)) at_ sz) _ else none)=_;rw [if_pos (by omega),List.drop_zero,Q3 (by omega),ux5 b hl,j4];by_cases h:zh3 b at_ sz=0
  ·rw [if_pos h,if_pos h];obtain ⟨_,hs,h1,h2⟩:=vb0 h;unfold zm9 at hs;show yp4 v9 (at_+512).toNat sz.toNat ((sz.toNat:Nat):Int) 0 b at_ sz b=_;refine ve7 (fun n k=>yp4 n (at_+512).toNat sz.toNat ((sz.toNat:Nat):Int) (k:Int) b at_ sz (jk9 b (at_+512).toNat k)) 1 sz.toNat _ (fun n k hk=>?_) (fun n=>?_) v9 (by unfold v9;omega)
   ·show yp4 (n+1) _ _ _ (k:Int) _ _ _ _=yp4 n (at_+512).toNat sz.toNat ((sz.toNat:Nat):Int) ((k+1:Nat):Int) b at_ sz (jk9 b (at_+512).toNat (k+1));rw [jx6,W3 (by omega),j8,if_pos (by omega),nx hk (by omega),jk9,Z1]
   ·show yp4 (n+1) _ _ _ ((sz.toNat:Nat):Int) _ _ _ _=_;rw [jx6,W4 (by omega),j6]
  ·rw [if_neg h,if_neg h]
 ·rw [kg7 b hl,j4,jj8 hl,if_neg (by decide)]
theorem ur3 (b:List Bool) (at_ sz:Int):qcj v9 b at_ sz=some (qb3 b at_ sz):=by
 rw [uf4,ul5,set1,j4];unfold qb3;by_cases h:zh3 b at_ sz=0
 ·rw [if_pos h,if_pos h];show j7 (j7 (qcg 0) _) _=_;rw [ge4,j4,j4]
 ·rw [if_neg h,if_neg h];show j7 (j7 (qch 0 (zh3 b at_ sz)) _) _=_;rw [ge0,j4,j4]
theorem gz5 (b:List Bool) (p m k:Nat) (hk:k<m):(List.take m (List.drop p b)).getD k false=b.getD (p+k) false:=by
 rw [Y2,Y2,Z3,if_pos hk,Q5]
theorem ux2 (b:List Bool) (at_ sz:Int):qv v9 b at_ sz=some (((b,()),(at_,()),(sz,()),()),if zh3 b at_ sz=0 then (if vg8 b (at_+512).toNat sz.toNat 0=true then .inl (true,()) else .inr (110,())) else .inr (zh3 b at_ sz,())):=by
 rw [us1];by_cases hl:b.length=512
 ·rw [qi8 b hl,j4];show j7 (qi v9 b at_ sz) _=_;rw [ut1 b hl,j4];by_cases h:zh3 b at_ sz=0
  ·rw [if_pos h,if_pos h];obtain ⟨_,hs,h1,h2⟩:=vb0 h;unfold zm9 at hs;have hlen:(List.take sz.toNat (List.drop (at_+512).toNat b)).length=sz.toNat:=by rw [Y6,Q6,hl];omega
   show jd5 v9 (List.take sz.toNat (List.drop (at_+512).toNat b)) (((List.take sz.toNat (List.drop (at_+512).toNat b)).length:Nat):Int) 0 b at_ sz=_;rw [hlen];refine wh5 (fun n k=>jd5 n (List.take sz.toNat (List.drop (at_+512).toNat b)) ((sz.toNat:Nat):Int) (k:Int) b at_ sz) 2 sz.toNat (fun k=>some (((b,()),(at_,()),(sz,()),()),(if vg8 b (at_+512).toNat sz.toNat k=true then .inl (true,()) else .inr (110,())))) (fun n k hk=>?_) (fun n=>?_) sz.toNat 0 v9 (by omega) (by unfold v9;omega)
   ·show jd5 (n+1+1) _ _ (k:Int) _ _ _=_\/_;rw [show jd5 (n+1+1) (List.take sz.toNat (List.drop (at_+512).toNat b)) ((sz.toNat:Nat):Int) (k:Int) b at_ sz=q7 (!(b.getD ((at_+512).toNat+k) false)) (some (((b,()),(at_,()),(sz,()),()),.inr ((110:Int),()))) (jd5 n (List.take sz.toNat (List.drop (at_+512).toNat b)) ((sz.toNat:Nat):Int) ((k+1:Nat):Int) b at_ sz) by
     rw [qs2,W3 (by omega),j8,if_pos (by rw [hlen];omega),Z1,gz5 _ _ _ _ hk,kp8,nx hk (by omega)]]
    simp only [kc1 b _ _ k hk];cases b.getD ((at_+512).toNat+k) false with
    |true=>exact .inr ⟨rfl,rfl⟩
    |false=>exact .inl rfl
   ·show jd5 (n+1) _ _ ((sz.toNat:Nat):Int) _ _ _=_;rw [qs2,W4 (by omega),j6,kn1,if_pos rfl]
  ·rw [if_neg h,if_neg h]
 ·rw [kg7 b hl,j4,jj8 hl,if_neg (by decide)]
theorem uu0 (b:List Bool) (at_ sz:Int):qcf v9 b at_ sz=some (ki5 b at_ sz):=by
 rw [uf9,wm2,ux2,j4];unfold ki5;by_cases h:zh3 b at_ sz=0
 ·rw [if_pos h,if_pos h];by_cases h2:vg8 b (at_+512).toNat sz.toNat 0=true
  ·rw [if_pos h2,if_pos h2];show j7 (j7 (qey 0) _) _=_;rw [wx7,j4,j4]
  ·rw [if_neg h2,if_neg h2];show j7 (j7 (qdp 0 110) _) _=_;rw [gf0,j4,j4]
 ·rw [if_neg h,if_neg h];show j7 (j7 (qdp 0 (zh3 b at_ sz)) _) _=_;rw [gf0,j4,j4]
theorem vy5 (a b r:List Bool) (k:Nat):(yb0 a b r k).getD k false=r.getD k false:=by
 rw [Y2,yt7,if_neg (fun h=>Nat.lt_irrefl _ h.1),<-Y2]
theorem uv7 (a b:List Bool):qr v9 a b=some (((a,()),(b,()),()),if a.length=512/\b.length=512 then .inl (yb0 a b a 512,()) else .inr (2,())):=by
 rw [uw9];by_cases ha:a.length=512
 ·rw [qi8 a ha,j4];show (if 512<=a.length then j7 (qbc v9 b) _ else none)=_;rw [if_pos (by omega)];by_cases hb:b.length=512
  ·rw [qi8 b hb,j4,if_pos ⟨ha,hb⟩];show jd3 v9 b 0 a b (List.take 512 (List.drop 0 a))=_;rw [List.drop_zero,Q3 (by omega)];refine ve7 (fun n k=>jd3 n b (k:Int) a b (yb0 a b a k)) 2 512 _ (fun n k hk=>?_) (fun n=>?_) v9 (by unfold v9;omega)
   ·show jd3 (n+1+1) b (k:Int) a b (yb0 a b a k)=jd3 n b ((k+1:Nat):Int) a b (yb0 a b a (k+1));have e: ∀r,kh7 (n+1) b (k:Int) a b r=jd3 n b ((k+1:Nat):Int) a b r:=fun r=>by rw [ko9,nx hk (by omega)]
    rw [qv9,W3 (by omega),j8,if_pos (by omega),if_pos (by omega),e,e,if_pos (by omega),if_pos (by omega),if_pos (by omega),Nat.zero_add,Z1,vy5,yb0];cases a.getD k false<;>rfl
   ·show jd3 (n+1) b ((512:Nat):Int) a b _=_;rw [qv9,W4 (by omega),j6]
  ·rw [kg7 b hb,j4,if_neg (fun h=>hb h.2)]
 ·rw [kg7 a ha,j4,if_neg (fun h=>ha h.1)]
theorem vi3 (a b:List Bool) (ha:a.length=512):yb0 a b a 512=yb0 a b (List.replicate 512 false) 512:=by
 apply List.ext_getElem?;intro j;rw [yt7,yt7,Z9,ha];by_cases h:j<512/\j<512
 ·rw [if_pos h,if_pos h]
 ·rw [if_neg h,if_neg h,Y5 (by omega),Y5 (by rw [Z9];omega)]
theorem wf2 (a b:List Bool):qbo v9 a b=some (vh1 a b):=by
 rw [wy6,wt0,uv7,j4];unfold vh1;by_cases h:a.length=512/\b.length=512
 ·rw [if_pos h,if_pos h];show j7 (j7 (qcg 0) _) _=_;rw [ge4,j4,j4,vi3 a b h.1]
 ·rw [if_neg h,if_neg h];show j7 (j7 (qch 0 2) _) _=_;rw [ge0,j4,j4]
theorem uq0:qdd v9=some (List.replicate 512 false):=by rw [wm1,if_pos (by omega)]
end Go.Y
namespace Go.Y
open Go.RowKit Go.V Go.X Go.Proofs
theorem ww3 (x:Int):qet v9 [1,2,4,8] x=q7 (x==1) (some 0) (q7 (x==2) (some 1) (q7 (x==4) (some 2) (q7 (x==8) (some 3) (some (-1))))):=by kernel_rfl
def zg6 (x:Int):Bool:=x==1||(x==2||(x==4||x==8))
theorem zn4 (x:Int):qcx v9 [1,2,4,8] x=some (zg6 x):=by
 rw [ud4,ww3];unfold zg6;cases x==1<;>cases x==2<;>cases x==4<;>cases x==8<;>rfl
theorem kt1 (x a b:Int):qby v9 x a b=some (decide (a<=x)&&decide (x<=b)):=by rw [wv2,zv5]
def ya6 (n m:Int):Bool:=decide (0<=n)&&decide (n<=m)
def zk8 (i:Ins):Bool:=if i.UseImm=true then i.Src==0&&(decide (-2147483648<=i.Imm)&&decide (i.Imm<2147483648)) else ya6 i.Src 10&&i.Imm==0
def js5 (i:Ins):Bool:=decide (-32768<=i.Off)&&decide (i.Off<32768)
def zd3 (i:Ins):Bool:=
 if 1<=i.Op/\i.Op<=12 then ya6 i.Dst 9&&(zk8 i&&(i.Off==0&&i.Size==0))
 else if i.Op=13 then ya6 i.Dst 9&&(i.Src==0&&(!i.UseImm&&(i.Off==0&&(i.Imm==0&&i.Size==0))))
 else if i.Op=14 then ya6 i.Dst 9&&(ya6 i.Src 10&&(js5 i&&(zg6 i.Size&&(!i.Narrow&&(!i.UseImm&&i.Imm==0)))))
 else if i.Op=15 then ya6 i.Dst 10&&(js5 i&&(zg6 i.Size&&(zk8 i&& !i.Narrow)))
 else if i.Op=16 then js5 i&&(!i.Narrow&&(i.Dst==0&&(i.Src==0&&(!i.UseImm&&(i.Imm==0&&i.Size==0)))))
 else if 17<=i.Op/\i.Op<=27 then ya6 i.Dst 10&&(js5 i&&(zk8 i&&i.Size==0))
 else decide (i.Op=28)&&(!i.Narrow&&(i.Dst==0&&(i.Src==0&&(!i.UseImm&&(i.Off==0&&(i.Imm==0&&i.Size==0))))))
theorem vs7 (i:Ins):qbz v9 i=some (decide (16<=i.Op)&&decide (i.Op<=27)):=by rw [wn1,zv5]
theorem kt6 (op:Int):qbb v9 op=some (if 1<=op/\op<=12 then 201 else if op=13 then 193 else if op=14 then 181 else if op=15 then 186 else if op=16 then 144 else if 17<=op/\op<=27 then 218 else if op=28 then 128 else 0):=by
 rw [uf6];simp only [vu8,zo4]
 grind
theorem vt3 (i:Ins):qa v9 i=some (zd3 i):=by
 rw [uv9,kt6];obtain ⟨op,nw,d,s,u,off,imm,sz⟩:=i;simp only [j4];have tail: ∀(n:Nat) (f m:Int) (z:Bool) (x:Ins),vg6 (n+1) f m z op nw d s u off imm sz x.Op x.Narrow x.Dst x.Src x.UseImm x.Off x.Imm x.Size=
   some (f != 0&&((op==x.Op&&(nw==x.Narrow&&(d==x.Dst&&(s==x.Src&&(u==x.UseImm&&(off==x.Off&&(imm==x.Imm&&sz==x.Size)))))))&&((decide (0<=d)&&decide (d<=m))&&((decide (0<=s)&&decide (s<=10))&&((decide (-32768<=off)&&decide (off<=32767))&&((decide (-2147483648<=imm)&&decide (imm<=2147483647))&&z)))))):=by
  intro n f m z x;simp only [ku1,kt1,j4,zv5]
 have tail': ∀(n:Nat) (f m:Int) (z:Bool) (a0:Int) (a1:Bool) (a2 a3:Int) (a4:Bool) (a5 a6 a7:Int),vg6 (n+1) f m z op nw d s u off imm sz a0 a1 a2 a3 a4 a5 a6 a7=_:=fun n f m z a0 a1 a2 a3 a4 a5 a6 a7=>tail n f m z ⟨a0,a1,a2,a3,a4,a5,a6,a7⟩;by_cases h0:1<=op/\op<=12
 ·rw [if_pos h0];cases nw<;>cases u<;>simp only [zr8,zr7,zs0,zs5,zs7,zr9,zs9,zs3,zs6,tail',zn4,j4,Bool.not_true,Bool.not_false,j8,j6,show (zb1 .i64 201 3 != 0)=true from by decide,show (zb1 .i64 201 4 != 0)=false from by decide,show (zb1 .i64 201 8 != 0)=true from by decide,show (zb1 .i64 201 16 != 0)=false from by decide,show (zb1 .i64 201 32 != 0)=false from by decide,show (zb1 .i64 201 64 != 0)=true from by decide,show (zb1 .i64 201 1 != 0)=true from by decide,show (zb1 .i64 201 32==0)=true from by decide]<;>(refine congrArg some ?_;rw [Bool.eq_iff_iff];simp [zd3,zk8,ya6,js5, *]<;>grind)
 by_cases h1:op=13
 ·rw [if_neg h0,if_pos h1];cases nw<;>cases u<;>simp only [zr8,zr7,zs0,zs5,zs7,zr9,zs9,zs3,zs6,tail',zn4,j4,Bool.not_true,Bool.not_false,j8,j6,show (zb1 .i64 193 3 != 0)=true from by decide,show (zb1 .i64 193 4 != 0)=false from by decide,show (zb1 .i64 193 8 != 0)=false from by decide,show (zb1 .i64 193 16 != 0)=false from by decide,show (zb1 .i64 193 32 != 0)=false from by decide,show (zb1 .i64 193 64 != 0)=true from by decide,show (zb1 .i64 193 1 != 0)=true from by decide,show (zb1 .i64 193 32==0)=true from by decide]<;>(refine congrArg some ?_;rw [Bool.eq_iff_iff];simp [zd3,zk8,ya6,js5, *]<;>grind)
 by_cases h2:op=14
 ·rw [if_neg h0,if_neg h1,if_pos h2];cases nw<;>cases u<;>simp only [zr8,zr7,zs0,zs5,zs7,zr9,zs9,zs3,zs6,tail',zn4,j4,Bool.not_true,Bool.not_false,j8,j6,show (zb1 .i64 181 3 != 0)=true from by decide,show (zb1 .i64 181 4 != 0)=true from by decide,show (zb1 .i64 181 8 != 0)=false from by decide,show (zb1 .i64 181 16 != 0)=true from by decide,show (zb1 .i64 181 32 != 0)=true from by decide,show (zb1 .i64 181 64 != 0)=false from by decide,show (zb1 .i64 181 1 != 0)=true from by decide,show (zb1 .i64 181 32==0)=false from by decide]<;>(refine congrArg some ?_;rw [Bool.eq_iff_iff];simp [zd3,zk8,ya6,js5, *]<;>grind)
 by_cases h3:op=15
 ·rw [if_neg h0,if_neg h1,if_neg h2,if_pos h3];cases nw<;>cases u<;>simp only [zr8,zr7,zs0,zs5,zs7,zr9,zs9,zs3,zs6,tail',zn4,j4,Bool.not_true,Bool.not_false,j8,j6,show (zb1 .i64 186 3 != 0)=true from by decide,show (zb1 .i64 186 4 != 0)=false from by decide,show (zb1 .i64 186 8 != 0)=true from by decide,show (zb1 .i64 186 16 != 0)=true from by decide,show (zb1 .i64 186 32 != 0)=true from by decide,show (zb1 .i64 186 64 != 0)=false from by decide,show (zb1 .i64 186 1 != 0)=false from by decide,show (zb1 .i64 186 32==0)=false from by decide]<;>(refine congrArg some ?_;rw [Bool.eq_iff_iff];simp [zd3,zk8,ya6,js5, *]<;>grind)
 by_cases h4:op=16
 ·rw [if_neg h0,if_neg h1,if_neg h2,if_neg h3,if_pos h4];cases nw<;>cases u<;>simp only [zr8,zr7,zs0,zs5,zs7,zr9,zs9,zs3,zs6,tail',zn4,j4,Bool.not_true,Bool.not_false,j8,j6,show (zb1 .i64 144 3 != 0)=false from by decide,show (zb1 .i64 144 4 != 0)=false from by decide,show (zb1 .i64 144 8 != 0)=false from by decide,show (zb1 .i64 144 16 != 0)=true from by decide,show (zb1 .i64 144 32 != 0)=false from by decide,show (zb1 .i64 144 64 != 0)=false from by decide,show (zb1 .i64 144 1 != 0)=false from by decide,show (zb1 .i64 144 32==0)=true from by decide]<;>(refine congrArg some ?_;rw [Bool.eq_iff_iff];simp [zd3,zk8,ya6,js5, *]<;>grind)
 by_cases h5:17<=op/\op<=27
 ·rw [if_neg h0,if_neg h1,if_neg h2,if_neg h3,if_neg h4,if_pos h5];cases nw<;>cases u<;>simp only [zr8,zr7,zs0,zs5,zs7,zr9,zs9,zs3,zs6,tail',zn4,j4,Bool.not_true,Bool.not_false,j8,j6,show (zb1 .i64 218 3 != 0)=true from by decide,show (zb1 .i64 218 4 != 0)=false from by decide,show (zb1 .i64 218 8 != 0)=true from by decide,show (zb1 .i64 218 16 != 0)=true from by decide,show (zb1 .i64 218 32 != 0)=false from by decide,show (zb1 .i64 218 64 != 0)=true from by decide,show (zb1 .i64 218 1 != 0)=false from by decide,show (zb1 .i64 218 32==0)=true from by decide]<;>(refine congrArg some ?_;rw [Bool.eq_iff_iff];simp [zd3,zk8,ya6,js5, *]<;>grind)
 by_cases h6:op=28
 ·rw [if_neg h0,if_neg h1,if_neg h2,if_neg h3,if_neg h4,if_neg h5,if_pos h6];cases nw<;>cases u<;>simp only [zr8,zr7,zs0,zs5,zs7,zr9,zs9,zs3,zs6,tail',zn4,j4,Bool.not_true,Bool.not_false,j8,j6,show (zb1 .i64 128 3 != 0)=false from by decide,show (zb1 .i64 128 4 != 0)=false from by decide,show (zb1 .i64 128 8 != 0)=false from by decide,show (zb1 .i64 128 16 != 0)=false from by decide,show (zb1 .i64 128 32 != 0)=false from by decide,show (zb1 .i64 128 64 != 0)=false from by decide,show (zb1 .i64 128 1 != 0)=false from by decide,show (zb1 .i64 128 32==0)=true from by decide]<;>(refine congrArg some ?_;rw [Bool.eq_iff_iff];simp [zd3,zk8,ya6,js5, *]<;>grind)
 ·rw [if_neg h0,if_neg h1,if_neg h2,if_neg h3,if_neg h4,if_neg h5,if_neg h6];cases nw<;>cases u<;>simp only [zr8,zr7,zs0,zs5,zs7,zr9,zs9,zs3,zs6,tail',zn4,j4,Bool.not_true,Bool.not_false,j8,j6,show (zb1 .i64 0 3 != 0)=false from by decide,show (zb1 .i64 0 4 != 0)=false from by decide,show (zb1 .i64 0 8 != 0)=false from by decide,show (zb1 .i64 0 16 != 0)=false from by decide,show (zb1 .i64 0 32 != 0)=false from by decide,show (zb1 .i64 0 64 != 0)=false from by decide,show (zb1 .i64 0 1 != 0)=false from by decide,show (zb1 .i64 0 32==0)=true from by decide]<;>(refine congrArg some ?_;rw [Bool.eq_iff_iff];simp [zd3,zk8,ya6,js5, *]<;>grind)
theorem uk8 (x y:Int):qcd v9 x y=some (decide (x<y)):=by
 rw [ww4,ul4,j4];simp [zo4]
theorem ins1 (a:Int):qdo v9 [a]=some ([a],()):=by kernel_rfl
theorem ut0 (a b:Int):qdn v9 [a,b] 0 2=j7 (qcd v9 b a) (fun y=>q7 y (some ([b,a],())) (some ([a,b],()))):=by kernel_rfl
theorem ur7 (a b:Int):qdo v9 [a,b]=j7 (j7 (qdn v9 [a,b] 0 2) fun y=>some (y.1,())) fun y=>some (y.1,()):=by kernel_rfl
theorem ins2 (a b:Int):qdo v9 [a,b]=some (if b<a then [b,a] else [a,b],()):=by
 rw [ur7,ut0,uk8,j4];by_cases h:b<a
 ·rw [if_pos h,W3 h];rfl
 ·rw [if_neg h,W4 h];rfl
theorem cut1 (a b:Int):qew v9 [a,b] 1 1=some (([a,b],()),()):=by kernel_rfl
theorem com1 (a:Int):qer v9 [a]=some (([a],()),((0,1),())):=by kernel_rfl
theorem com2 (a b:Int):qer v9 [a,b]=q7 (b==a) (some (([a,0],()),((0,1),()))) (some (([a,b],()),((0,2),()))):=by kernel_rfl
theorem com3 (a b:Int):qex v9 [a,b] 1 1=some (([a,b],()),((1,1),())):=by kernel_rfl
def yh3 (i:Ins) (nx to:Int):List Int:=if i.Op=16 then [to] else if 17<=i.Op/\i.Op<=27 then (if to<nx then [to,nx] else if nx<to then [nx,to] else [nx]) else [nx]
def zl7 (l:List Ins) (at_:Int):List Int:=
 if 0<=at_/\at_<l.length then
  let i:=l.getD at_.toNat zb2
  if zd3 i=true/\i.Op≠28 then yh3 i (IntKind.i64.wrap (at_+1)) (IntKind.i64.wrap (IntKind.i64.wrap (at_+1)+i.Off)) else []
 else []
def un1 (y:List Int) (o n:Nat) (l:List Int):Prop:=o+n<=y.length/\List.take n (List.drop o y)=l
theorem gn8 (l:List Ins) (at_:Int): ∃y o n,qab v9 l at_=some ((),((y,o,n),()))/\un1 y o n (zl7 l at_):=by
 have key: ∀b,(b=false->0<=at_/\at_<((l.length:Nat):Int))-> ∃y o n,jf2 v9 l at_ b=some ((),((y,o,n),()))/\un1 y o n (if b=true then [] else yh3 (l.getD at_.toNat zb2) (IntKind.i64.wrap (at_+1)) (IntKind.i64.wrap (IntKind.i64.wrap (at_+1)+(l.getD at_.toNat zb2).Off))):=by
  intro b hb;rw [kc0,zo4];by_cases hbt:b=true
  ·rw [if_pos hbt,if_pos hbt];exact ⟨[],0,0,rfl,by simp,rfl⟩
  ·rw [if_neg hbt,if_neg hbt];have ha:=hb (by simpa using hbt);rw [if_pos ha,if_pos ha,vs7,j4];simp only [vz3,if_pos ha];generalize l.getD at_.toNat zb2=i;generalize IntKind.i64.wrap (at_+1)=nx;generalize IntKind.i64.wrap (nx+i.Off)=to;unfold yh3;by_cases h16:i.Op=16
   ·rw [if_pos h16,h16];refine ⟨[nx,to],1,1,?_,by simp,rfl⟩;have e1:(((([nx,to]:List Int).length:Nat):Int).toNat)-1=1:=rfl;rw [show (decide (16<=(16:Int))&&decide ((16:Int)<=27))=true from rfl,show ((16:Int)==16)=true from rfl,j8,j8,if_pos (by simp),e1,cut1,j4,com3,j4]
   ·rw [if_neg h16];have e16:(i.Op==16)=false:=by simpa using h16
    by_cases hj:17<=i.Op/\i.Op<=27
    ·rw [if_pos hj,e16,show (decide (16<=i.Op)&&decide (i.Op<=27))=true from by simp;omega,j8,j6,ins2,j4];by_cases h1:to<nx
     ·rw [if_pos h1,if_pos h1,com2,show (nx==to)=false from by simp;omega,j6,j4];exact ⟨_,_,_,rfl,by simp,rfl⟩
     ·rw [if_neg h1,if_neg h1,com2];by_cases h2:nx<to
      ·rw [if_pos h2,show (to==nx)=false from by simp;omega,j6,j4];exact ⟨_,_,_,rfl,by simp,rfl⟩
      ·rw [if_neg h2,show (to==nx)=true from by simp;omega,j8,j4];exact ⟨_,_,_,rfl,by simp,rfl⟩
    ·rw [if_neg hj,e16,show (decide (16<=i.Op)&&decide (i.Op<=27))=false from by simp;omega,j6,j6,ins1,j4,com1,j4];exact ⟨_,_,_,rfl,by simp,rfl⟩
 rw [uf3];unfold zl7;by_cases h1:at_<0
 ·rw [W3 h1,j8,if_neg (by omega)];simpa using key true (by simp)
 rw [W4 h1,j6];by_cases h2:at_>=((l.length:Nat):Int)
 ·rw [W3 h2,j8,if_neg (by omega)];simpa using key true (by simp)
 have ha:0<=at_/\at_<((l.length:Nat):Int):=by omega
 rw [W4 h2,j6,if_pos ha,if_pos ha,vt3,j4];simp only [if_pos ha];cases hr:zd3 (l.getD at_.toNat zb2) with
 |false=>simpa [j8] using key true (by simp)
 |true=>
  simp only [Bool.not_true,j6,true_and];by_cases h28:(l.getD at_.toNat zb2).Op=28
  ·rw [if_neg (fun h=>h h28),show ((l.getD at_.toNat zb2).Op==28)=true from by simpa using h28];simpa using key true (by simp)
  ·rw [if_pos h28,show ((l.getD at_.toNat zb2).Op==28)=false from by simpa using h28];simpa using key false (fun _=>ha)
theorem vz7 (l:List Ins) (a:Int):(zl7 l a).length<=400000000:=by
 unfold zl7 yh3;grind
def yr5 (code:Nat->Int):Nat->Nat->Option Fault
 |_,0=>none
 |k,m+1=>if code k=0 then yr5 code (k+1) m else some ⟨code k,(k:Int)⟩
theorem jx3 (code:Nat->Int): ∀m k,(∀j,k<=j->j<k+m->code j=0)->yr5 code k m=none
 |0,_,_=>rfl
 |m+1,k,h=>by
  unfold yr5;rw [if_pos (h k (by omega) (by omega))];exact jx3 code m (k+1) fun j h1 h2=>h j (by omega) (by omega)
theorem vg4 {α:Type} (f:Nat->Nat->Option α) (p:α->Fault) (code:Nat->Int) (c len b:Nat) (F:Fault)
  (step: ∀n k,k<len->b<=n->(code k=0/\f (n+c) k=f n (k+1))\/(code k≠0/\ ∃Y,f (n+c) k=some Y/\p Y=⟨code k,(k:Int)⟩))
  (hend:(∀k,k<len->code k=0)-> ∀n,b<=n-> ∃Y,f n len=some Y/\p Y=F):
  ∀m k n,k+m=len->c*m+b<=n->(∀j,j<k->code j=0)-> ∃Y,f n k=some Y/\p Y=(yr5 code k m).getD F
 |0,k,n,hk,hn,h=>by
  have:k=len:=by omega
  subst this;exact hend h n (by omega)
 |m+1,k,n,hk,hn,h=>by
  rw [Nat.mul_succ] at hn;obtain ⟨n',rfl⟩: ∃n',n=n'+c:=⟨n-c,by omega⟩;unfold yr5;rcases step n' k (by omega) (by omega) with ⟨h1,h2⟩|⟨h1,Y,h2,h3⟩
  ·rw [if_pos h1,h2];exact vg4 f p code c len b F step hend m (k+1) n' (by omega) (by omega) (fun j hj=>by
    by_cases e:j=k
    ·subst e;exact h1
    ·exact h j (by omega))
  ·rw [if_neg h1];exact ⟨Y,h2,h3⟩
def yg1 (xs:List Int) (r:List Bool):List Bool:=xs.foldl (fun r x=>r.set x.toNat true) r
def yv1 (l:List Ins) (r:List Bool) (k:Nat):List Bool:=if r.getD k false=true then yg1 (zl7 l (k:Int)) r else r
def stP (l:List Ins):Nat->List Bool
 |0=>(List.replicate l.length false).set 0 true
 |k+1=>yv1 l (stP l k) k
theorem ja9: ∀(xs:List Int) (r:List Bool),(yg1 xs r).length=r.length
 | [],_=>rfl
 |x::xs,r=>by
  show (yg1 xs (r.set x.toNat true)).length=_;rw [ja9 xs,Q1]
theorem qa7 (l:List Ins): ∀k,(stP l k).length=l.length
 |0=>by unfold stP;rw [Q1,Z9]
 |k+1=>by
  unfold stP yv1;split
  ·rw [ja9,qa7 l k]
  ·exact qa7 l k
theorem vb1 (r:List Bool) (k:Nat):r.set k (r.getD k false)=r:=by
 by_cases h:k<r.length
 ·rw [Y2,Y0 h];exact List.set_getElem_self h
 ·exact List.set_eq_of_length_le (by omega)
theorem ks4 (r:List Bool) (k j:Nat) (b:Bool):(r.set k b).getD j false=if k=j/\j<r.length then b else r.getD j false:=by
 rw [Y2,Y2,List.getElem?_set];by_cases h:k=j
 ·subst h;by_cases h2:k<r.length
  ·rw [if_pos rfl,if_pos h2,if_pos ⟨rfl,h2⟩];rfl
  ·rw [if_pos rfl,if_neg h2,if_neg (fun h=>h2 h.2),Y5 (by omega)]
 ·rw [if_neg h,if_neg (fun h'=>h h'.1)]
theorem ju7: ∀(xs:List Int) (r:List Bool) (j:Nat),(∀x∈xs,x.toNat≠j)->(yg1 xs r).getD j false=r.getD j false
 | [],_,_,_=>rfl
 |x::xs,r,j,h=>by
  show (yg1 xs (r.set x.toNat true)).getD j false=_;rw [ju7 xs _ j (fun y hy=>h y (Z4 _ hy)),ks4,if_neg (fun h'=>h x (List.mem_cons_self) h'.1)]
theorem vf4 (xs:List Int) (r:List Bool) (j:Nat) (h:j<xs.length):yg1 (xs.take (j+1)) r=(yg1 (xs.take j) r).set (xs.getD j 0).toNat true:=by
 unfold yg1;rw [List.take_add_one,List.foldl_append,Y0 h,Y2,Y0 h];rfl
def Fwd (l:List Ins):Prop:= ∀k,k<l.length-> ∀x∈zl7 l (k:Int),(k:Int)<x/\x<l.length
def c1 (l:List Ins) (k:Nat):Int:=if zd3 (l.getD k zb2)=true then 0 else 4
def kg1 (i:Ins):Bool:=decide (16<=i.Op)&&decide (i.Op<=27)
def c2 (l:List Ins) (k:Nat):Int:=if kg1 (l.getD k zb2)=true then (if (l.getD k zb2).Off<0 then 100 else if (k:Int)+1+(l.getD k zb2).Off>=(l.length:Int) then 101 else 0) else 0
def c3 (l:List Ins) (k:Nat):Int:=if k+1=l.length/\(l.getD k zb2).Op≠28/\(l.getD k zb2).Op≠16 then 102 else 0
def c4 (l:List Ins) (k:Nat):Int:=if (stP l (k+1)).getD k false=true then 0 else 103
def zz3 (l:List Ins):Fault:=
 if l.length=0 then ⟨6,0⟩ else if l.length>4096 then ⟨3,0⟩ else
  (yr5 (c1 l) 0 l.length).getD ((yr5 (c2 l) 0 l.length).getD ((yr5 (c3 l) 0 l.length).getD ((yr5 (c4 l) 0 l.length).getD ⟨0,0⟩)))
theorem jo8 {l:List Ins} {k:Nat} (h:c1 l k=0):zd3 (l.getD k zb2)=true:=by
 unfold c1 at h;split at h
 ·assumption
 ·cases h
theorem yy4 (i:Ins) (h:zd3 i=true): -32768<=i.Off/\i.Off<=32767/\1<=i.Op/\i.Op<=28:=by
 unfold zd3 at h
 grind [zk8,js5,ya6,zg6]
theorem wx8 {l:List Ins} (hl:l.length<=4096) (h1: ∀k,k<l.length->c1 l k=0) (h2: ∀k,k<l.length->c2 l k=0) (h3: ∀k,k<l.length->c3 l k=0):Fwd l:=by
 intro k hk x hx;have r:=jo8 (h1 k hk);have a2:=h2 k hk;have a3:=h3 k hk;have ro:=yy4 _ r;unfold c2 kg1 at a2;unfold c3 at a3;unfold zl7 at hx;rw [if_pos (by omega)] at hx;simp only [Z1] at hx;generalize l.getD k zb2=i at *;split at hx
 ·rename_i hc;obtain ⟨_,h28⟩:=hc;rw [ze0 (x:=(k:Int)+1) (by omega),ze0 (by omega)] at hx;unfold yh3 at hx;by_cases h16:i.Op=16
  ·rw [if_pos h16] at hx;simp only [Z0,List.not_mem_nil,or_false] at hx;subst hx;rw [if_pos (by simp;omega)] at a2;split at a2
   ·cases a2
   ·split at a2
    ·cases a2
    ·omega
  ·rw [if_neg h16] at hx;have hlast:k+1≠l.length:=by
    intro he;rw [if_pos ⟨he,h28,h16⟩] at a3;cases a3
   by_cases hj:17<=i.Op/\i.Op<=27
   ·rw [if_pos hj] at hx;rw [if_pos (by simp;omega)] at a2;split at a2
    ·cases a2
    ·split at a2
     ·cases a2
     ·split at hx
      ·simp only [Z0,List.not_mem_nil,or_false] at hx;rcases hx with rfl|rfl<;>omega
      ·split at hx
       ·simp only [Z0,List.not_mem_nil,or_false] at hx;rcases hx with rfl|rfl<;>omega
       ·simp only [Z0,List.not_mem_nil,or_false] at hx;subst hx;omega
   ·rw [if_neg hj] at hx;simp only [Z0,List.not_mem_nil,or_false] at hx;subst hx;omega
 ·cases hx
theorem jd8 (b:Bool) (x:Int):qay v9 b x=some (if b=true then x else 0):=by
 rw [ui0];cases b<;>rfl
theorem p1 (l:List Ins) (k:Nat) (hk:k<l.length):qcy v9 (k:Int) l=some (((l,()),()),(c1 l k,())):=by
 rw [wv4,if_pos (by omega),vt3,j4,jd8,j4,Z1];unfold c1;cases zd3 (l.getD k zb2)<;>rfl
theorem p2 (l:List Ins) (k:Nat) (hk:k<l.length) (hl:l.length<=4096) (h1:c1 l k=0):qcz v9 (k:Int) l=some (((l,()),()),(c2 l k,())):=by
 have ro:=yy4 _ (jo8 h1);rw [ul0,if_pos (by omega),if_pos (by omega),vs7,j4,Z1,ze0 (x:=(k:Int)+1) (by omega),ze0 (by omega),jd8];unfold c2 kg1;generalize l.getD k zb2=i at *;cases decide (16<=i.Op)&&decide (i.Op<=27) with
 |false=>rfl
 |true=>
  rw [Bool.not_true,j6,if_pos rfl];by_cases h:i.Off<0
  ·rw [W3 (by omega),j8,if_pos h]
  ·rw [W4 (by omega),j6,if_neg h,j4];by_cases h':(k:Int)+1+i.Off>=(l.length:Int)
   ·rw [W3 h',if_pos h'];rfl
   ·rw [W4 h',if_neg h'];rfl
theorem p3 (l:List Ins) (k:Nat) (hk:k<l.length) (hl:l.length<=4096):qda v9 (k:Int) l=some (((l,()),()),(c3 l k,())):=by
 rw [wv0,ze0 (by omega),zo4];unfold c3;simp only [Z1];by_cases h:k+1=l.length
 ·rw [if_pos (by simp;omega),if_pos (by omega),zo4];by_cases h28:(l.getD k zb2).Op=28
  ·rw [if_neg (by simpa using h28),if_neg (fun h'=>h'.2.1 h28),jd8,j4];rfl
  ·rw [if_pos (by simpa using h28),if_pos (by omega),jd8,j4];by_cases h16:(l.getD k zb2).Op=16
   ·rw [if_neg (c:=k+1=l.length/\(l.getD k zb2).Op≠28/\(l.getD k zb2).Op≠16) (fun h'=>h'.2.2 h16),h16];rfl
   ·rw [if_pos (c:=k+1=l.length/\(l.getD k zb2).Op≠28/\(l.getD k zb2).Op≠16) ⟨h,h28,h16⟩,if_pos (by simpa using h16)]
 ·rw [if_neg (by simp;omega),if_neg (fun h'=>h h'.1),jd8,j4];rfl
theorem wr5 {y xs:List Int} {o m:Nat} (h:un1 y o m xs) (j:Nat) (hj:j<m):y.getD (o+j) 0=xs.getD j 0/\xs.length=m:=by
 obtain ⟨h1,h2⟩:=h;subst h2;refine ⟨?_,by rw [Y6,Q6];omega⟩;rw [Y2,Y2,Z3,if_pos hj,Q5]
theorem ws6 (xs:List Int) (j:Nat) (hj:j<xs.length):xs.getD j 0∈xs:=by
 rw [Y2,Y0 hj];exact List.getElem_mem hj
theorem p4 {l:List Ins} (hl:l.length<=4096) (hf:Fwd l) (k:Nat) (hk:k<l.length):qu v9 (k:Int) l (stP l k)=some (((l,()),((),()),stP l (k+1),()),(c4 l k,())):=by
 obtain ⟨y,o,m,e,hp⟩:=gn8 l (k:Int);rw [uu8,e,j4];dsimp only;have hm:(zl7 l (k:Int)).length=m:=by
  rw [<-hp.2,Y6,Q6];have:=hp.1;omega
 have hlen:=qa7 l k;have hn:=vz7 l (k:Int);have hS: ∀j,(if (stP l k).getD k false=true then yg1 ((zl7 l (k:Int)).take j) (stP l k) else stP l k).length=l.length:=by
  intro j;split
  ·rw [ja9,hlen]
  ·exact hlen
 have hat: ∀j,(if (stP l k).getD k false=true then yg1 ((zl7 l (k:Int)).take j) (stP l k) else stP l k).getD k false=(stP l k).getD k false:=by
  intro j;split
  ·refine ju7 _ _ _ fun x hx=>?_;have:=hf k hk x (List.mem_of_mem_take hx);omega
  ·rfl
 have e0:(if (stP l k).getD k false=true then yg1 ((zl7 l (k:Int)).take 0) (stP l k) else stP l k)=stP l k:=by
  rw [List.take_zero];split<;>rfl
 have Q:=ve7 (fun n j=>jt9 n (k:Int) o m ((m:Nat):Int) ((j:Nat):Int) l (if (stP l k).getD k false=true then yg1 ((zl7 l (k:Int)).take j) (stP l k) else stP l k) y) 2 m (some (((l,()),((),()),stP l (k+1),()),(c4 l k,()))) (fun n j hj=>?_) (fun n=>?_) v9 (by unfold v9;omega)
 ·rw [e0] at Q;exact Q
 ·show jt9 (n+1+1) (k:Int) o m ((m:Nat):Int) ((j:Nat):Int) l _ y=jt9 n (k:Int) o m ((m:Nat):Int) ((j+1:Nat):Int) l _ y;have hx:=(wr5 hp j hj).1;have hb:=hf k hk _ (ws6 (zl7 l (k:Int)) j (by omega));rw [qw8,W3 (by omega),j8,if_pos (by omega),if_pos (by have:=hp.1;omega),Z1,hx];have e1:=hS j;have e2:=hat j;have e3:=vf4 (zl7 l (k:Int)) (stP l k) j (by omega);generalize (zl7 l (k:Int)).getD j 0=x at *;by_cases ht:(stP l k).getD k false=true
  ·simp only [if_pos ht] at e1 e2⊢;rw [e3];generalize yg1 ((zl7 l (k:Int)).take j) (stP l k)=r at *;have q1:0<=x/\x<((r.length:Nat):Int):=by omega
   have q2:0<=(k:Int)/\(k:Int)<((r.length:Nat):Int):=by omega
   simp only [if_pos q1,if_pos q2,vb6,nx (len:=m) hj (by omega),Z1,e2,ht,zo4,ite_self]
  ·simp only [if_neg ht] at e1 e2⊢;generalize hr:stP l k=r at *;have q1:0<=x/\x<((r.length:Nat):Int):=by omega
   have q2:0<=(k:Int)/\(k:Int)<((r.length:Nat):Int):=by omega
   simp only [if_pos q1,if_pos q2,vb6,nx (len:=m) hj (by omega),Z1,zo4];by_cases hz:r.getD x.toNat false=true
   ·rw [if_pos hz,<-hz,vb1]
   ·rw [if_neg hz,Bool.eq_false_iff.2 ht,<-Bool.eq_false_iff.2 hz,vb1]
 ·show jt9 (n+1) (k:Int) o m ((m:Nat):Int) ((m:Nat):Int) l _ y=_;have e1:=hS m;have e2:(if (stP l k).getD k false=true then yg1 ((zl7 l (k:Int)).take m) (stP l k) else stP l k)=stP l (k+1):=by
   rw [Q3 (by omega)];rfl
  rw [e2] at e1⊢;rw [qw8,W4 (by omega),j6,if_pos (by omega),jd8,j4,Z1];unfold c4;cases (stP l (k+1)).getD k false<;>rfl
theorem wd8 (l:List Ins):qdc v9 l=some (zz3 l):=by
 rw [wp5];unfold zz3;by_cases h0:l.length=0
 ·rw [if_pos h0,h0];rfl
 rw [if_neg h0,show (((l.length:Nat):Int)==0)=false from beq_eq_false_iff_ne.2 (by omega),j6];by_cases hl:l.length>4096
 ·rw [if_pos hl,W3 (by omega),j8]
 rw [if_neg hl,W4 (by omega),j6,if_pos (by omega),if_pos (by rw [Z9];omega),Z1];have key: ∃Y,qd v9 ((l.length:Nat):Int) l (stP l 0)=some Y/\Y.2.1=(yr5 (c1 l) 0 l.length).getD ((yr5 (c2 l) 0 l.length).getD ((yr5 (c3 l) 0 l.length).getD ((yr5 (c4 l) 0 l.length).getD ⟨0,0⟩))):=by
  rw [ux6];refine vg4 (fun n k=>jg6 n ((l.length:Nat):Int) ((l.length:Nat):Int) ((k:Nat):Int) l (stP l 0) 0 0) (fun Y=>Y.2.1) (c1 l) 1 l.length 50000 _ (fun n k hk hn=>?_) (fun z1 n hn=>?_) l.length 0 _ (by omega) (by omega) (by omega)
  ·obtain ⟨n,rfl⟩: ∃j,n=j+1:=⟨n-1,by omega⟩;show _\/_/\ ∃Y,jg6 (n+2) _ _ _ _ _ _ _=_/\_;by_cases hc:c1 l k=0
   ·refine .inl ⟨hc,?_⟩;show jg6 (n+2) _ _ _ _ _ _ _=jg6 (n+1) _ _ _ _ _ _ _;rw [jn7,W3 (by omega),j8,p1 l k hk,j4,hc,nx hk (by omega)];dsimp only;rw [show ((0:Int) != 0)=false from rfl,j6]
   ·refine .inr ⟨hc,?_⟩;rw [jn7,W3 (by omega),j8,p1 l k hk,j4];dsimp only;rw [show (c1 l k != 0)=true by simpa using hc,j8];exact ⟨_,rfl,rfl⟩
  obtain ⟨n,rfl⟩: ∃j,n=j+2:=⟨n-2,by omega⟩;show ∃Y,jg6 (n+2) _ _ _ _ _ _ _=_/\_;rw [jn7,W4 (by omega),j6];refine vg4 (fun n k=>yn3 n ((l.length:Nat):Int) ((l.length:Nat):Int) ((k:Nat):Int) l (stP l 0) 0 0) (fun Y=>Y.2.1) (c2 l) 1 l.length 40000 _ (fun n k hk hn=>?_) (fun z2 n hn=>?_) l.length 0 _ (by omega) (by omega) (by omega)
  ·obtain ⟨n,rfl⟩: ∃j,n=j+1:=⟨n-1,by omega⟩;show _\/_/\ ∃Y,yn3 (n+2) _ _ _ _ _ _ _=_/\_;by_cases hc:c2 l k=0
   ·refine .inl ⟨hc,?_⟩;show yn3 (n+2) _ _ _ _ _ _ _=yn3 (n+1) _ _ _ _ _ _ _;rw [yz2,W3 (by omega),j8,p2 l k hk (by omega) (z1 k hk),j4,hc,nx hk (by omega)];dsimp only;rw [show ((0:Int) != 0)=false from rfl,j6]
   ·refine .inr ⟨hc,?_⟩;rw [yz2,W3 (by omega),j8,p2 l k hk (by omega) (z1 k hk),j4];dsimp only;rw [show (c2 l k != 0)=true by simpa using hc,j8];exact ⟨_,rfl,rfl⟩
  obtain ⟨n,rfl⟩: ∃j,n=j+2:=⟨n-2,by omega⟩;show ∃Y,yn3 (n+2) _ _ _ _ _ _ _=_/\_;rw [yz2,W4 (by omega),j6];refine vg4 (fun n k=>yp6 n ((l.length:Nat):Int) ((l.length:Nat):Int) ((k:Nat):Int) l (stP l 0) 0 0) (fun Y=>Y.2.1) (c3 l) 1 l.length 30000 _ (fun n k hk hn=>?_) (fun z3 n hn=>?_) l.length 0 _ (by omega) (by omega) (by omega)
  ·obtain ⟨n,rfl⟩: ∃j,n=j+1:=⟨n-1,by omega⟩;show _\/_/\ ∃Y,yp6 (n+2) _ _ _ _ _ _ _=_/\_;by_cases hc:c3 l k=0
   ·refine .inl ⟨hc,?_⟩;show yp6 (n+2) _ _ _ _ _ _ _=yp6 (n+1) _ _ _ _ _ _ _;rw [yy3,W3 (by omega),j8,p3 l k hk (by omega),j4,hc,nx hk (by omega)];dsimp only;rw [show ((0:Int) != 0)=false from rfl,j6]
   ·refine .inr ⟨hc,?_⟩;rw [yy3,W3 (by omega),j8,p3 l k hk (by omega),j4];dsimp only;rw [show (c3 l k != 0)=true by simpa using hc,j8];exact ⟨_,rfl,rfl⟩
  obtain ⟨n,rfl⟩: ∃j,n=j+2:=⟨n-2,by omega⟩;show ∃Y,yp6 (n+2) _ _ _ _ _ _ _=_/\_;rw [yy3,W4 (by omega),j6];have hf:=wx8 (by omega) z1 z2 z3;refine vg4 (fun n k=>yo9 n ((l.length:Nat):Int) ((l.length:Nat):Int) ((k:Nat):Int) l (stP l k) 0 0) (fun Y=>Y.2.1) (c4 l) 1 l.length 20000 _ (fun n k hk hn=>?_) (fun z4 n hn=>?_) l.length 0 _ (by omega) (by omega) (by omega)
  ·obtain ⟨n,rfl⟩: ∃j,n=j+1:=⟨n-1,by omega⟩;show _\/_/\ ∃Y,yo9 (n+2) _ _ _ _ _ _ _=_/\_;by_cases hc:c4 l k=0
   ·refine .inl ⟨hc,?_⟩;show yo9 (n+2) _ _ _ _ _ _ _=yo9 (n+1) _ _ _ _ _ _ _;rw [ja8,W3 (by omega),j8,p4 (by omega) hf k hk,j4,hc,nx hk (by omega)];dsimp only;rw [show ((0:Int) != 0)=false from rfl,j6]
   ·refine .inr ⟨hc,?_⟩;rw [ja8,W3 (by omega),j8,p4 (by omega) hf k hk,j4];dsimp only;rw [show (c4 l k != 0)=true by simpa using hc,j8];exact ⟨_,rfl,rfl⟩
  obtain ⟨n,rfl⟩: ∃j,n=j+2:=⟨n-2,by omega⟩;show ∃Y,yo9 (n+2) _ _ _ _ _ _ _=_/\_;rw [ja8,W4 (by omega),j6];exact ⟨_,rfl,rfl⟩
 obtain ⟨Y,e1,e2⟩:=key;have e1:qd v9 ((l.length:Nat):Int) l ((List.replicate l.length false).set 0 true)=some Y:=e1;rw [e1,j4,e2]
theorem jw4 (code:Nat->Int): ∀m k F,yr5 code k m=some F-> ∃j,k<=j/\j<k+m/\code j≠0/\F=⟨code j,(j:Int)⟩
 |0,_,_,h=>by cases h
 |m+1,k,F,h=>by
  unfold yr5 at h;split at h
  ·obtain ⟨j,h1,h2,h3,h4⟩:=jw4 code m (k+1) F h;exact ⟨j,by omega,by omega,h3,h4⟩
  ·rename_i hc;cases h;exact ⟨k,by omega,by omega,hc,rfl⟩
theorem yc5 (code:Nat->Int): ∀m k,yr5 code k m=none-> ∀j,k<=j->j<k+m->code j=0
 |0,_,_,j,h1,h2=>by omega
 |m+1,k,h,j,h1,h2=>by
  unfold yr5 at h;split at h
  ·rename_i hc;by_cases e:j=k
   ·rw [e];exact hc
   ·exact yc5 code m (k+1) h j (by omega) (by omega)
  ·cases h
structure Okay (l:List Ins):Prop where
 pos:0<l.length
 len:l.length<=4096
 z1: ∀k,k<l.length->c1 l k=0
 z2: ∀k,k<l.length->c2 l k=0
 z3: ∀k,k<l.length->c3 l k=0
 z4: ∀k,k<l.length->c4 l k=0
theorem ym6 {o:Option Fault} {d:Fault} (h: ∀F,o=some F->F.Err≠0) (he:(o.getD d).Err=0):o=none/\d.Err=0:=by
 cases o with
 |none=>exact ⟨rfl,he⟩
 |some F=>exact absurd he (h F rfl)
theorem yu0 (code:Nat->Int) (m k:Nat) (F:Fault) (h:yr5 code k m=some F):F.Err≠0:=by
 obtain ⟨j,_,_,h3,rfl⟩:=jw4 code m k F h;exact h3
theorem we3 {l:List Ins} (h:(zz3 l).Err=0):Okay l:=by
 unfold zz3 at h;by_cases h0:l.length=0
 ·rw [if_pos h0] at h;cases h
 rw [if_neg h0] at h;by_cases h1:l.length>4096
 ·rw [if_pos h1] at h;cases h
 rw [if_neg h1] at h;obtain ⟨a1,h⟩:=ym6 (yu0 _ _ _) h;obtain ⟨a2,h⟩:=ym6 (yu0 _ _ _) h;obtain ⟨a3,h⟩:=ym6 (yu0 _ _ _) h;obtain ⟨a4,h⟩:=ym6 (yu0 _ _ _) h;exact ⟨by omega,by omega,fun k hk=>yc5 _ _ _ a1 k (by omega) (by omega),fun k hk=>yc5 _ _ _ a2 k (by omega) (by omega),fun k hk=>yc5 _ _ _ a3 k (by omega) (by omega),fun k hk=>yc5 _ _ _ a4 k (by omega) (by omega)⟩
end Go.Y
namespace Go.Y
open Go.RowKit Go.V Go.X Go.Proofs
theorem zo0 {x m:Int} (hx:0<=x) (_hm:0<m): ¬x.tmod m<0:=by
 have:=Int.tmod_nonneg m hx;omega
theorem do32 (op a b:Int) (ha:0<=b):X.qc v9 op 32 a b=some (je5 op 32 a b):=by
 obtain ⟨n,e⟩: ∃n:Nat,(v9:Nat)=n+1:=⟨999999999,rfl⟩;have hj: ∀c:Bool,c=(((op==4)||(op==5))&&(b==0))->X.vg9 (n+1) op c 32 a b=some (je5 op 32 a b):=fun c hc=>by
  rw [X.kl2,hc];unfold je5;cases hcc:(((op==(4:Int))||(op==(5:Int)))&&(b==(0:Int))) with
  |true=>rfl
  |false=>
   rw [j6,if_neg (show ¬(false=true) by decide)];by_cases h1:op=1
   ·subst h1;rw [if_pos (rfl:(1:Int)=1)];rw [if_pos (by decide:(((1:Int)==1)=true))];rw [X.uk3,j4];rfl
   by_cases h2:op=2
   ·subst h2;rw [if_neg (by decide: ¬((2:Int)=1)),if_pos (rfl:(2:Int)=2)];rw [if_neg (by decide: ¬(((2:Int)==1)=true)),if_pos (by decide:(((2:Int)==2)=true))];rw [X.ud1,j4];rfl
   by_cases h3:op=3
   ·subst h3;rw [if_neg (by decide: ¬((3:Int)=1)),if_neg (by decide: ¬((3:Int)=2)),if_pos (rfl:(3:Int)=3)];rw [if_neg (by decide: ¬(((3:Int)==1)=true)),if_neg (by decide: ¬(((3:Int)==2)=true)),if_pos (by decide:(((3:Int)==3)=true))];rw [X.wy4,j4];rfl
   by_cases h4:op=4
   ·subst h4;rw [if_neg (by decide: ¬((4:Int)=1)),if_neg (by decide: ¬((4:Int)=2)),if_neg (by decide: ¬((4:Int)=3)),if_pos (rfl:(4:Int)=4)];rw [if_neg (by decide: ¬(((4:Int)==1)=true)),if_neg (by decide: ¬(((4:Int)==2)=true)),if_neg (by decide: ¬(((4:Int)==3)=true)),if_pos (by decide:(((4:Int)==4)=true))];rw [X.wu3,if_neg (fun h=>by subst h;exact absurd hcc (by decide)),j4];rfl
   by_cases h5:op=5
   ·subst h5;rw [if_neg (by decide: ¬((5:Int)=1)),if_neg (by decide: ¬((5:Int)=2)),if_neg (by decide: ¬((5:Int)=3)),if_neg (by decide: ¬((5:Int)=4)),if_pos (rfl:(5:Int)=5)];rw [if_neg (by decide: ¬(((5:Int)==1)=true)),if_neg (by decide: ¬(((5:Int)==2)=true)),if_neg (by decide: ¬(((5:Int)==3)=true)),if_neg (by decide: ¬(((5:Int)==4)=true)),if_pos (by decide:(((5:Int)==5)=true))];rw [X.wy3,if_neg (fun h=>by subst h;exact absurd hcc (by decide)),j4];rfl
   by_cases h6:op=6
   ·subst h6;rw [if_neg (by decide: ¬((6:Int)=1)),if_neg (by decide: ¬((6:Int)=2)),if_neg (by decide: ¬((6:Int)=3)),if_neg (by decide: ¬((6:Int)=4)),if_neg (by decide: ¬((6:Int)=5)),if_pos (rfl:(6:Int)=6)];rw [if_neg (by decide: ¬(((6:Int)==1)=true)),if_neg (by decide: ¬(((6:Int)==2)=true)),if_neg (by decide: ¬(((6:Int)==3)=true)),if_neg (by decide: ¬(((6:Int)==4)=true)),if_neg (by decide: ¬(((6:Int)==5)=true)),if_pos (by decide:(((6:Int)==6)=true))];rw [X.wp8,j4];rfl
   by_cases h7:op=7
   ·subst h7;rw [if_neg (by decide: ¬((7:Int)=1)),if_neg (by decide: ¬((7:Int)=2)),if_neg (by decide: ¬((7:Int)=3)),if_neg (by decide: ¬((7:Int)=4)),if_neg (by decide: ¬((7:Int)=5)),if_neg (by decide: ¬((7:Int)=6)),if_pos (rfl:(7:Int)=7)];rw [if_neg (by decide: ¬(((7:Int)==1)=true)),if_neg (by decide: ¬(((7:Int)==2)=true)),if_neg (by decide: ¬(((7:Int)==3)=true)),if_neg (by decide: ¬(((7:Int)==4)=true)),if_neg (by decide: ¬(((7:Int)==5)=true)),if_neg (by decide: ¬(((7:Int)==6)=true)),if_pos (by decide:(((7:Int)==7)=true))];rw [X.ui6,j4];rfl
   by_cases h8:op=8
   ·subst h8;rw [if_neg (by decide: ¬((8:Int)=1)),if_neg (by decide: ¬((8:Int)=2)),if_neg (by decide: ¬((8:Int)=3)),if_neg (by decide: ¬((8:Int)=4)),if_neg (by decide: ¬((8:Int)=5)),if_neg (by decide: ¬((8:Int)=6)),if_neg (by decide: ¬((8:Int)=7)),if_pos (rfl:(8:Int)=8)];rw [if_neg (by decide: ¬(((8:Int)==1)=true)),if_neg (by decide: ¬(((8:Int)==2)=true)),if_neg (by decide: ¬(((8:Int)==3)=true)),if_neg (by decide: ¬(((8:Int)==4)=true)),if_neg (by decide: ¬(((8:Int)==5)=true)),if_neg (by decide: ¬(((8:Int)==6)=true)),if_neg (by decide: ¬(((8:Int)==7)=true)),if_pos (by decide:(((8:Int)==8)=true))];rw [X.uk1,j4];rfl
   by_cases h9:op=9
   ·subst h9;rw [if_neg (by decide: ¬((9:Int)=1)),if_neg (by decide: ¬((9:Int)=2)),if_neg (by decide: ¬((9:Int)=3)),if_neg (by decide: ¬((9:Int)=4)),if_neg (by decide: ¬((9:Int)=5)),if_neg (by decide: ¬((9:Int)=6)),if_neg (by decide: ¬((9:Int)=7)),if_neg (by decide: ¬((9:Int)=8)),if_pos (rfl:(9:Int)=9)];rw [if_neg (by decide: ¬(((9:Int)==1)=true)),if_neg (by decide: ¬(((9:Int)==2)=true)),if_neg (by decide: ¬(((9:Int)==3)=true)),if_neg (by decide: ¬(((9:Int)==4)=true)),if_neg (by decide: ¬(((9:Int)==5)=true)),if_neg (by decide: ¬(((9:Int)==6)=true)),if_neg (by decide: ¬(((9:Int)==7)=true)),if_neg (by decide: ¬(((9:Int)==8)=true)),if_pos (by decide:(((9:Int)==9)=true))];rw [X.uc8,if_neg (by decide),if_neg (zo0 ha (by decide)),j4];rfl
   by_cases h10:op=10
   ·subst h10;rw [if_neg (by decide: ¬((10:Int)=1)),if_neg (by decide: ¬((10:Int)=2)),if_neg (by decide: ¬((10:Int)=3)),if_neg (by decide: ¬((10:Int)=4)),if_neg (by decide: ¬((10:Int)=5)),if_neg (by decide: ¬((10:Int)=6)),if_neg (by decide: ¬((10:Int)=7)),if_neg (by decide: ¬((10:Int)=8)),if_neg (by decide: ¬((10:Int)=9)),if_pos (rfl:(10:Int)=10)];rw [if_neg (by decide: ¬(((10:Int)==1)=true)),if_neg (by decide: ¬(((10:Int)==2)=true)),if_neg (by decide: ¬(((10:Int)==3)=true)),if_neg (by decide: ¬(((10:Int)==4)=true)),if_neg (by decide: ¬(((10:Int)==5)=true)),if_neg (by decide: ¬(((10:Int)==6)=true)),if_neg (by decide: ¬(((10:Int)==7)=true)),if_neg (by decide: ¬(((10:Int)==8)=true)),if_neg (by decide: ¬(((10:Int)==9)=true)),if_pos (by decide:(((10:Int)==10)=true))];rw [X.wy1,if_neg (by decide),if_neg (zo0 ha (by decide)),j4];rfl
   by_cases h11:op=11
   ·subst h11;rw [if_neg (by decide: ¬((11:Int)=1)),if_neg (by decide: ¬((11:Int)=2)),if_neg (by decide: ¬((11:Int)=3)),if_neg (by decide: ¬((11:Int)=4)),if_neg (by decide: ¬((11:Int)=5)),if_neg (by decide: ¬((11:Int)=6)),if_neg (by decide: ¬((11:Int)=7)),if_neg (by decide: ¬((11:Int)=8)),if_neg (by decide: ¬((11:Int)=9)),if_neg (by decide: ¬((11:Int)=10)),if_pos (rfl:(11:Int)=11)];rw [if_neg (by decide: ¬(((11:Int)==1)=true)),if_neg (by decide: ¬(((11:Int)==2)=true)),if_neg (by decide: ¬(((11:Int)==3)=true)),if_neg (by decide: ¬(((11:Int)==4)=true)),if_neg (by decide: ¬(((11:Int)==5)=true)),if_neg (by decide: ¬(((11:Int)==6)=true)),if_neg (by decide: ¬(((11:Int)==7)=true)),if_neg (by decide: ¬(((11:Int)==8)=true)),if_neg (by decide: ¬(((11:Int)==9)=true)),if_neg (by decide: ¬(((11:Int)==10)=true)),if_pos (by decide:(((11:Int)==11)=true))];rw [X.ui9,if_neg (by decide),if_neg (zo0 ha (by decide)),j4];rfl
   by_cases h12:op=12
   ·subst h12;rw [if_neg (by decide: ¬((12:Int)=1)),if_neg (by decide: ¬((12:Int)=2)),if_neg (by decide: ¬((12:Int)=3)),if_neg (by decide: ¬((12:Int)=4)),if_neg (by decide: ¬((12:Int)=5)),if_neg (by decide: ¬((12:Int)=6)),if_neg (by decide: ¬((12:Int)=7)),if_neg (by decide: ¬((12:Int)=8)),if_neg (by decide: ¬((12:Int)=9)),if_neg (by decide: ¬((12:Int)=10)),if_neg (by decide: ¬((12:Int)=11)),if_pos (rfl:(12:Int)=12)];rw [if_neg (by decide: ¬(((12:Int)==1)=true)),if_neg (by decide: ¬(((12:Int)==2)=true)),if_neg (by decide: ¬(((12:Int)==3)=true)),if_neg (by decide: ¬(((12:Int)==4)=true)),if_neg (by decide: ¬(((12:Int)==5)=true)),if_neg (by decide: ¬(((12:Int)==6)=true)),if_neg (by decide: ¬(((12:Int)==7)=true)),if_neg (by decide: ¬(((12:Int)==8)=true)),if_neg (by decide: ¬(((12:Int)==9)=true)),if_neg (by decide: ¬(((12:Int)==10)=true)),if_neg (by decide: ¬(((12:Int)==11)=true)),if_pos (by decide:(((12:Int)==12)=true))];rw [X.ue5,j4];rfl
   by_cases h13:op=13
   ·subst h13;rw [if_neg (by decide: ¬((13:Int)=1)),if_neg (by decide: ¬((13:Int)=2)),if_neg (by decide: ¬((13:Int)=3)),if_neg (by decide: ¬((13:Int)=4)),if_neg (by decide: ¬((13:Int)=5)),if_neg (by decide: ¬((13:Int)=6)),if_neg (by decide: ¬((13:Int)=7)),if_neg (by decide: ¬((13:Int)=8)),if_neg (by decide: ¬((13:Int)=9)),if_neg (by decide: ¬((13:Int)=10)),if_neg (by decide: ¬((13:Int)=11)),if_neg (by decide: ¬((13:Int)=12)),if_pos (rfl:(13:Int)=13)];rw [if_neg (by decide: ¬(((13:Int)==1)=true)),if_neg (by decide: ¬(((13:Int)==2)=true)),if_neg (by decide: ¬(((13:Int)==3)=true)),if_neg (by decide: ¬(((13:Int)==4)=true)),if_neg (by decide: ¬(((13:Int)==5)=true)),if_neg (by decide: ¬(((13:Int)==6)=true)),if_neg (by decide: ¬(((13:Int)==7)=true)),if_neg (by decide: ¬(((13:Int)==8)=true)),if_neg (by decide: ¬(((13:Int)==9)=true)),if_neg (by decide: ¬(((13:Int)==10)=true)),if_neg (by decide: ¬(((13:Int)==11)=true)),if_neg (by decide: ¬(((13:Int)==12)=true)),if_pos (by decide:(((13:Int)==13)=true))];rw [X.wm8,j4];rfl
   rw [if_neg h1,if_neg h2,if_neg h3,if_neg h4,if_neg h5,if_neg h6,if_neg h7,if_neg h8,if_neg h9,if_neg h10,if_neg h11,if_neg h12,if_neg h13];rw [if_neg (by simpa using h1),if_neg (by simpa using h2),if_neg (by simpa using h3),if_neg (by simpa using h4),if_neg (by simpa using h5),if_neg (by simpa using h6),if_neg (by simpa using h7),if_neg (by simpa using h8),if_neg (by simpa using h9),if_neg (by simpa using h10),if_neg (by simpa using h11),if_neg (by simpa using h12),if_neg (by simpa using h13)]
 rw [X.uv5,e];cases h4:(op==(4:Int)) with
 |true=>rw [j8,hj _ (by rw [h4];rfl)]
 |false=>
  rw [j6];cases h5:(op==(5:Int)) with
  |true=>rw [j8,hj _ (by rw [h4,h5];rfl)]
  |false=>rw [j6,hj _ (by rw [h4,h5];rfl)]
theorem do64 (op a b:Int) (ha:0<=b):X.qav v9 op 64 a b=some (jq7 op 64 a b):=by
 obtain ⟨n,e⟩: ∃n:Nat,(v9:Nat)=n+1:=⟨999999999,rfl⟩;have hj: ∀c:Bool,c=(((op==4)||(op==5))&&(b==0))->X.js6 (n+1) op c 64 a b=some (jq7 op 64 a b):=fun c hc=>by
  rw [X.ka6,hc];unfold jq7;cases hcc:(((op==(4:Int))||(op==(5:Int)))&&(b==(0:Int))) with
  |true=>rfl
  |false=>
   rw [j6,if_neg (show ¬(false=true) by decide)];by_cases h1:op=1
   ·subst h1;rw [if_pos (rfl:(1:Int)=1)];rw [if_pos (by decide:(((1:Int)==1)=true))];rw [X.wt6,j4];rfl
   by_cases h2:op=2
   ·subst h2;rw [if_neg (by decide: ¬((2:Int)=1)),if_pos (rfl:(2:Int)=2)];rw [if_neg (by decide: ¬(((2:Int)==1)=true)),if_pos (by decide:(((2:Int)==2)=true))];rw [X.wz9,j4];rfl
   by_cases h3:op=3
   ·subst h3;rw [if_neg (by decide: ¬((3:Int)=1)),if_neg (by decide: ¬((3:Int)=2)),if_pos (rfl:(3:Int)=3)];rw [if_neg (by decide: ¬(((3:Int)==1)=true)),if_neg (by decide: ¬(((3:Int)==2)=true)),if_pos (by decide:(((3:Int)==3)=true))];rw [X.ug0,j4];rfl
   by_cases h4:op=4
   ·subst h4;rw [if_neg (by decide: ¬((4:Int)=1)),if_neg (by decide: ¬((4:Int)=2)),if_neg (by decide: ¬((4:Int)=3)),if_pos (rfl:(4:Int)=4)];rw [if_neg (by decide: ¬(((4:Int)==1)=true)),if_neg (by decide: ¬(((4:Int)==2)=true)),if_neg (by decide: ¬(((4:Int)==3)=true)),if_pos (by decide:(((4:Int)==4)=true))];rw [X.uj5,if_neg (fun h=>by subst h;exact absurd hcc (by decide)),j4];rfl
   by_cases h5:op=5
   ·subst h5;rw [if_neg (by decide: ¬((5:Int)=1)),if_neg (by decide: ¬((5:Int)=2)),if_neg (by decide: ¬((5:Int)=3)),if_neg (by decide: ¬((5:Int)=4)),if_pos (rfl:(5:Int)=5)];rw [if_neg (by decide: ¬(((5:Int)==1)=true)),if_neg (by decide: ¬(((5:Int)==2)=true)),if_neg (by decide: ¬(((5:Int)==3)=true)),if_neg (by decide: ¬(((5:Int)==4)=true)),if_pos (by decide:(((5:Int)==5)=true))];rw [X.ue4,if_neg (fun h=>by subst h;exact absurd hcc (by decide)),j4];rfl
   by_cases h6:op=6
   ·subst h6;rw [if_neg (by decide: ¬((6:Int)=1)),if_neg (by decide: ¬((6:Int)=2)),if_neg (by decide: ¬((6:Int)=3)),if_neg (by decide: ¬((6:Int)=4)),if_neg (by decide: ¬((6:Int)=5)),if_pos (rfl:(6:Int)=6)];rw [if_neg (by decide: ¬(((6:Int)==1)=true)),if_neg (by decide: ¬(((6:Int)==2)=true)),if_neg (by decide: ¬(((6:Int)==3)=true)),if_neg (by decide: ¬(((6:Int)==4)=true)),if_neg (by decide: ¬(((6:Int)==5)=true)),if_pos (by decide:(((6:Int)==6)=true))];rw [X.wu9,j4];rfl
   by_cases h7:op=7
   ·subst h7;rw [if_neg (by decide: ¬((7:Int)=1)),if_neg (by decide: ¬((7:Int)=2)),if_neg (by decide: ¬((7:Int)=3)),if_neg (by decide: ¬((7:Int)=4)),if_neg (by decide: ¬((7:Int)=5)),if_neg (by decide: ¬((7:Int)=6)),if_pos (rfl:(7:Int)=7)];rw [if_neg (by decide: ¬(((7:Int)==1)=true)),if_neg (by decide: ¬(((7:Int)==2)=true)),if_neg (by decide: ¬(((7:Int)==3)=true)),if_neg (by decide: ¬(((7:Int)==4)=true)),if_neg (by decide: ¬(((7:Int)==5)=true)),if_neg (by decide: ¬(((7:Int)==6)=true)),if_pos (by decide:(((7:Int)==7)=true))];rw [X.uh2,j4];rfl
   by_cases h8:op=8
   ·subst h8;rw [if_neg (by decide: ¬((8:Int)=1)),if_neg (by decide: ¬((8:Int)=2)),if_neg (by decide: ¬((8:Int)=3)),if_neg (by decide: ¬((8:Int)=4)),if_neg (by decide: ¬((8:Int)=5)),if_neg (by decide: ¬((8:Int)=6)),if_neg (by decide: ¬((8:Int)=7)),if_pos (rfl:(8:Int)=8)];rw [if_neg (by decide: ¬(((8:Int)==1)=true)),if_neg (by decide: ¬(((8:Int)==2)=true)),if_neg (by decide: ¬(((8:Int)==3)=true)),if_neg (by decide: ¬(((8:Int)==4)=true)),if_neg (by decide: ¬(((8:Int)==5)=true)),if_neg (by decide: ¬(((8:Int)==6)=true)),if_neg (by decide: ¬(((8:Int)==7)=true)),if_pos (by decide:(((8:Int)==8)=true))];rw [X.wz2,j4];rfl
   by_cases h9:op=9
   ·subst h9;rw [if_neg (by decide: ¬((9:Int)=1)),if_neg (by decide: ¬((9:Int)=2)),if_neg (by decide: ¬((9:Int)=3)),if_neg (by decide: ¬((9:Int)=4)),if_neg (by decide: ¬((9:Int)=5)),if_neg (by decide: ¬((9:Int)=6)),if_neg (by decide: ¬((9:Int)=7)),if_neg (by decide: ¬((9:Int)=8)),if_pos (rfl:(9:Int)=9)];rw [if_neg (by decide: ¬(((9:Int)==1)=true)),if_neg (by decide: ¬(((9:Int)==2)=true)),if_neg (by decide: ¬(((9:Int)==3)=true)),if_neg (by decide: ¬(((9:Int)==4)=true)),if_neg (by decide: ¬(((9:Int)==5)=true)),if_neg (by decide: ¬(((9:Int)==6)=true)),if_neg (by decide: ¬(((9:Int)==7)=true)),if_neg (by decide: ¬(((9:Int)==8)=true)),if_pos (by decide:(((9:Int)==9)=true))];rw [X.uj9,if_neg (by decide),if_neg (zo0 ha (by decide)),j4];rfl
   by_cases h10:op=10
   ·subst h10;rw [if_neg (by decide: ¬((10:Int)=1)),if_neg (by decide: ¬((10:Int)=2)),if_neg (by decide: ¬((10:Int)=3)),if_neg (by decide: ¬((10:Int)=4)),if_neg (by decide: ¬((10:Int)=5)),if_neg (by decide: ¬((10:Int)=6)),if_neg (by decide: ¬((10:Int)=7)),if_neg (by decide: ¬((10:Int)=8)),if_neg (by decide: ¬((10:Int)=9)),if_pos (rfl:(10:Int)=10)];rw [if_neg (by decide: ¬(((10:Int)==1)=true)),if_neg (by decide: ¬(((10:Int)==2)=true)),if_neg (by decide: ¬(((10:Int)==3)=true)),if_neg (by decide: ¬(((10:Int)==4)=true)),if_neg (by decide: ¬(((10:Int)==5)=true)),if_neg (by decide: ¬(((10:Int)==6)=true)),if_neg (by decide: ¬(((10:Int)==7)=true)),if_neg (by decide: ¬(((10:Int)==8)=true)),if_neg (by decide: ¬(((10:Int)==9)=true)),if_pos (by decide:(((10:Int)==10)=true))];rw [X.ud8,if_neg (by decide),if_neg (zo0 ha (by decide)),j4];rfl
   by_cases h11:op=11
   ·subst h11;rw [if_neg (by decide: ¬((11:Int)=1)),if_neg (by decide: ¬((11:Int)=2)),if_neg (by decide: ¬((11:Int)=3)),if_neg (by decide: ¬((11:Int)=4)),if_neg (by decide: ¬((11:Int)=5)),if_neg (by decide: ¬((11:Int)=6)),if_neg (by decide: ¬((11:Int)=7)),if_neg (by decide: ¬((11:Int)=8)),if_neg (by decide: ¬((11:Int)=9)),if_neg (by decide: ¬((11:Int)=10)),if_pos (rfl:(11:Int)=11)];rw [if_neg (by decide: ¬(((11:Int)==1)=true)),if_neg (by decide: ¬(((11:Int)==2)=true)),if_neg (by decide: ¬(((11:Int)==3)=true)),if_neg (by decide: ¬(((11:Int)==4)=true)),if_neg (by decide: ¬(((11:Int)==5)=true)),if_neg (by decide: ¬(((11:Int)==6)=true)),if_neg (by decide: ¬(((11:Int)==7)=true)),if_neg (by decide: ¬(((11:Int)==8)=true)),if_neg (by decide: ¬(((11:Int)==9)=true)),if_neg (by decide: ¬(((11:Int)==10)=true)),if_pos (by decide:(((11:Int)==11)=true))];rw [X.wo6,if_neg (by decide),if_neg (zo0 ha (by decide)),j4];rfl
   by_cases h12:op=12
   ·subst h12;rw [if_neg (by decide: ¬((12:Int)=1)),if_neg (by decide: ¬((12:Int)=2)),if_neg (by decide: ¬((12:Int)=3)),if_neg (by decide: ¬((12:Int)=4)),if_neg (by decide: ¬((12:Int)=5)),if_neg (by decide: ¬((12:Int)=6)),if_neg (by decide: ¬((12:Int)=7)),if_neg (by decide: ¬((12:Int)=8)),if_neg (by decide: ¬((12:Int)=9)),if_neg (by decide: ¬((12:Int)=10)),if_neg (by decide: ¬((12:Int)=11)),if_pos (rfl:(12:Int)=12)];rw [if_neg (by decide: ¬(((12:Int)==1)=true)),if_neg (by decide: ¬(((12:Int)==2)=true)),if_neg (by decide: ¬(((12:Int)==3)=true)),if_neg (by decide: ¬(((12:Int)==4)=true)),if_neg (by decide: ¬(((12:Int)==5)=true)),if_neg (by decide: ¬(((12:Int)==6)=true)),if_neg (by decide: ¬(((12:Int)==7)=true)),if_neg (by decide: ¬(((12:Int)==8)=true)),if_neg (by decide: ¬(((12:Int)==9)=true)),if_neg (by decide: ¬(((12:Int)==10)=true)),if_neg (by decide: ¬(((12:Int)==11)=true)),if_pos (by decide:(((12:Int)==12)=true))];rw [X.uh3,j4];rfl
   by_cases h13:op=13
   ·subst h13;rw [if_neg (by decide: ¬((13:Int)=1)),if_neg (by decide: ¬((13:Int)=2)),if_neg (by decide: ¬((13:Int)=3)),if_neg (by decide: ¬((13:Int)=4)),if_neg (by decide: ¬((13:Int)=5)),if_neg (by decide: ¬((13:Int)=6)),if_neg (by decide: ¬((13:Int)=7)),if_neg (by decide: ¬((13:Int)=8)),if_neg (by decide: ¬((13:Int)=9)),if_neg (by decide: ¬((13:Int)=10)),if_neg (by decide: ¬((13:Int)=11)),if_neg (by decide: ¬((13:Int)=12)),if_pos (rfl:(13:Int)=13)];rw [if_neg (by decide: ¬(((13:Int)==1)=true)),if_neg (by decide: ¬(((13:Int)==2)=true)),if_neg (by decide: ¬(((13:Int)==3)=true)),if_neg (by decide: ¬(((13:Int)==4)=true)),if_neg (by decide: ¬(((13:Int)==5)=true)),if_neg (by decide: ¬(((13:Int)==6)=true)),if_neg (by decide: ¬(((13:Int)==7)=true)),if_neg (by decide: ¬(((13:Int)==8)=true)),if_neg (by decide: ¬(((13:Int)==9)=true)),if_neg (by decide: ¬(((13:Int)==10)=true)),if_neg (by decide: ¬(((13:Int)==11)=true)),if_neg (by decide: ¬(((13:Int)==12)=true)),if_pos (by decide:(((13:Int)==13)=true))];rw [X.wo4,j4];rfl
   rw [if_neg h1,if_neg h2,if_neg h3,if_neg h4,if_neg h5,if_neg h6,if_neg h7,if_neg h8,if_neg h9,if_neg h10,if_neg h11,if_neg h12,if_neg h13];rw [if_neg (by simpa using h1),if_neg (by simpa using h2),if_neg (by simpa using h3),if_neg (by simpa using h4),if_neg (by simpa using h5),if_neg (by simpa using h6),if_neg (by simpa using h7),if_neg (by simpa using h8),if_neg (by simpa using h9),if_neg (by simpa using h10),if_neg (by simpa using h11),if_neg (by simpa using h12),if_neg (by simpa using h13)]
 rw [X.wz1,e];cases h4:(op==(4:Int)) with
 |true=>rw [j8,hj _ (by rw [h4];rfl)]
 |false=>
  rw [j6];cases h5:(op==(5:Int)) with
  |true=>rw [j8,hj _ (by rw [h4,h5];rfl)]
  |false=>rw [j6,hj _ (by rw [h4,h5];rfl)]
theorem gj1 (x:Int):u9 (IntKind.u32.wrap x):=by rw [ze2];omega
theorem vo0 (nw:Bool) (a b:Int) (hb:0<=b):qco v9 11 nw a b=some (zv2 11 nw a b):=by
 rw [wt8];cases nw with
 |true=>
  rw [j8,do32 _ _ _ (gj1 b).1,j4];have:je5 11 32 (IntKind.u32.wrap a) (IntKind.u32.wrap b)=(yl7 (IntKind.u32.wrap a) (IntKind.u32.wrap b) 32,0):=rfl;unfold zv2 zc9;rw [if_pos rfl,this];show some (IntKind.u64.wrap (yl7 _ _ 32),(0:Int))=some (yl7 _ _ 32,0);rw [zk9];exact ⟨(gj1 _).1,(gj1 _).2⟩
 |false=>rw [j6,do64 _ _ _ hb,j4];rfl
theorem uv3 (a b:Int):qdg v9 a b=some (yb4 a b):=by rw [wx4];rfl
theorem wd4: ∀i:Fin 256,(wh0[i.val]?).map (fun b=>(b.toNat:Int))=some (tab0.getD i.val 0):=by decide+kernel
theorem kz4: ∀i:Fin 256,0<=tab0.getD i.val 0/\tab0.getD i.val 0<=8:=by decide+kernel
theorem um9 (x:Int):0<=IntKind.u8.wrap x/\IntKind.u8.wrap x<256:=by rw [ym3];omega
theorem uw1 {R:Type} (x:Int) (K:Int->Option R):jd1 wh0 (IntKind.u8.wrap x) K=K (tab0.getD (IntKind.u8.wrap x).toNat 0):=by
 have h:=um9 x;have:=wd4 ⟨(IntKind.u8.wrap x).toNat,by omega⟩;unfold jd1;rw [if_pos h.1];simp only at this;cases hs:wh0[(IntKind.u8.wrap x).toNat]? with
 |none=>rw [hs] at this;cases this
 |some b=>rw [hs] at this;simp only [Z8,X0] at this;rw [<-this]
theorem up8 (x:Int):qo v9 x=some (jh2 x):=by
 obtain ⟨n,e⟩: ∃n:Nat,(v9:Nat)=n+1+1+1:=⟨999999997,rfl⟩;have j2: ∀s0 s2:Int,0<=s2/\s2<=1000->ke6 (n+1) s0 s2=some (s2+tab0.getD (IntKind.u8.wrap s0).toNat 0):=fun s0 s2 h=>by
  have h1:=um9 s0;have h2:=kz4 ⟨(IntKind.u8.wrap s0).toNat,by omega⟩;simp only at h2;rw [km2,uw1,ze0 (x:=tab0.getD _ 0) (by omega),ze0 (by omega)]
 have j1: ∀s0 s2:Int,0<=s2/\s2<=900->kh2 (n+1+1) s0 s2=some (if decide (s0>=(256:Int))=true then (s2+8)+tab0.getD (IntKind.u8.wrap (zc0 .u64 s0 8)).toNat 0 else s2+tab0.getD (IntKind.u8.wrap s0).toNat 0):=fun s0 s2 h=>by
  rw [km7,ze0 (by omega),j2 _ _ (by omega),j2 _ _ (by omega),zb9]
 have j0: ∀s0 s2:Int,0<=s2/\s2<=800->kg8 (n+1+1+1) s0 s2=some (if decide (s0>=(65536:Int))=true then (if decide (zc0 .u64 s0 16>=(256:Int))=true then (s2+16+8)+tab0.getD (IntKind.u8.wrap (zc0 .u64 (zc0 .u64 s0 16) 8)).toNat 0 else s2+16+tab0.getD (IntKind.u8.wrap (zc0 .u64 s0 16)).toNat 0) else if decide (s0>=(256:Int))=true then (s2+8)+tab0.getD (IntKind.u8.wrap (zc0 .u64 s0 8)).toNat 0 else s2+tab0.getD (IntKind.u8.wrap s0).toNat 0):=fun s0 s2 h=>by
  rw [kr0,ze0 (by omega),j1 _ _ (by omega),j1 _ _ (by omega),zb9]
 rw [uo6,e,j0 _ _ (by omega),j0 _ _ (by omega),zb9];unfold jh2;simp only [show (48:Int)+8=56 from rfl,show (16:Int)+8=24 from rfl,show (32:Int)+16=48 from rfl,show (32:Int)+8=40 from rfl,show (0:Int)+16=16 from rfl,show (0:Int)+8=8 from rfl]
end Go.Y
namespace Go.Y
open Go.RowKit Go.V Go.X Go.Proofs
theorem wf6 (x:Int): ¬zk5 x 1=0:=by unfold zk5;split<;>omega
end Go.Y
namespace Go.Y
open Go.RowKit Go.V Go.X Go.Proofs
theorem zw2 (nw:Bool):ql v9 nw=some (zi2 nw):=by rw [ut7];cases nw<;>rfl
theorem zc4 (s:q9):qk v9 s=some (w5 s):=by rw [uu6];rfl
theorem kx3 (x:Int):qan v9 x=some (zo6 x):=by rw [ws3];rfl
theorem ju0 (s:q9):X.qm v9 s=some (qm s):=by rw [X.uo0,kx3,j4];rfl
theorem wf8 (s:q9) (nw:Bool):X.qf v9 s nw=some (qf s nw):=by rw [X.uv4,zw2,j4,zb9,zb9];rfl
def wW (nw:Bool) (u v:q9):Work:=⟨u.Lo,u.Hi,v.Lo,v.Hi,nw,g9 nw,if nw then 32 else 64⟩
def tW (w:Work):Twork:=⟨⟨w.a_Lo,w.a_Hi⟩,⟨w.b_Lo,w.b_Hi⟩,w.narrow,w.most,w.size⟩
theorem zy5 (nw:Bool) (u v:q9):tW (wW nw u v)=wk nw u v:=rfl
theorem zp7 (nw:Bool) (a b:q9):X.qag v9 nw a b=some (wW nw (qf a nw) (qf b nw)):=by
 rw [X.uj7,wf8,j4,wf8,j4];cases nw<;>rfl
def pS (o:Option q9):Unit×((Span×Unit)⊕(Unit×Unit)):=((),match o with|some r=>.inl (r,())|none=>.inr ((),()))
theorem zh2 (c:Bool):qh v9 c=some ((),if c=true then .inl () else .inr ((),())):=by rw [uo5];cases c<;>rfl
theorem vk1 (w:Work) (x y:Int):X.qat v9 w x y=some (qat (tW w) x y):=by rw [X.uc7];rfl
theorem js3 (w:Work):X.qx v9 w=some (qx (tW w)):=by
 rw [X.uw3,ju0,j4,ju0,j4,zv5];rfl
theorem ga6 (x:Int):X.qbk v9 x=some (qbk x):=by
 have h:0<=jh2 x:=by
  have key: ∀k:Int,0<=tab0.getD (IntKind.u8.wrap k).toNat 0:=fun k=>by
   have h1:=um9 k;exact (kz4 ⟨(IntKind.u8.wrap k).toNat,by omega⟩).1
  unfold jh2
  repeat' split
  all_goals first|exact Int.add_nonneg (by decide) (key _)
 rw [X.wq7,up8,j4,if_neg (by omega)];rfl
theorem uo4 (w:Work):qbd v9 w=some (pS (zp4 (tW w))):=by
 obtain ⟨n,e⟩: ∃n:Nat,(v9:Nat)=n+1:=⟨999999999,rfl⟩;rw [ua7,zh2,j4,zh2,j4,e,vx0,vk1,j4];show _=some (pS (yg6 (zf1 (decide (w.b_Hi<=IntKind.u64.wrap (w.most-w.a_Hi))||decide (w.b_Lo>IntKind.u64.wrap (w.most-w.a_Lo)))) none _));cases decide (w.b_Hi<=IntKind.u64.wrap (w.most-w.a_Hi))<;>cases decide (w.b_Lo>IntKind.u64.wrap (w.most-w.a_Lo))<;>rfl
theorem uv0 (w:Work):qbe v9 w=some (pS (zq1 (tW w))):=by
 obtain ⟨n,e⟩: ∃n:Nat,(v9:Nat)=n+1:=⟨999999999,rfl⟩;rw [wp6,zh2,j4,zh2,j4,e,kc2,vk1,j4];show _=some (pS (yg6 (zf1 (decide (w.a_Lo>=w.b_Hi)||decide (w.a_Hi<w.b_Lo))) none _));cases decide (w.a_Lo>=w.b_Hi)<;>cases decide (w.a_Hi<w.b_Lo)<;>rfl
theorem uh9 (w:Work):qbf v9 w=some (pS (zp3 (tW w))):=by
 obtain ⟨n,e⟩: ∃n:Nat,(v9:Nat)=n+1:=⟨999999999,rfl⟩;rw [wu4,uv3,j4,zh2,j4,zh2,j4,e,vy9];show _=some (pS (yg6 (zf1 (((yb4 w.a_Hi w.b_Hi).1==(0:Int))&&decide ((yb4 w.a_Hi w.b_Hi).2<=w.most))) none _));cases ((yb4 w.a_Hi w.b_Hi).1==(0:Int))<;>cases decide ((yb4 w.a_Hi w.b_Hi).2<=w.most)<;>rfl
theorem uo2 (w:Work):X.qbr v9 w=some (qbr (tW w)):=by
 rw [X.ub8,if_neg (wf6 _),if_neg (wf6 _)];rfl
theorem us2 (w:Work):X.qbs v9 w=some (qbs (tW w)):=by
 rw [X.wu7,zb9];rfl
theorem up1 (w:Work):X.qbl v9 w=some (qbl (tW w)):=by
 rw [X.ww1,js3,j4,kx3,j4,zb9];rfl
theorem or_v (w:Work):X.qbm v9 w=some (qbm (tW w)):=by
 rw [X.uc1,js3,j4,kx3,j4,ga6,j4,zb9];rfl
theorem uu2 (w:Work):X.qbn v9 w=some (qbn (tW w)):=by
 rw [X.uj6,js3,j4,kx3,j4,ga6,j4,zb9];rfl
theorem up4 (w:Work):X.qbt v9 w=some (qbt (tW w)):=by rw [X.uj8];rfl
theorem us9 (w:Work):qdh v9 w=some (pS (zj6 (tW w))):=by
 rw [wt3,zh2,j4,vk1,j4];show _=some (pS (if (w.a_Hi==(0:Int))=true then some ⟨w.a_Lo,w.a_Hi⟩ else yg6 (zf1 (decide (w.a_Lo>(0:Int)))) none _));cases (w.a_Hi==(0:Int))<;>cases decide (w.a_Lo>(0:Int))<;>rfl
theorem uq7 (w:Work) (hs:0<w.size) (hb:0<=w.b_Lo):qbg v9 w=some (pS (zp6 (tW w))):=by
 obtain ⟨n,e⟩: ∃n:Nat,(v9:Nat)=n+1:=⟨999999999,rfl⟩;have ht:=zo0 hb hs;rw [wz0,if_neg (by omega),ju0,j4,if_neg ht,zh2,j4,zh2,j4,e,vz1,if_neg ht,if_neg ht];show _=some (pS (yg6 (zf1 (qm (⟨w.b_Lo,w.b_Hi⟩:q9)&&decide (w.a_Hi<=zc0 .u64 w.most (w.b_Lo.tmod w.size)))) none _));cases qm (⟨w.b_Lo,w.b_Hi⟩:q9)<;>cases decide (w.a_Hi<=zc0 .u64 w.most (w.b_Lo.tmod w.size))<;>rfl
theorem uo1 (w:Work) (hs:0<w.size) (hb:0<=w.b_Lo) (hc:0<=w.b_Hi):X.qaf v9 w=some (qaf (tW w)):=by
 obtain ⟨n,e⟩: ∃n:Nat,(v9:Nat)=n+1:=⟨999999999,rfl⟩;have ht:=zo0 hb hs;have hu:=zo0 hc hs;rw [X.wq9,ju0,j4,if_neg (by omega),if_neg (by omega),e,X.jx4,X.jx4,if_neg hu,if_neg ht,if_neg (by omega),if_neg (by omega),zb9,zb9];rfl
theorem qb0 (w:Work) (x:Int):X.qz v9 w x=some (qz (tW w) x):=by
 rw [X.ur4,if_neg (by rw [za4];omega)];rfl
theorem vo6 (w:Work) (s:q9):X.qao v9 w s=some (qao (tW w) s):=by
 rw [X.ue6,qb0,j4,qb0,j4];rfl
theorem uw0 (w:Work) (hb:0<=w.b_Lo):qbh v9 w=some (pS (zp1 (tW w))):=by
 obtain ⟨n,e⟩: ∃n:Nat,(v9:Nat)=n+1:=⟨999999999,rfl⟩;rw [wl7,ju0,j4,vo6,j4,zh2,j4,zh2,j4,e,vx6,vo0 _ _ _ hb,j4,vo0 _ _ _ hb,j4];show _=some (pS (yg6 (zf1 (qm (⟨w.b_Lo,w.b_Hi⟩:q9)&& !(qao (tW w) (⟨w.a_Lo,w.a_Hi⟩:q9)))) none _));cases qm (⟨w.b_Lo,w.b_Hi⟩:q9)<;>cases qao (tW w) (⟨w.a_Lo,w.a_Hi⟩:q9)<;>rfl
end Go.Y
namespace Go.Y
open Go.RowKit Go.V Go.X Go.Proofs
theorem doP (nw:Bool) (x:Option q9):(match (pS x).2 with| .inl z=>(j7 (qau nw z.1.Lo z.1.Hi) fun y=>some ((),((⟨y.2.1.1,y.2.1.2.1⟩:Span),())))| .inr _=>(j7 (qca nw 0 0) fun y=>some ((),((⟨y.2.1.1,y.2.1.2.1⟩:Span),()))))=some ((),(x.getD (zi2 nw),())):=by
 cases x with
 |none=>show j7 (qca nw 0 0) _=_;rw [wy0,zw2,j4,j4];rfl
 |some r=>show j7 (qau nw r.Lo r.Hi) _=_;rw [ge1,j4];rfl
theorem doT (nw:Bool) (r:q9):(j7 (qau nw r.Lo r.Hi) fun y=>some ((),((⟨y.2.1.1,y.2.1.2.1⟩:Span),())))=some ((),(r,())):=by rw [ge1,j4]
theorem doR (k:Int) (hk:1<=k/\k<=13) (nw:Bool) (a b:q9):span_Do k nw a b=if ((!w5 a)|| !w5 b)=true then zi2 nw else (zc3 k (wk nw (qf a nw) (qf b nw))).getD (zi2 nw):=by
 rw [zw5,vk0];unfold w5;by_cases h1:a.Lo<=a.Hi
 ·by_cases h2:b.Lo<=b.Hi
  ·rw [if_pos ⟨hk,h1,h2⟩,W3 h1,W3 h2];rfl
  ·rw [if_neg (fun h=>h2 h.2.2),W4 h2,W3 h1];rfl
 ·rw [if_neg (fun h=>h1 h.2.1),W4 h1];rfl
theorem do1 (nw:Bool) (a b:q9) (ha:u9 a.Lo/\u9 a.Hi) (hb:u9 b.Lo/\u9 b.Hi):qn v9 1 nw a b=some ((),(span_Do 1 nw a b,())):=by
 have hr: ∀w,zc3 1 w=zp4 w:=fun w=>by
  unfold zc3;rw [if_pos (rfl:(1:Int)=1)]
 rw [doR 1 (by decide),hr,yf6,zp5,j4,if_pos (rfl:(1:Int)=1),zc4,j4,zw2,j4,zc4,j4,zp7,j4];cases h1:w5 a with
 |false=>rfl
 |true=>
  cases h2:w5 b with
  |false=>rfl
  |true=>
   rw [Bool.not_true,j6,j6,uo4,j4,zy5];exact doP nw _
theorem do2 (nw:Bool) (a b:q9) (ha:u9 a.Lo/\u9 a.Hi) (hb:u9 b.Lo/\u9 b.Hi):qn v9 2 nw a b=some ((),(span_Do 2 nw a b,())):=by
 have hr: ∀w,zc3 2 w=zq1 w:=fun w=>by
  unfold zc3;rw [if_neg (by decide: ¬((2:Int)=1)),if_pos (rfl:(2:Int)=2)]
 rw [doR 2 (by decide),hr,yf6,zp5,j4,if_neg (by decide: ¬((2:Int)=1)),if_pos (rfl:(2:Int)=2),zc4,j4,zw2,j4,zc4,j4,zp7,j4];cases h1:w5 a with
 |false=>rfl
 |true=>
  cases h2:w5 b with
  |false=>rfl
  |true=>
   rw [Bool.not_true,j6,j6,uv0,j4,zy5];exact doP nw _
theorem do3 (nw:Bool) (a b:q9) (ha:u9 a.Lo/\u9 a.Hi) (hb:u9 b.Lo/\u9 b.Hi):qn v9 3 nw a b=some ((),(span_Do 3 nw a b,())):=by
 have hr: ∀w,zc3 3 w=zp3 w:=fun w=>by
  unfold zc3;rw [if_neg (by decide: ¬((3:Int)=1)),if_neg (by decide: ¬((3:Int)=2)),if_pos (rfl:(3:Int)=3)]
 rw [doR 3 (by decide),hr,yf6,zp5,j4,if_neg (by decide: ¬((3:Int)=1)),if_neg (by decide: ¬((3:Int)=2)),if_pos (rfl:(3:Int)=3),zc4,j4,zw2,j4,zc4,j4,zp7,j4];cases h1:w5 a with
 |false=>rfl
 |true=>
  cases h2:w5 b with
  |false=>rfl
  |true=>
   rw [Bool.not_true,j6,j6,uh9,j4,zy5];exact doP nw _
theorem do4 (nw:Bool) (a b:q9) (ha:u9 a.Lo/\u9 a.Hi) (hb:u9 b.Lo/\u9 b.Hi):qn v9 4 nw a b=some ((),(span_Do 4 nw a b,())):=by
 have hr: ∀w,zc3 4 w=some (qbr w):=fun w=>by
  unfold zc3;rw [if_neg (by decide: ¬((4:Int)=1)),if_neg (by decide: ¬((4:Int)=2)),if_neg (by decide: ¬((4:Int)=3)),if_pos (rfl:(4:Int)=4)]
 rw [doR 4 (by decide),hr,yf6,zp5,j4,if_neg (by decide: ¬((4:Int)=1)),if_neg (by decide: ¬((4:Int)=2)),if_neg (by decide: ¬((4:Int)=3)),if_pos (rfl:(4:Int)=4),zc4,j4,zw2,j4,zc4,j4,zp7,j4];cases h1:w5 a with
 |false=>rfl
 |true=>
  cases h2:w5 b with
  |false=>rfl
  |true=>
   rw [Bool.not_true,j6,j6,uo2,j4,zy5];exact doT nw _
theorem do5 (nw:Bool) (a b:q9) (ha:u9 a.Lo/\u9 a.Hi) (hb:u9 b.Lo/\u9 b.Hi):qn v9 5 nw a b=some ((),(span_Do 5 nw a b,())):=by
 have hr: ∀w,zc3 5 w=some (qbs w):=fun w=>by
  unfold zc3;rw [if_neg (by decide: ¬((5:Int)=1)),if_neg (by decide: ¬((5:Int)=2)),if_neg (by decide: ¬((5:Int)=3)),if_neg (by decide: ¬((5:Int)=4)),if_pos (rfl:(5:Int)=5)]
 rw [doR 5 (by decide),hr,yf6,zp5,j4,if_neg (by decide: ¬((5:Int)=1)),if_neg (by decide: ¬((5:Int)=2)),if_neg (by decide: ¬((5:Int)=3)),if_neg (by decide: ¬((5:Int)=4)),if_pos (rfl:(5:Int)=5),zc4,j4,zw2,j4,zc4,j4,zp7,j4];cases h1:w5 a with
 |false=>rfl
 |true=>
  cases h2:w5 b with
  |false=>rfl
  |true=>
   rw [Bool.not_true,j6,j6,us2,j4,zy5];exact doT nw _
theorem do6 (nw:Bool) (a b:q9) (ha:u9 a.Lo/\u9 a.Hi) (hb:u9 b.Lo/\u9 b.Hi):qn v9 6 nw a b=some ((),(span_Do 6 nw a b,())):=by
 have hr: ∀w,zc3 6 w=some (qbl w):=fun w=>by
  unfold zc3;rw [if_neg (by decide: ¬((6:Int)=1)),if_neg (by decide: ¬((6:Int)=2)),if_neg (by decide: ¬((6:Int)=3)),if_neg (by decide: ¬((6:Int)=4)),if_neg (by decide: ¬((6:Int)=5)),if_pos (rfl:(6:Int)=6)]
 rw [doR 6 (by decide),hr,yf6,zp5,j4,if_neg (by decide: ¬((6:Int)=1)),if_neg (by decide: ¬((6:Int)=2)),if_neg (by decide: ¬((6:Int)=3)),if_neg (by decide: ¬((6:Int)=4)),if_neg (by decide: ¬((6:Int)=5)),if_pos (rfl:(6:Int)=6),zc4,j4,zw2,j4,zc4,j4,zp7,j4];cases h1:w5 a with
 |false=>rfl
 |true=>
  cases h2:w5 b with
  |false=>rfl
  |true=>
   rw [Bool.not_true,j6,j6,up1,j4,zy5];exact doT nw _
theorem do7 (nw:Bool) (a b:q9) (ha:u9 a.Lo/\u9 a.Hi) (hb:u9 b.Lo/\u9 b.Hi):qn v9 7 nw a b=some ((),(span_Do 7 nw a b,())):=by
 have hr: ∀w,zc3 7 w=some (qbm w):=fun w=>by
  unfold zc3;rw [if_neg (by decide: ¬((7:Int)=1)),if_neg (by decide: ¬((7:Int)=2)),if_neg (by decide: ¬((7:Int)=3)),if_neg (by decide: ¬((7:Int)=4)),if_neg (by decide: ¬((7:Int)=5)),if_neg (by decide: ¬((7:Int)=6)),if_pos (rfl:(7:Int)=7)]
 rw [doR 7 (by decide),hr,yf6,zp5,j4,if_neg (by decide: ¬((7:Int)=1)),if_neg (by decide: ¬((7:Int)=2)),if_neg (by decide: ¬((7:Int)=3)),if_neg (by decide: ¬((7:Int)=4)),if_neg (by decide: ¬((7:Int)=5)),if_neg (by decide: ¬((7:Int)=6)),if_pos (rfl:(7:Int)=7),zc4,j4,zw2,j4,zc4,j4,zp7,j4];cases h1:w5 a with
 |false=>rfl
 |true=>
  cases h2:w5 b with
  |false=>rfl
  |true=>
   rw [Bool.not_true,j6,j6,or_v,j4,zy5];exact doT nw _
theorem do8 (nw:Bool) (a b:q9) (ha:u9 a.Lo/\u9 a.Hi) (hb:u9 b.Lo/\u9 b.Hi):qn v9 8 nw a b=some ((),(span_Do 8 nw a b,())):=by
 have hr: ∀w,zc3 8 w=some (qbn w):=fun w=>by
  unfold zc3;rw [if_neg (by decide: ¬((8:Int)=1)),if_neg (by decide: ¬((8:Int)=2)),if_neg (by decide: ¬((8:Int)=3)),if_neg (by decide: ¬((8:Int)=4)),if_neg (by decide: ¬((8:Int)=5)),if_neg (by decide: ¬((8:Int)=6)),if_neg (by decide: ¬((8:Int)=7)),if_pos (rfl:(8:Int)=8)]
 rw [doR 8 (by decide),hr,yf6,zp5,j4,if_neg (by decide: ¬((8:Int)=1)),if_neg (by decide: ¬((8:Int)=2)),if_neg (by decide: ¬((8:Int)=3)),if_neg (by decide: ¬((8:Int)=4)),if_neg (by decide: ¬((8:Int)=5)),if_neg (by decide: ¬((8:Int)=6)),if_neg (by decide: ¬((8:Int)=7)),if_pos (rfl:(8:Int)=8),zc4,j4,zw2,j4,zc4,j4,zp7,j4];cases h1:w5 a with
 |false=>rfl
 |true=>
  cases h2:w5 b with
  |false=>rfl
  |true=>
   rw [Bool.not_true,j6,j6,uu2,j4,zy5];exact doT nw _
theorem do9 (nw:Bool) (a b:q9) (ha:u9 a.Lo/\u9 a.Hi) (hb:u9 b.Lo/\u9 b.Hi):qn v9 9 nw a b=some ((),(span_Do 9 nw a b,())):=by
 have hr: ∀w,zc3 9 w=zp6 w:=fun w=>by
  unfold zc3;rw [if_neg (by decide: ¬((9:Int)=1)),if_neg (by decide: ¬((9:Int)=2)),if_neg (by decide: ¬((9:Int)=3)),if_neg (by decide: ¬((9:Int)=4)),if_neg (by decide: ¬((9:Int)=5)),if_neg (by decide: ¬((9:Int)=6)),if_neg (by decide: ¬((9:Int)=7)),if_neg (by decide: ¬((9:Int)=8)),if_pos (rfl:(9:Int)=9)]
 rw [doR 9 (by decide),hr,yf6,zp5,j4,if_neg (by decide: ¬((9:Int)=1)),if_neg (by decide: ¬((9:Int)=2)),if_neg (by decide: ¬((9:Int)=3)),if_neg (by decide: ¬((9:Int)=4)),if_neg (by decide: ¬((9:Int)=5)),if_neg (by decide: ¬((9:Int)=6)),if_neg (by decide: ¬((9:Int)=7)),if_neg (by decide: ¬((9:Int)=8)),if_pos (rfl:(9:Int)=9),zc4,j4,zw2,j4,zc4,j4,zp7,j4];cases h1:w5 a with
 |false=>rfl
 |true=>
  cases h2:w5 b with
  |false=>rfl
  |true=>
   have hu:=(zv7 (nw:=nw) ha (of_decide_eq_true h1)).u;have hv:=(zv7 (nw:=nw) hb (of_decide_eq_true h2)).u;have hs:0<(wW nw (qf a nw) (qf b nw)).size:=by unfold wW;cases nw;exact (by decide:(0:Int)<64);exact (by decide:(0:Int)<32)
   rw [Bool.not_true,j6,j6,uq7 _ hs hv.1.1,j4,zy5];exact doP nw _
theorem do10 (nw:Bool) (a b:q9) (ha:u9 a.Lo/\u9 a.Hi) (hb:u9 b.Lo/\u9 b.Hi):qn v9 10 nw a b=some ((),(span_Do 10 nw a b,())):=by
 have hr: ∀w,zc3 10 w=some (qaf w):=fun w=>by
  unfold zc3;rw [if_neg (by decide: ¬((10:Int)=1)),if_neg (by decide: ¬((10:Int)=2)),if_neg (by decide: ¬((10:Int)=3)),if_neg (by decide: ¬((10:Int)=4)),if_neg (by decide: ¬((10:Int)=5)),if_neg (by decide: ¬((10:Int)=6)),if_neg (by decide: ¬((10:Int)=7)),if_neg (by decide: ¬((10:Int)=8)),if_neg (by decide: ¬((10:Int)=9)),if_pos (rfl:(10:Int)=10)]
 rw [doR 10 (by decide),hr,yf6,zp5,j4,if_neg (by decide: ¬((10:Int)=1)),if_neg (by decide: ¬((10:Int)=2)),if_neg (by decide: ¬((10:Int)=3)),if_neg (by decide: ¬((10:Int)=4)),if_neg (by decide: ¬((10:Int)=5)),if_neg (by decide: ¬((10:Int)=6)),if_neg (by decide: ¬((10:Int)=7)),if_neg (by decide: ¬((10:Int)=8)),if_neg (by decide: ¬((10:Int)=9)),if_pos (rfl:(10:Int)=10),zc4,j4,zw2,j4,zc4,j4,zp7,j4];cases h1:w5 a with
 |false=>rfl
 |true=>
  cases h2:w5 b with
  |false=>rfl
  |true=>
   have hu:=(zv7 (nw:=nw) ha (of_decide_eq_true h1)).u;have hv:=(zv7 (nw:=nw) hb (of_decide_eq_true h2)).u;have hs:0<(wW nw (qf a nw) (qf b nw)).size:=by unfold wW;cases nw;exact (by decide:(0:Int)<64);exact (by decide:(0:Int)<32)
   rw [Bool.not_true,j6,j6,uo1 _ hs hv.1.1 hv.2.1,j4,zy5];exact doT nw _
theorem do11 (nw:Bool) (a b:q9) (ha:u9 a.Lo/\u9 a.Hi) (hb:u9 b.Lo/\u9 b.Hi):qn v9 11 nw a b=some ((),(span_Do 11 nw a b,())):=by
 have hr: ∀w,zc3 11 w=zp1 w:=fun w=>by
  unfold zc3;rw [if_neg (by decide: ¬((11:Int)=1)),if_neg (by decide: ¬((11:Int)=2)),if_neg (by decide: ¬((11:Int)=3)),if_neg (by decide: ¬((11:Int)=4)),if_neg (by decide: ¬((11:Int)=5)),if_neg (by decide: ¬((11:Int)=6)),if_neg (by decide: ¬((11:Int)=7)),if_neg (by decide: ¬((11:Int)=8)),if_neg (by decide: ¬((11:Int)=9)),if_neg (by decide: ¬((11:Int)=10)),if_pos (rfl:(11:Int)=11)]
 rw [doR 11 (by decide),hr,yf6,zp5,j4,if_neg (by decide: ¬((11:Int)=1)),if_neg (by decide: ¬((11:Int)=2)),if_neg (by decide: ¬((11:Int)=3)),if_neg (by decide: ¬((11:Int)=4)),if_neg (by decide: ¬((11:Int)=5)),if_neg (by decide: ¬((11:Int)=6)),if_neg (by decide: ¬((11:Int)=7)),if_neg (by decide: ¬((11:Int)=8)),if_neg (by decide: ¬((11:Int)=9)),if_neg (by decide: ¬((11:Int)=10)),if_pos (rfl:(11:Int)=11),zc4,j4,zw2,j4,zc4,j4,zp7,j4];cases h1:w5 a with
 |false=>rfl
 |true=>
  cases h2:w5 b with
  |false=>rfl
  |true=>
   have hu:=(zv7 (nw:=nw) ha (of_decide_eq_true h1)).u;have hv:=(zv7 (nw:=nw) hb (of_decide_eq_true h2)).u;rw [Bool.not_true,j6,j6,uw0 _ hv.1.1,j4,zy5];exact doP nw _
theorem do12 (nw:Bool) (a b:q9) (ha:u9 a.Lo/\u9 a.Hi) (hb:u9 b.Lo/\u9 b.Hi):qn v9 12 nw a b=some ((),(span_Do 12 nw a b,())):=by
 have hr: ∀w,zc3 12 w=some (qbt w):=fun w=>by
  unfold zc3;rw [if_neg (by decide: ¬((12:Int)=1)),if_neg (by decide: ¬((12:Int)=2)),if_neg (by decide: ¬((12:Int)=3)),if_neg (by decide: ¬((12:Int)=4)),if_neg (by decide: ¬((12:Int)=5)),if_neg (by decide: ¬((12:Int)=6)),if_neg (by decide: ¬((12:Int)=7)),if_neg (by decide: ¬((12:Int)=8)),if_neg (by decide: ¬((12:Int)=9)),if_neg (by decide: ¬((12:Int)=10)),if_neg (by decide: ¬((12:Int)=11)),if_pos (rfl:(12:Int)=12)]
 rw [doR 12 (by decide),hr,yf6,zp5,j4,if_neg (by decide: ¬((12:Int)=1)),if_neg (by decide: ¬((12:Int)=2)),if_neg (by decide: ¬((12:Int)=3)),if_neg (by decide: ¬((12:Int)=4)),if_neg (by decide: ¬((12:Int)=5)),if_neg (by decide: ¬((12:Int)=6)),if_neg (by decide: ¬((12:Int)=7)),if_neg (by decide: ¬((12:Int)=8)),if_neg (by decide: ¬((12:Int)=9)),if_neg (by decide: ¬((12:Int)=10)),if_neg (by decide: ¬((12:Int)=11)),if_pos (rfl:(12:Int)=12),zc4,j4,zw2,j4,zc4,j4,zp7,j4];cases h1:w5 a with
 |false=>rfl
 |true=>
  cases h2:w5 b with
  |false=>rfl
  |true=>
   rw [Bool.not_true,j6,j6,up4,j4,zy5];exact doT nw _
theorem do13 (nw:Bool) (a b:q9) (ha:u9 a.Lo/\u9 a.Hi) (hb:u9 b.Lo/\u9 b.Hi):qn v9 13 nw a b=some ((),(span_Do 13 nw a b,())):=by
 have hr: ∀w,zc3 13 w=zj6 w:=fun w=>by
  unfold zc3;rw [if_neg (by decide: ¬((13:Int)=1)),if_neg (by decide: ¬((13:Int)=2)),if_neg (by decide: ¬((13:Int)=3)),if_neg (by decide: ¬((13:Int)=4)),if_neg (by decide: ¬((13:Int)=5)),if_neg (by decide: ¬((13:Int)=6)),if_neg (by decide: ¬((13:Int)=7)),if_neg (by decide: ¬((13:Int)=8)),if_neg (by decide: ¬((13:Int)=9)),if_neg (by decide: ¬((13:Int)=10)),if_neg (by decide: ¬((13:Int)=11)),if_neg (by decide: ¬((13:Int)=12))]
 rw [doR 13 (by decide),hr,yf6,zp5,j4,if_neg (by decide: ¬((13:Int)=1)),if_neg (by decide: ¬((13:Int)=2)),if_neg (by decide: ¬((13:Int)=3)),if_neg (by decide: ¬((13:Int)=4)),if_neg (by decide: ¬((13:Int)=5)),if_neg (by decide: ¬((13:Int)=6)),if_neg (by decide: ¬((13:Int)=7)),if_neg (by decide: ¬((13:Int)=8)),if_neg (by decide: ¬((13:Int)=9)),if_neg (by decide: ¬((13:Int)=10)),if_neg (by decide: ¬((13:Int)=11)),if_neg (by decide: ¬((13:Int)=12)),if_pos (rfl:(13:Int)=13),zc4,j4,zw2,j4,zc4,j4,zp7,j4];cases h1:w5 a with
 |false=>rfl
 |true=>
  cases h2:w5 b with
  |false=>rfl
  |true=>
   rw [Bool.not_true,j6,j6,us9,j4,zy5];exact doP nw _
theorem do_v (op:Int) (nw:Bool) (a b:q9) (ha:u9 a.Lo/\u9 a.Hi) (hb:u9 b.Lo/\u9 b.Hi):qn v9 op nw a b=some ((),(span_Do op nw a b,())):=by
 by_cases h1:op=1
 ·subst h1;exact do1 nw a b ha hb
 by_cases h2:op=2
 ·subst h2;exact do2 nw a b ha hb
 by_cases h3:op=3
 ·subst h3;exact do3 nw a b ha hb
 by_cases h4:op=4
 ·subst h4;exact do4 nw a b ha hb
 by_cases h5:op=5
 ·subst h5;exact do5 nw a b ha hb
 by_cases h6:op=6
 ·subst h6;exact do6 nw a b ha hb
 by_cases h7:op=7
 ·subst h7;exact do7 nw a b ha hb
 by_cases h8:op=8
 ·subst h8;exact do8 nw a b ha hb
 by_cases h9:op=9
 ·subst h9;exact do9 nw a b ha hb
 by_cases h10:op=10
 ·subst h10;exact do10 nw a b ha hb
 by_cases h11:op=11
 ·subst h11;exact do11 nw a b ha hb
 by_cases h12:op=12
 ·subst h12;exact do12 nw a b ha hb
 by_cases h13:op=13
 ·subst h13;exact do13 nw a b ha hb
 rw [yf6,zp5,j4,if_neg h1,if_neg h2,if_neg h3,if_neg h4,if_neg h5,if_neg h6,if_neg h7,if_neg h8,if_neg h9,if_neg h10,if_neg h11,if_neg h12,if_neg h13,zw2,j4,zw5,if_neg (fun h=>by have:=h.1;omega),vk0]
end Go.Y
namespace Go.Y
open Go.RowKit Go.V Go.X Go.Proofs
theorem jg8 (nw:Bool):g9 nw<=18446744073709551615:=by cases nw<;>decide
def qa3 (nw:Bool) (a b:q9) (o:Option (q9×q9)):Span×Span×Bool:=match o with|none=>(⟨0,0⟩,⟨0,0⟩,false)|some x=>(if a.Hi>g9 nw then a else x.1,if b.Hi>g9 nw then b else x.2,true)
theorem kl9 {op:Int} (hop:17<=op/\op<=26):17<=jg7 op/\jg7 op<=26:=by
 unfold jg7
 repeat' split
 all_goals omega
def ifE (op:Int) (nw yes:Bool) (a b:q9):Span×Span×Bool:=if (17<=op/\op<=27)/\a.Lo<=a.Hi/\b.Lo<=b.Hi then qa3 nw a b (kj1 nw op yes (qf a nw) (qf b nw)) else (a,b,true)
end Go.Y
namespace Go.Y
open Go.RowKit Go.V Go.X Go.Proofs
theorem kb6 {op:Int} (hop:17<=op/\op<=26):17<=jg7 op/\jg7 op<=26/\(jg7 op>=23↔op>=23):=by
 unfold jg7
 repeat' split
 all_goals omega
theorem ky3 {s:q9} {nw:Bool} (h:u9 s.Lo/\u9 s.Hi) (hle:s.Lo<=s.Hi) (hm:s.Hi<=g9 nw):qf s nw=s:=by
 cases nw with
 |false=>rfl
 |true=>
  have hm:s.Hi<=4294967295:=hm;unfold qf;simp only [Bool.not_true,Bool.false_eq_true,if_false,gi8,yg5 h.1,yg5 h.2];rw [if_neg (by simp;omega),show s.Lo%4294967296=s.Lo by omega,show s.Hi%4294967296=s.Hi by omega]
end Go.Y
