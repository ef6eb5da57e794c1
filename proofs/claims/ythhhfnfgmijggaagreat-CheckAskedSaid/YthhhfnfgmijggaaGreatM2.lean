import Derived.Test.YthhhfnfgmijggaaGreatIb
import Derived.Test.YthhhfnfgmijggaaGreatM1
import Derived.Test.YthhhfnfgmijggaaGreatIa
import Derived.Test.YthhhfnfgmijggaaGreatIc
namespace Go.Y
open Go.RowKit Go.V Go.X Go.Proofs
def zm6 (x:Int):Prop:=x=1\/x=2\/x=4\/x=8
instance (x:Int):Decidable (zm6 x):=by unfold zm6;infer_instance
def zg8 (b:List Bool) (at_ sz:Int):Int:=if b.length≠512\/ ¬zm6 sz then 2 else if at_< -512\/at_> -sz then 112 else 0
def jh5 (b:List Bool) (p:Nat):Nat->List Bool
 |0=>b
 |k+1=>(jh5 b p k).set (p+k) true
theorem yz9 (b:List Bool) (p:Nat): ∀k,(jh5 b p k).length=b.length
 |0=>rfl
 |k+1=>by rw [jh5,List.length_set,yz9 b p k]
theorem ql2 {b:List Bool} {at_ sz:Int} (h:zg8 b at_ sz=0):b.length=512/\zm6 sz/\ -512<=at_/\at_<= -sz:=by
 unfold zg8 at h;split at h
 ·cases h
 ·rename_i h1;split at h
  ·cases h
  ·rename_i h2;exact ⟨by omega,Classical.not_not.1 fun hn=>h1 (.inr hn),by omega,by omega⟩
def qa0 (b:List Bool) (at_ sz:Int):List Bool×Int:=if zg8 b at_ sz=0 then (jh5 b (at_+512).toNat sz.toNat,0) else ([],zg8 b at_ sz)
def vg2 (b:List Bool) (p m:Nat) (k:Nat):Bool:=(List.range' k (m-k)).all fun i=>b.getD (p+i) false
theorem vt7 (b:List Bool) (p m k:Nat) (h:k<m):vg2 b p m k=(b.getD (p+k) false&&vg2 b p m (k+1)):=by
 unfold vg2;obtain ⟨d,hd⟩: ∃d,m-k=d+1:=⟨m-k-1,by omega⟩;rw [hd,List.range'_succ,List.all_cons,show m-(k+1)=d by omega]
theorem kp3 (b:List Bool) (p m:Nat):vg2 b p m m=true:=by unfold vg2;simp
def kf2 (b:List Bool) (at_ sz:Int):Int:=if zg8 b at_ sz=0 then (if vg2 b (at_+512).toNat sz.toNat 0=true then 0 else 110) else zg8 b at_ sz
def ya8 (a b r:List Bool):Nat->List Bool
 |0=>r
 |k+1=>(ya8 a b r k).set k (a.getD k false&&b.getD k false)
theorem yz7 (a b r:List Bool): ∀k,(ya8 a b r k).length=r.length
 |0=>rfl
 |k+1=>by rw [ya8,List.length_set,yz7 a b r k]
theorem yv1 (a b r:List Bool) (j:Nat): ∀k,(ya8 a b r k)[j]?=if j<k/\j<r.length then some (a.getD j false&&b.getD j false) else r[j]?
 |0=>by simp [ya8]
 |k+1=>by
  rw [ya8,List.getElem?_set,yv1 a b r j k,yz7];by_cases hjk:k=j
  ·subst hjk;simp only [Nat.lt_irrefl,false_and,if_false,true_and,if_true];by_cases hl:k<r.length
   ·rw [if_pos hl,if_pos ⟨by omega,hl⟩]
   ·rw [if_neg hl,if_neg (fun h=>hl h.2),List.getElem?_eq_none (by omega)]
  ·rw [if_neg hjk];by_cases hl:j<k/\j<r.length
   ·rw [if_pos hl,if_pos ⟨by omega,hl.2⟩]
   ·rw [if_neg hl,if_neg (fun h=>hl ⟨by omega,h.2⟩)]
def vb1 (a b:List Bool):List Bool:=if a.length=512/\b.length=512 then ya8 a b (List.replicate 512 false) 512 else []
theorem qe1 (b:List Bool) (h:b.length=512):qbb v5 b=some ((),.inl (b,())):=by
 rw [kv8,show (((b.length:Nat):Int) != 512)=false by simp [h],j6,if_pos (by omega)]
theorem kc8 (b:List Bool) (h: ¬b.length=512):qbb v5 b=some ((),.inr (2,())):=by
 rw [kv8,show (((b.length:Nat):Int) != 512)=true by simp only [bne_iff_ne,ne_eq];omega,j8]
def qe0 (x:Int):Bool:=decide (zm6 x)
theorem we1 {R:Type} (x:Int) (f:Bool->Option R):q7 (x==1) (f (x==1)) (q7 (x==2) (f (x==2)) (q7 (x==4) (f (x==4)) (f (x==8))))=f (qe0 x):=by
 by_cases h1:x=1
 ·subst h1;rfl
 by_cases h2:x=2
 ·subst h2;rfl
 by_cases h4:x=4
 ·subst h4;rfl
 by_cases h8:x=8
 ·subst h8;rfl
 have hn:qe0 x=false:=decide_eq_false (by unfold zm6;omega);rw [show (x==1)=false by simpa using h1,show (x==2)=false by simpa using h2,show (x==4)=false by simpa using h4,show (x==8)=false by simpa using h8,hn];rfl
theorem uo9 (b:List Bool) (hl:b.length=512) (at_ sz:Int):qj v5 b at_ sz=some (((b,()),()),if zg8 b at_ sz=0 then .inl (((at_+512).toNat,sz.toNat),()) else .inr (zg8 b at_ sz,())):=by
 obtain ⟨n,e⟩: ∃n:Nat,(v5:Nat)=n+1+1+1+1:=⟨999999996,rfl⟩;rw [uq7,we1 sz (fun c=>qc8 v5 at_ sz c b),e,kn6];unfold zg8 qe0;by_cases hs:zm6 sz
 ·rw [decide_eq_true hs,j8,kt3,if_neg (c:=b.length≠512\/ ¬zm6 sz) (fun h=>h.elim (fun h=>h hl) (fun h=>h hs))];have hs':=hs;unfold zm6 at hs';rw [zj0 (x:=0-sz) (by omega),Int.zero_sub];by_cases h1:at_< -512
  ·rw [decide_eq_true h1,j8,jm0,j8,if_pos (c:=at_< -512\/at_> -sz) (.inl h1),if_neg (by decide)]
  ·by_cases h2:at_> -sz
   ·rw [decide_eq_false h1,j6,jm0,decide_eq_true h2,j8,if_pos (c:=at_< -512\/at_> -sz) (.inr h2),if_neg (by decide)]
   ·rw [decide_eq_false h1,j6,jm0,decide_eq_false h2,j6,if_neg (c:=at_< -512\/at_> -sz) (fun h=>h.elim h1 h2),if_pos rfl,km1,zj0 (x:=512+at_) (by omega),if_pos (by omega),if_pos (by omega),Int.add_comm 512 at_,Nat.add_zero,Nat.sub_zero]
 ·rw [decide_eq_false hs,j6,if_pos (c:=b.length≠512\/ ¬zm6 sz) (.inr hs),if_neg (by decide)]
theorem um2 (b:List Bool) (hl:b.length=512) (at_ sz:Int):qi v5 b at_ sz=some ((),if zg8 b at_ sz=0 then .inl (List.take sz.toNat (List.drop (at_+512).toNat b),()) else .inr (zg8 b at_ sz,())):=by
 obtain ⟨n,e⟩: ∃n:Nat,(v5:Nat)=n+1+1+1+1:=⟨999999996,rfl⟩;rw [um1,we1 sz (fun c=>qg6 v5 b at_ sz c),e,kt5];unfold zg8 qe0;by_cases hs:zm6 sz
 ·rw [decide_eq_true hs,j8,kr6,if_neg (c:=b.length≠512\/ ¬zm6 sz) (fun h=>h.elim (fun h=>h hl) (fun h=>h hs))];have hs':=hs;unfold zm6 at hs';rw [zj0 (x:=0-sz) (by omega),Int.zero_sub];by_cases h1:at_< -512
  ·rw [decide_eq_true h1,j8,jl7,j8,if_pos (c:=at_< -512\/at_> -sz) (.inl h1),if_neg (by decide)]
  ·by_cases h2:at_> -sz
   ·rw [decide_eq_false h1,j6,jl7,decide_eq_true h2,j8,if_pos (c:=at_< -512\/at_> -sz) (.inr h2),if_neg (by decide)]
   ·rw [decide_eq_false h1,j6,jl7,decide_eq_false h2,j6,if_neg (c:=at_< -512\/at_> -sz) (fun h=>h.elim h1 h2),if_pos rfl,kq3,zj0 (x:=512+at_) (by omega),if_pos (by omega),if_pos (by omega),Int.add_comm 512 at_,List.drop_zero,Nat.sub_zero,
     show List.take (((512:Nat):Int).toNat-(at_+512).toNat) (List.drop (at_+512).toNat b)=List.drop (at_+512).toNat b from List.take_of_length_le (by rw [List.length_drop,hl];omega),
     if_pos (by rw [List.length_drop,hl];omega)]
 ·rw [decide_eq_false hs,j6,if_pos (c:=b.length≠512\/ ¬zm6 sz) (.inr hs),if_neg (by decide)]
theorem jg7 {b:List Bool} (h: ¬b.length=512) (at_ sz:Int):zg8 b at_ sz=2:=by unfold zg8;rw [if_pos (.inl h)]
theorem uw4 (b:List Bool) (at_ sz:Int):qak v5 b at_ sz=some (((b,()),(at_,()),(sz,()),()),if zg8 b at_ sz=0 then .inl (jh5 b (at_+512).toNat sz.toNat,()) else .inr (zg8 b at_ sz,())):=by
 rw [ue0];by_cases hl:b.length=512
 ·rw [qe1 b hl,j4];show (if 512<=b.length then j7 (qj v5 (List.take 512 (List.drop 0 b)) at_ sz) _ else none)=_;rw [if_pos (by omega),List.drop_zero,List.take_of_length_le (by omega),uo9 b hl,j4];by_cases h:zg8 b at_ sz=0
  ·rw [if_pos h,if_pos h];obtain ⟨_,hs,h1,h2⟩:=ql2 h;unfold zm6 at hs;show yo3 v5 (at_+512).toNat sz.toNat ((sz.toNat:Nat):Int) 0 b at_ sz b=_;refine vd4 (fun n k=>yo3 n (at_+512).toNat sz.toNat ((sz.toNat:Nat):Int) (k:Int) b at_ sz (jh5 b (at_+512).toNat k)) 1 sz.toNat _ (fun n k hk=>?_) (fun n=>?_) v5 (by unfold v5;omega)
   ·show yo3 (n+1) _ _ _ (k:Int) _ _ _ _=yo3 n (at_+512).toNat sz.toNat ((sz.toNat:Nat):Int) ((k+1:Nat):Int) b at_ sz (jh5 b (at_+512).toNat (k+1));rw [ju0,decide_eq_true (by omega),j8,if_pos (by omega),nx hk (by omega),jh5,Int.toNat_natCast]
   ·show yo3 (n+1) _ _ _ ((sz.toNat:Nat):Int) _ _ _ _=_;rw [ju0,decide_eq_false (by omega),j6]
  ·rw [if_neg h,if_neg h]
 ·rw [kc8 b hl,j4,jg7 hl,if_neg (by decide)]
theorem uo0 (b:List Bool) (at_ sz:Int):qci v5 b at_ sz=some (qa0 b at_ sz):=by
 rw [wn5,uf3,uw4,j4];unfold qa0;by_cases h:zg8 b at_ sz=0
 ·rw [if_pos h,if_pos h];show j7 (j7 (qcf 0) _) _=_;rw [kv9,j4,j4]
 ·rw [if_neg h,if_neg h];show j7 (j7 (qcg 0 (zg8 b at_ sz)) _) _=_;rw [gb2,j4,j4]
theorem gx2 (b:List Bool) (p m k:Nat) (hk:k<m):(List.take m (List.drop p b)).getD k false=b.getD (p+k) false:=by
 rw [List.getD_eq_getElem?_getD,List.getD_eq_getElem?_getD,List.getElem?_take,if_pos hk,List.getElem?_drop]
theorem uo1 (b:List Bool) (at_ sz:Int):qv v5 b at_ sz=some (((b,()),(at_,()),(sz,()),()),if zg8 b at_ sz=0 then (if vg2 b (at_+512).toNat sz.toNat 0=true then .inl (true,()) else .inr (110,())) else .inr (zg8 b at_ sz,())):=by
 rw [up2];by_cases hl:b.length=512
 ·rw [qe1 b hl,j4];show j7 (qi v5 b at_ sz) _=_;rw [um2 b hl,j4];by_cases h:zg8 b at_ sz=0
  ·rw [if_pos h,if_pos h];obtain ⟨_,hs,h1,h2⟩:=ql2 h;unfold zm6 at hs;have hlen:(List.take sz.toNat (List.drop (at_+512).toNat b)).length=sz.toNat:=by rw [List.length_take,List.length_drop,hl];omega
   show jc3 v5 (List.take sz.toNat (List.drop (at_+512).toNat b)) (((List.take sz.toNat (List.drop (at_+512).toNat b)).length:Nat):Int) 0 b at_ sz=_;rw [hlen];refine wf0 (fun n k=>jc3 n (List.take sz.toNat (List.drop (at_+512).toNat b)) ((sz.toNat:Nat):Int) (k:Int) b at_ sz) 2 sz.toNat (fun k=>some (((b,()),(at_,()),(sz,()),()),(if vg2 b (at_+512).toNat sz.toNat k=true then .inl (true,()) else .inr (110,())))) (fun n k hk=>?_) (fun n=>?_) sz.toNat 0 v5 (by omega) (by unfold v5;omega)
   ·show jc3 (n+1+1) _ _ (k:Int) _ _ _=_\/_;rw [show jc3 (n+1+1) (List.take sz.toNat (List.drop (at_+512).toNat b)) ((sz.toNat:Nat):Int) (k:Int) b at_ sz=q7 (!(b.getD ((at_+512).toNat+k) false)) (some (((b,()),(at_,()),(sz,()),()),.inr ((110:Int),()))) (jc3 n (List.take sz.toNat (List.drop (at_+512).toNat b)) ((sz.toNat:Nat):Int) ((k+1:Nat):Int) b at_ sz) by
     rw [qo9,decide_eq_true (by omega),j8,if_pos (by rw [hlen];omega),Int.toNat_natCast,gx2 _ _ _ _ hk,kt8,nx hk (by omega)]]
    simp only [vt7 b _ _ k hk];cases b.getD ((at_+512).toNat+k) false with
    |true=>exact .inr ⟨rfl,rfl⟩
    |false=>exact .inl rfl
   ·show jc3 (n+1) _ _ ((sz.toNat:Nat):Int) _ _ _=_;rw [qo9,decide_eq_false (by omega),j6,kp3,if_pos rfl]
  ·rw [if_neg h,if_neg h]
 ·rw [kc8 b hl,j4,jg7 hl,if_neg (by decide)]
theorem ut0 (b:List Bool) (at_ sz:Int):qce v5 b at_ sz=some (kf2 b at_ sz):=by
 rw [ud6,ue6,uo1,j4];unfold kf2;by_cases h:zg8 b at_ sz=0
 ·rw [if_pos h,if_pos h];by_cases h2:vg2 b (at_+512).toNat sz.toNat 0=true
  ·rw [if_pos h2,if_pos h2];show j7 (j7 (qex 0) _) _=_;rw [ug4,j4,j4]
  ·rw [if_neg h2,if_neg h2];show j7 (j7 (qdn 0 110) _) _=_;rw [ku0,j4,j4]
 ·rw [if_neg h,if_neg h];show j7 (j7 (qdn 0 (zg8 b at_ sz)) _) _=_;rw [ku0,j4,j4]
theorem vt3 (a b r:List Bool) (k:Nat):(ya8 a b r k).getD k false=r.getD k false:=by
 rw [List.getD_eq_getElem?_getD,yv1,if_neg (fun h=>Nat.lt_irrefl _ h.1),<-List.getD_eq_getElem?_getD]
theorem un6 (a b:List Bool):qr v5 a b=some (((a,()),(b,()),()),if a.length=512/\b.length=512 then .inl (ya8 a b a 512,()) else .inr (2,())):=by
 rw [uo3];by_cases ha:a.length=512
 ·rw [qe1 a ha,j4];show (if 512<=a.length then j7 (qbb v5 b) _ else none)=_;rw [if_pos (by omega)];by_cases hb:b.length=512
  ·rw [qe1 b hb,j4,if_pos ⟨ha,hb⟩];show jc0 v5 b 0 a b (List.take 512 (List.drop 0 a))=_;rw [List.drop_zero,List.take_of_length_le (by omega)];refine vd4 (fun n k=>jc0 n b (k:Int) a b (ya8 a b a k)) 2 512 _ (fun n k hk=>?_) (fun n=>?_) v5 (by unfold v5;omega)
   ·show jc0 (n+1+1) b (k:Int) a b (ya8 a b a k)=jc0 n b ((k+1:Nat):Int) a b (ya8 a b a (k+1));have e: ∀r,kc2 (n+1) b (k:Int) a b r=jc0 n b ((k+1:Nat):Int) a b r:=fun r=>by rw [kj8,nx hk (by omega)]
    rw [qv4,decide_eq_true (by omega),j8,if_pos (by omega),if_pos (by omega),e,e,if_pos (by omega),if_pos (by omega),if_pos (by omega),Nat.zero_add,Int.toNat_natCast,vt3,ya8];cases a.getD k false<;>rfl
   ·show jc0 (n+1) b ((512:Nat):Int) a b _=_;rw [qv4,decide_eq_false (by omega),j6]
  ·rw [kc8 b hb,j4,if_neg (fun h=>hb h.2)]
 ·rw [kc8 a ha,j4,if_neg (fun h=>ha h.1)]
theorem vg3 (a b:List Bool) (ha:a.length=512):ya8 a b a 512=ya8 a b (List.replicate 512 false) 512:=by
 apply List.ext_getElem?;intro j;rw [yv1,yv1,List.length_replicate,ha];by_cases h:j<512/\j<512
 ·rw [if_pos h,if_pos h]
 ·rw [if_neg h,if_neg h,List.getElem?_eq_none (by omega),List.getElem?_eq_none (by rw [List.length_replicate];omega)]
theorem wf2 (a b:List Bool):qbn v5 a b=some (vb1 a b):=by
 rw [wv6,wp9,un6,j4];unfold vb1;by_cases h:a.length=512/\b.length=512
 ·rw [if_pos h,if_pos h];show j7 (j7 (qcf 0) _) _=_;rw [kv9,j4,j4,vg3 a b h.1]
 ·rw [if_neg h,if_neg h];show j7 (j7 (qcg 0 2) _) _=_;rw [gb2,j4,j4]
theorem ul7:qdb v5=some (List.replicate 512 false):=by rw [wr2,if_pos (by omega)]
end Go.Y
namespace Go.Y
open Go.RowKit Go.V Go.X Go.Proofs
theorem uc9 (x:Int):qes v5 [1,2,4,8] x=q7 (x==1) (some 0) (q7 (x==2) (some 1) (q7 (x==4) (some 2) (q7 (x==8) (some 3) (some (-1))))):=by kernel_rfl
def zu9 (x:Int):Bool:=x==1||(x==2||(x==4||x==8))
theorem zm9 (x:Int):qcv v5 [1,2,4,8] x=some (zu9 x):=by
 rw [ws7,uc9];unfold zu9;cases x==1<;>cases x==2<;>cases x==4<;>cases x==8<;>rfl
theorem ks5 (x a b:Int):qbx v5 x a b=some (decide (a<=x)&&decide (x<=b)):=by rw [wm2,zu7]
def zz9 (n m:Int):Bool:=decide (0<=n)&&decide (n<=m)
def zk2 (i:Ins):Bool:=if i.UseImm=true then i.Src==0&&(decide (-2147483648<=i.Imm)&&decide (i.Imm<2147483648)) else zz9 i.Src 10&&i.Imm==0
def jq0 (i:Ins):Bool:=decide (-32768<=i.Off)&&decide (i.Off<32768)
def zh9 (i:Ins):Bool:=
 if 1<=i.Op/\i.Op<=12 then zz9 i.Dst 9&&(zk2 i&&(i.Off==0&&i.Size==0))
 else if i.Op=13 then zz9 i.Dst 9&&(i.Src==0&&(!i.UseImm&&(i.Off==0&&(i.Imm==0&&i.Size==0))))
 else if i.Op=14 then zz9 i.Dst 9&&(zz9 i.Src 10&&(jq0 i&&(zu9 i.Size&&(!i.Narrow&&(!i.UseImm&&i.Imm==0)))))
 else if i.Op=15 then zz9 i.Dst 10&&(jq0 i&&(zu9 i.Size&&(zk2 i&& !i.Narrow)))
 else if i.Op=16 then jq0 i&&(!i.Narrow&&(i.Dst==0&&(i.Src==0&&(!i.UseImm&&(i.Imm==0&&i.Size==0)))))
 else if 17<=i.Op/\i.Op<=27 then zz9 i.Dst 10&&(jq0 i&&(zk2 i&&i.Size==0))
 else decide (i.Op=28)&&(!i.Narrow&&(i.Dst==0&&(i.Src==0&&(!i.UseImm&&(i.Off==0&&(i.Imm==0&&i.Size==0))))))
theorem vo1 (i:Ins):qby v5 i=some (decide (16<=i.Op)&&decide (i.Op<=27)):=by rw [wr9,zu7]
theorem kk6 (op:Int):qba v5 op=some (if 1<=op/\op<=12 then 201 else if op=13 then 193 else if op=14 then 181 else if op=15 then 186 else if op=16 then 144 else if 17<=op/\op<=27 then 218 else if op=28 then 128 else 0):=by
 rw [wr3];simp only [vx1,zr1]
 grind
theorem vo8 (i:Ins):qa v5 i=some (zh9 i):=by
 rw [un9,kk6];obtain ⟨op,nw,d,s,u,off,imm,sz⟩:=i;simp only [j4];have tail: ∀(n:Nat) (f m:Int) (z:Bool) (x:Ins),ve8 (n+1) f m z op nw d s u off imm sz x.Op x.Narrow x.Dst x.Src x.UseImm x.Off x.Imm x.Size=
   some (f != 0&&((op==x.Op&&(nw==x.Narrow&&(d==x.Dst&&(s==x.Src&&(u==x.UseImm&&(off==x.Off&&(imm==x.Imm&&sz==x.Size)))))))&&((decide (0<=d)&&decide (d<=m))&&((decide (0<=s)&&decide (s<=10))&&((decide (-32768<=off)&&decide (off<=32767))&&((decide (-2147483648<=imm)&&decide (imm<=2147483647))&&z)))))):=by
  intro n f m z x;simp only [kr8,ks5,j4,zu7]
 have tail': ∀(n:Nat) (f m:Int) (z:Bool) (a0:Int) (a1:Bool) (a2 a3:Int) (a4:Bool) (a5 a6 a7:Int),ve8 (n+1) f m z op nw d s u off imm sz a0 a1 a2 a3 a4 a5 a6 a7=_:=fun n f m z a0 a1 a2 a3 a4 a5 a6 a7=>tail n f m z ⟨a0,a1,a2,a3,a4,a5,a6,a7⟩;by_cases h0:1<=op/\op<=12
 ·rw [if_pos h0];cases nw<;>cases u<;>simp only [zs5,zr4,zs2,zr2,zs0,zr7,zr0,zs4,zs6,tail',zm9,j4,Bool.not_true,Bool.not_false,j8,j6,show (za9 .i64 201 3 != 0)=true from by decide,show (za9 .i64 201 4 != 0)=false from by decide,show (za9 .i64 201 8 != 0)=true from by decide,show (za9 .i64 201 16 != 0)=false from by decide,show (za9 .i64 201 32 != 0)=false from by decide,show (za9 .i64 201 64 != 0)=true from by decide,show (za9 .i64 201 1 != 0)=true from by decide,show (za9 .i64 201 32==0)=true from by decide]<;>(refine congrArg some ?_;rw [Bool.eq_iff_iff];simp [zh9,zk2,zz9,jq0, *]<;>grind)
 by_cases h1:op=13
 ·rw [if_neg h0,if_pos h1];cases nw<;>cases u<;>simp only [zs5,zr4,zs2,zr2,zs0,zr7,zr0,zs4,zs6,tail',zm9,j4,Bool.not_true,Bool.not_false,j8,j6,show (za9 .i64 193 3 != 0)=true from by decide,show (za9 .i64 193 4 != 0)=false from by decide,show (za9 .i64 193 8 != 0)=false from by decide,show (za9 .i64 193 16 != 0)=false from by decide,show (za9 .i64 193 32 != 0)=false from by decide,show (za9 .i64 193 64 != 0)=true from by decide,show (za9 .i64 193 1 != 0)=true from by decide,show (za9 .i64 193 32==0)=true from by decide]<;>(refine congrArg some ?_;rw [Bool.eq_iff_iff];simp [zh9,zk2,zz9,jq0, *]<;>grind)
 by_cases h2:op=14
 ·rw [if_neg h0,if_neg h1,if_pos h2];cases nw<;>cases u<;>simp only [zs5,zr4,zs2,zr2,zs0,zr7,zr0,zs4,zs6,tail',zm9,j4,Bool.not_true,Bool.not_false,j8,j6,show (za9 .i64 181 3 != 0)=true from by decide,show (za9 .i64 181 4 != 0)=true from by decide,show (za9 .i64 181 8 != 0)=false from by decide,show (za9 .i64 181 16 != 0)=true from by decide,show (za9 .i64 181 32 != 0)=true from by decide,show (za9 .i64 181 64 != 0)=false from by decide,show (za9 .i64 181 1 != 0)=true from by decide,show (za9 .i64 181 32==0)=false from by decide]<;>(refine congrArg some ?_;rw [Bool.eq_iff_iff];simp [zh9,zk2,zz9,jq0, *]<;>grind)
 by_cases h3:op=15
 ·rw [if_neg h0,if_neg h1,if_neg h2,if_pos h3];cases nw<;>cases u<;>simp only [zs5,zr4,zs2,zr2,zs0,zr7,zr0,zs4,zs6,tail',zm9,j4,Bool.not_true,Bool.not_false,j8,j6,show (za9 .i64 186 3 != 0)=true from by decide,show (za9 .i64 186 4 != 0)=false from by decide,show (za9 .i64 186 8 != 0)=true from by decide,show (za9 .i64 186 16 != 0)=true from by decide,show (za9 .i64 186 32 != 0)=true from by decide,show (za9 .i64 186 64 != 0)=false from by decide,show (za9 .i64 186 1 != 0)=false from by decide,show (za9 .i64 186 32==0)=false from by decide]<;>(refine congrArg some ?_;rw [Bool.eq_iff_iff];simp [zh9,zk2,zz9,jq0, *]<;>grind)
 by_cases h4:op=16
 ·rw [if_neg h0,if_neg h1,if_neg h2,if_neg h3,if_pos h4];cases nw<;>cases u<;>simp only [zs5,zr4,zs2,zr2,zs0,zr7,zr0,zs4,zs6,tail',zm9,j4,Bool.not_true,Bool.not_false,j8,j6,show (za9 .i64 144 3 != 0)=false from by decide,show (za9 .i64 144 4 != 0)=false from by decide,show (za9 .i64 144 8 != 0)=false from by decide,show (za9 .i64 144 16 != 0)=true from by decide,show (za9 .i64 144 32 != 0)=false from by decide,show (za9 .i64 144 64 != 0)=false from by decide,show (za9 .i64 144 1 != 0)=false from by decide,show (za9 .i64 144 32==0)=true from by decide]<;>(refine congrArg some ?_;rw [Bool.eq_iff_iff];simp [zh9,zk2,zz9,jq0, *]<;>grind)
 by_cases h5:17<=op/\op<=27
 ·rw [if_neg h0,if_neg h1,if_neg h2,if_neg h3,if_neg h4,if_pos h5];cases nw<;>cases u<;>simp only [zs5,zr4,zs2,zr2,zs0,zr7,zr0,zs4,zs6,tail',zm9,j4,Bool.not_true,Bool.not_false,j8,j6,show (za9 .i64 218 3 != 0)=true from by decide,show (za9 .i64 218 4 != 0)=false from by decide,show (za9 .i64 218 8 != 0)=true from by decide,show (za9 .i64 218 16 != 0)=true from by decide,show (za9 .i64 218 32 != 0)=false from by decide,show (za9 .i64 218 64 != 0)=true from by decide,show (za9 .i64 218 1 != 0)=false from by decide,show (za9 .i64 218 32==0)=true from by decide]<;>(refine congrArg some ?_;rw [Bool.eq_iff_iff];simp [zh9,zk2,zz9,jq0, *]<;>grind)
 by_cases h6:op=28
 ·rw [if_neg h0,if_neg h1,if_neg h2,if_neg h3,if_neg h4,if_neg h5,if_pos h6];cases nw<;>cases u<;>simp only [zs5,zr4,zs2,zr2,zs0,zr7,zr0,zs4,zs6,tail',zm9,j4,Bool.not_true,Bool.not_false,j8,j6,show (za9 .i64 128 3 != 0)=false from by decide,show (za9 .i64 128 4 != 0)=false from by decide,show (za9 .i64 128 8 != 0)=false from by decide,show (za9 .i64 128 16 != 0)=false from by decide,show (za9 .i64 128 32 != 0)=false from by decide,show (za9 .i64 128 64 != 0)=false from by decide,show (za9 .i64 128 1 != 0)=false from by decide,show (za9 .i64 128 32==0)=true from by decide]<;>(refine congrArg some ?_;rw [Bool.eq_iff_iff];simp [zh9,zk2,zz9,jq0, *]<;>grind)
 ·rw [if_neg h0,if_neg h1,if_neg h2,if_neg h3,if_neg h4,if_neg h5,if_neg h6];cases nw<;>cases u<;>simp only [zs5,zr4,zs2,zr2,zs0,zr7,zr0,zs4,zs6,tail',zm9,j4,Bool.not_true,Bool.not_false,j8,j6,show (za9 .i64 0 3 != 0)=false from by decide,show (za9 .i64 0 4 != 0)=false from by decide,show (za9 .i64 0 8 != 0)=false from by decide,show (za9 .i64 0 16 != 0)=false from by decide,show (za9 .i64 0 32 != 0)=false from by decide,show (za9 .i64 0 64 != 0)=false from by decide,show (za9 .i64 0 1 != 0)=false from by decide,show (za9 .i64 0 32==0)=true from by decide]<;>(refine congrArg some ?_;rw [Bool.eq_iff_iff];simp [zh9,zk2,zz9,jq0, *]<;>grind)
theorem wy5 (x y:Int):qcc v5 x y=some (decide (x<y)):=by
 rw [ua6,wo3,j4];simp [zr1]
theorem ux2 (a:Int):qdm v5 [a]=some ([a],()):=by kernel_rfl
theorem un8 (a b:Int):qdl v5 [a,b] 0 2=j7 (qcc v5 b a) (fun y=>q7 y (some ([b,a],())) (some ([a,b],()))):=by kernel_rfl
theorem ul9 (a b:Int):qdm v5 [a,b]=j7 (j7 (qdl v5 [a,b] 0 2) fun y=>some (y.1,())) fun y=>some (y.1,()):=by kernel_rfl
theorem uv9 (a b:Int):qdm v5 [a,b]=some (if b<a then [b,a] else [a,b],()):=by
 rw [ul9,un8,wy5,j4];by_cases h:b<a
 ·rw [if_pos h,decide_eq_true h];rfl
 ·rw [if_neg h,decide_eq_false h];rfl
theorem uw8 (a b:Int):qev v5 [a,b] 1 1=some (([a,b],()),()):=by kernel_rfl
theorem uw7 (a:Int):qep v5 [a]=some (([a],()),((0,1),())):=by kernel_rfl
theorem uu3 (a b:Int):qep v5 [a,b]=q7 (b==a) (some (([a,0],()),((0,1),()))) (some (([a,b],()),((0,2),()))):=by kernel_rfl
theorem uw0 (a b:Int):qew v5 [a,b] 1 1=some (([a,b],()),((1,1),())):=by kernel_rfl
def yw5 (i:Ins) (nx to:Int):List Int:=if i.Op=16 then [to] else if 17<=i.Op/\i.Op<=27 then (if to<nx then [to,nx] else if nx<to then [nx,to] else [nx]) else [nx]
def zx1 (l:List Ins) (at_:Int):List Int:=
 if 0<=at_/\at_<l.length then
  let i:=l.getD at_.toNat zb1
  if zh9 i=true/\i.Op≠28 then yw5 i (IntKind.i64.wrap (at_+1)) (IntKind.i64.wrap (IntKind.i64.wrap (at_+1)+i.Off)) else []
 else []
def uj4 (y:List Int) (o n:Nat) (l:List Int):Prop:=o+n<=y.length/\List.take n (List.drop o y)=l
theorem gt9 (l:List Ins) (at_:Int): ∃y o n,qab v5 l at_=some ((),((y,o,n),()))/\uj4 y o n (zx1 l at_):=by
 have key: ∀b,(b=false->0<=at_/\at_<((l.length:Nat):Int))-> ∃y o n,je0 v5 l at_ b=some ((),((y,o,n),()))/\uj4 y o n (if b=true then [] else yw5 (l.getD at_.toNat zb1) (IntKind.i64.wrap (at_+1)) (IntKind.i64.wrap (IntKind.i64.wrap (at_+1)+(l.getD at_.toNat zb1).Off))):=by
  intro b hb;rw [kb5,zr1];by_cases hbt:b=true
  ·rw [if_pos hbt,if_pos hbt];exact ⟨[],0,0,rfl,by simp,rfl⟩
  ·rw [if_neg hbt,if_neg hbt];have ha:=hb (by simpa using hbt);rw [if_pos ha,if_pos ha,vo1,j4];simp only [vw4,if_pos ha];generalize l.getD at_.toNat zb1=i;generalize IntKind.i64.wrap (at_+1)=nx;generalize IntKind.i64.wrap (nx+i.Off)=to;unfold yw5;by_cases h16:i.Op=16
   ·rw [if_pos h16,h16];refine ⟨[nx,to],1,1,?_,by simp,rfl⟩;have e1:(((([nx,to]:List Int).length:Nat):Int).toNat)-1=1:=rfl;rw [show (decide (16<=(16:Int))&&decide ((16:Int)<=27))=true from rfl,show ((16:Int)==16)=true from rfl,j8,j8,if_pos (by simp),e1,uw8,j4,uw0,j4]
   ·rw [if_neg h16];have e16:(i.Op==16)=false:=by simpa using h16
    by_cases hj:17<=i.Op/\i.Op<=27
    ·rw [if_pos hj,e16,show (decide (16<=i.Op)&&decide (i.Op<=27))=true from by simp;omega,j8,j6,uv9,j4];by_cases h1:to<nx
     ·rw [if_pos h1,if_pos h1,uu3,show (nx==to)=false from by simp;omega,j6,j4];exact ⟨_,_,_,rfl,by simp,rfl⟩
     ·rw [if_neg h1,if_neg h1,uu3];by_cases h2:nx<to
      ·rw [if_pos h2,show (to==nx)=false from by simp;omega,j6,j4];exact ⟨_,_,_,rfl,by simp,rfl⟩
      ·rw [if_neg h2,show (to==nx)=true from by simp;omega,j8,j4];exact ⟨_,_,_,rfl,by simp,rfl⟩
    ·rw [if_neg hj,e16,show (decide (16<=i.Op)&&decide (i.Op<=27))=false from by simp;omega,j6,j6,ux2,j4,uw7,j4];exact ⟨_,_,_,rfl,by simp,rfl⟩
 rw [uf6];unfold zx1;by_cases h1:at_<0
 ·rw [decide_eq_true h1,j8,if_neg (by omega)];simpa using key true (by simp)
 rw [decide_eq_false h1,j6];by_cases h2:at_>=((l.length:Nat):Int)
 ·rw [decide_eq_true h2,j8,if_neg (by omega)];simpa using key true (by simp)
 have ha:0<=at_/\at_<((l.length:Nat):Int):=by omega
 rw [decide_eq_false h2,j6,if_pos ha,if_pos ha,vo8,j4];simp only [if_pos ha];cases hr:zh9 (l.getD at_.toNat zb1) with
 |false=>simpa [j8] using key true (by simp)
 |true=>
  simp only [Bool.not_true,j6,true_and];by_cases h28:(l.getD at_.toNat zb1).Op=28
  ·rw [if_neg (fun h=>h h28),show ((l.getD at_.toNat zb1).Op==28)=true from by simpa using h28];simpa using key true (by simp)
  ·rw [if_pos h28,show ((l.getD at_.toNat zb1).Op==28)=false from by simpa using h28];simpa using key false (fun _=>ha)
theorem vw0 (l:List Ins) (a:Int):(zx1 l a).length<=400000000:=by
 unfold zx1 yw5;grind
def yp7 (code:Nat->Int):Nat->Nat->Option Fault
 |_,0=>none
 |k,m+1=>if code k=0 then yp7 code (k+1) m else some ⟨code k,(k:Int)⟩
theorem vg7 {α:Type} (f:Nat->Nat->Option α) (p:α->Fault) (code:Nat->Int) (c len b:Nat) (F:Fault)
  (step: ∀n k,k<len->b<=n->(code k=0/\f (n+c) k=f n (k+1))\/(code k≠0/\ ∃Y,f (n+c) k=some Y/\p Y=⟨code k,(k:Int)⟩))
  (hend:(∀k,k<len->code k=0)-> ∀n,b<=n-> ∃Y,f n len=some Y/\p Y=F):
  ∀m k n,k+m=len->c*m+b<=n->(∀j,j<k->code j=0)-> ∃Y,f n k=some Y/\p Y=(yp7 code k m).getD F
 |0,k,n,hk,hn,h=>by
  have:k=len:=by omega
  subst this;exact hend h n (by omega)
 |m+1,k,n,hk,hn,h=>by
  rw [Nat.mul_succ] at hn;obtain ⟨n',rfl⟩: ∃n',n=n'+c:=⟨n-c,by omega⟩;unfold yp7;rcases step n' k (by omega) (by omega) with ⟨h1,h2⟩|⟨h1,Y,h2,h3⟩
  ·rw [if_pos h1,h2];exact vg7 f p code c len b F step hend m (k+1) n' (by omega) (by omega) (fun j hj=>by
    by_cases e:j=k
    ·subst e;exact h1
    ·exact h j (by omega))
  ·rw [if_neg h1];exact ⟨Y,h2,h3⟩
def yf0 (xs:List Int) (r:List Bool):List Bool:=xs.foldl (fun r x=>r.set x.toNat true) r
def we9 (l:List Ins) (r:List Bool) (k:Nat):List Bool:=if r.getD k false=true then yf0 (zx1 l (k:Int)) r else r
def stP (l:List Ins):Nat->List Bool
 |0=>(List.replicate l.length false).set 0 true
 |k+1=>we9 l (stP l k) k
theorem yz3: ∀(xs:List Int) (r:List Bool),(yf0 xs r).length=r.length
 | [],_=>rfl
 |x::xs,r=>by
  show (yf0 xs (r.set x.toNat true)).length=_;rw [yz3 xs,List.length_set]
theorem qa5 (l:List Ins): ∀k,(stP l k).length=l.length
 |0=>by unfold stP;rw [List.length_set,List.length_replicate]
 |k+1=>by
  unfold stP we9;split
  ·rw [yz3,qa5 l k]
  ·exact qa5 l k
theorem qt6 (r:List Bool) (k:Nat):r.set k (r.getD k false)=r:=by
 by_cases h:k<r.length
 ·rw [List.getD_eq_getElem?_getD,List.getElem?_eq_getElem h];exact List.set_getElem_self h
 ·exact List.set_eq_of_length_le (by omega)
theorem kr3 (r:List Bool) (k j:Nat) (b:Bool):(r.set k b).getD j false=if k=j/\j<r.length then b else r.getD j false:=by
 rw [List.getD_eq_getElem?_getD,List.getD_eq_getElem?_getD,List.getElem?_set];by_cases h:k=j
 ·subst h;by_cases h2:k<r.length
  ·rw [if_pos rfl,if_pos h2,if_pos ⟨rfl,h2⟩];rfl
  ·rw [if_pos rfl,if_neg h2,if_neg (fun h=>h2 h.2),List.getElem?_eq_none (by omega)]
 ·rw [if_neg h,if_neg (fun h'=>h h'.1)]
theorem ju5: ∀(xs:List Int) (r:List Bool) (j:Nat),(∀x∈xs,x.toNat≠j)->(yf0 xs r).getD j false=r.getD j false
 | [],_,_,_=>rfl
 |x::xs,r,j,h=>by
  show (yf0 xs (r.set x.toNat true)).getD j false=_;rw [ju5 xs _ j (fun y hy=>h y (List.mem_cons_of_mem _ hy)),kr3,if_neg (fun h'=>h x (List.mem_cons_self) h'.1)]
theorem vf6 (xs:List Int) (r:List Bool) (j:Nat) (h:j<xs.length):yf0 (xs.take (j+1)) r=(yf0 (xs.take j) r).set (xs.getD j 0).toNat true:=by
 unfold yf0;rw [List.take_add_one,List.foldl_append,List.getElem?_eq_getElem h,List.getD_eq_getElem?_getD,List.getElem?_eq_getElem h];rfl
def Fwd (l:List Ins):Prop:= ∀k,k<l.length-> ∀x∈zx1 l (k:Int),(k:Int)<x/\x<l.length
def c1 (l:List Ins) (k:Nat):Int:=if zh9 (l.getD k zb1)=true then 0 else 4
def ke9 (i:Ins):Bool:=decide (16<=i.Op)&&decide (i.Op<=27)
def c2 (l:List Ins) (k:Nat):Int:=if ke9 (l.getD k zb1)=true then (if (l.getD k zb1).Off<0 then 100 else if (k:Int)+1+(l.getD k zb1).Off>=(l.length:Int) then 101 else 0) else 0
def c3 (l:List Ins) (k:Nat):Int:=if k+1=l.length/\(l.getD k zb1).Op≠28/\(l.getD k zb1).Op≠16 then 102 else 0
def c4 (l:List Ins) (k:Nat):Int:=if (stP l (k+1)).getD k false=true then 0 else 103
def zp4 (l:List Ins):Fault:=
 if l.length=0 then ⟨6,0⟩ else if l.length>4096 then ⟨3,0⟩ else
  (yp7 (c1 l) 0 l.length).getD ((yp7 (c2 l) 0 l.length).getD ((yp7 (c3 l) 0 l.length).getD ((yp7 (c4 l) 0 l.length).getD ⟨0,0⟩)))
theorem jo2 {l:List Ins} {k:Nat} (h:c1 l k=0):zh9 (l.getD k zb1)=true:=by
 unfold c1 at h;split at h
 ·assumption
 ·cases h
theorem yy3 (i:Ins) (h:zh9 i=true): -32768<=i.Off/\i.Off<=32767/\1<=i.Op/\i.Op<=28:=by
 unfold zh9 at h
 grind [zk2,jq0,zz9,zu9]
theorem wm1 {l:List Ins} (hl:l.length<=4096) (h1: ∀k,k<l.length->c1 l k=0) (h2: ∀k,k<l.length->c2 l k=0) (h3: ∀k,k<l.length->c3 l k=0):Fwd l:=by
 intro k hk x hx;have r:=jo2 (h1 k hk);have a2:=h2 k hk;have a3:=h3 k hk;have ro:=yy3 _ r;unfold c2 ke9 at a2;unfold c3 at a3;unfold zx1 at hx;rw [if_pos (by omega)] at hx;simp only [Int.toNat_natCast] at hx;generalize l.getD k zb1=i at *;split at hx
 ·rename_i hc;obtain ⟨_,h28⟩:=hc;rw [zj0 (x:=(k:Int)+1) (by omega),zj0 (by omega)] at hx;unfold yw5 at hx;by_cases h16:i.Op=16
  ·rw [if_pos h16] at hx;simp only [List.mem_cons,List.not_mem_nil,or_false] at hx;subst hx;rw [if_pos (by simp;omega)] at a2;split at a2
   ·cases a2
   ·split at a2
    ·cases a2
    ·omega
  ·rw [if_neg h16] at hx;have hlast:k+1≠l.length:=by
    intro he;rw [if_pos ⟨he,h28,h16⟩] at a3;cases a3
   by_cases hj:17<=i.Op/\i.Op<=27
   ·rw [if_pos hj] at hx;rw [if_pos (by simp;omega)] at a2;split at a2
    ·cases a2
    ·split at a2
     ·cases a2
     ·split at hx
      ·simp only [List.mem_cons,List.not_mem_nil,or_false] at hx;rcases hx with rfl|rfl<;>omega
      ·split at hx
       ·simp only [List.mem_cons,List.not_mem_nil,or_false] at hx;rcases hx with rfl|rfl<;>omega
       ·simp only [List.mem_cons,List.not_mem_nil,or_false] at hx;subst hx;omega
   ·rw [if_neg hj] at hx;simp only [List.mem_cons,List.not_mem_nil,or_false] at hx;subst hx;omega
 ·cases hx
theorem je1 (b:Bool) (x:Int):qax v5 b x=some (if b=true then x else 0):=by
 rw [wv9];cases b<;>rfl
theorem p1 (l:List Ins) (k:Nat) (hk:k<l.length):qcw v5 (k:Int) l=some (((l,()),()),(c1 l k,())):=by
 rw [ws1,if_pos (by omega),vo8,j4,je1,j4,Int.toNat_natCast];unfold c1;cases zh9 (l.getD k zb1)<;>rfl
theorem p2 (l:List Ins) (k:Nat) (hk:k<l.length) (hl:l.length<=4096) (h1:c1 l k=0):qcx v5 (k:Int) l=some (((l,()),()),(c2 l k,())):=by
 have ro:=yy3 _ (jo2 h1);rw [wz7,if_pos (by omega),if_pos (by omega),vo1,j4,Int.toNat_natCast,zj0 (x:=(k:Int)+1) (by omega),zj0 (by omega),je1];unfold c2 ke9;generalize l.getD k zb1=i at *;cases decide (16<=i.Op)&&decide (i.Op<=27) with
 |false=>rfl
 |true=>
  rw [Bool.not_true,j6,if_pos rfl];by_cases h:i.Off<0
  ·rw [decide_eq_true (by omega),j8,if_pos h]
  ·rw [decide_eq_false (by omega),j6,if_neg h,j4];by_cases h':(k:Int)+1+i.Off>=(l.length:Int)
   ·rw [decide_eq_true h',if_pos h'];rfl
   ·rw [decide_eq_false h',if_neg h'];rfl
theorem p3 (l:List Ins) (k:Nat) (hk:k<l.length) (hl:l.length<=4096):qcy v5 (k:Int) l=some (((l,()),()),(c3 l k,())):=by
 rw [uf4,zj0 (by omega),zr1];unfold c3;simp only [Int.toNat_natCast];by_cases h:k+1=l.length
 ·rw [if_pos (by simp;omega),if_pos (by omega),zr1];by_cases h28:(l.getD k zb1).Op=28
  ·rw [if_neg (by simpa using h28),if_neg (fun h'=>h'.2.1 h28),je1,j4];rfl
  ·rw [if_pos (by simpa using h28),if_pos (by omega),je1,j4];by_cases h16:(l.getD k zb1).Op=16
   ·rw [if_neg (c:=k+1=l.length/\(l.getD k zb1).Op≠28/\(l.getD k zb1).Op≠16) (fun h'=>h'.2.2 h16),h16];rfl
   ·rw [if_pos (c:=k+1=l.length/\(l.getD k zb1).Op≠28/\(l.getD k zb1).Op≠16) ⟨h,h28,h16⟩,if_pos (by simpa using h16)]
 ·rw [if_neg (by simp;omega),if_neg (fun h'=>h h'.1),je1,j4];rfl
theorem wu2 {y xs:List Int} {o m:Nat} (h:uj4 y o m xs) (j:Nat) (hj:j<m):y.getD (o+j) 0=xs.getD j 0/\xs.length=m:=by
 obtain ⟨h1,h2⟩:=h;subst h2;refine ⟨?_,by rw [List.length_take,List.length_drop];omega⟩;rw [List.getD_eq_getElem?_getD,List.getD_eq_getElem?_getD,List.getElem?_take,if_pos hj,List.getElem?_drop]
theorem wy9 (xs:List Int) (j:Nat) (hj:j<xs.length):xs.getD j 0∈xs:=by
 rw [List.getD_eq_getElem?_getD,List.getElem?_eq_getElem hj];exact List.getElem_mem hj
theorem p4 {l:List Ins} (hl:l.length<=4096) (hf:Fwd l) (k:Nat) (hk:k<l.length):qu v5 (k:Int) l (stP l k)=some (((l,()),((),()),stP l (k+1),()),(c4 l k,())):=by
 obtain ⟨y,o,m,e,hp⟩:=gt9 l (k:Int);rw [ul1,e,j4];dsimp only;have hm:(zx1 l (k:Int)).length=m:=by
  rw [<-hp.2,List.length_take,List.length_drop];have:=hp.1;omega
 have hlen:=qa5 l k;have hn:=vw0 l (k:Int);have hS: ∀j,(if (stP l k).getD k false=true then yf0 ((zx1 l (k:Int)).take j) (stP l k) else stP l k).length=l.length:=by
  intro j;split
  ·rw [yz3,hlen]
  ·exact hlen
 have hat: ∀j,(if (stP l k).getD k false=true then yf0 ((zx1 l (k:Int)).take j) (stP l k) else stP l k).getD k false=(stP l k).getD k false:=by
  intro j;split
  ·refine ju5 _ _ _ fun x hx=>?_;have:=hf k hk x (List.mem_of_mem_take hx);omega
  ·rfl
 have e0:(if (stP l k).getD k false=true then yf0 ((zx1 l (k:Int)).take 0) (stP l k) else stP l k)=stP l k:=by
  rw [List.take_zero];split<;>rfl
 have Q:=vd4 (fun n j=>js1 n (k:Int) o m ((m:Nat):Int) ((j:Nat):Int) l (if (stP l k).getD k false=true then yf0 ((zx1 l (k:Int)).take j) (stP l k) else stP l k) y) 2 m (some (((l,()),((),()),stP l (k+1),()),(c4 l k,()))) (fun n j hj=>?_) (fun n=>?_) v5 (by unfold v5;omega)
 ·rw [e0] at Q;exact Q
 ·show js1 (n+1+1) (k:Int) o m ((m:Nat):Int) ((j:Nat):Int) l _ y=js1 n (k:Int) o m ((m:Nat):Int) ((j+1:Nat):Int) l _ y;have hx:=(wu2 hp j hj).1;have hb:=hf k hk _ (wy9 (zx1 l (k:Int)) j (by omega));rw [qq6,decide_eq_true (by omega),j8,if_pos (by omega),if_pos (by have:=hp.1;omega),Int.toNat_natCast,hx];have e1:=hS j;have e2:=hat j;have e3:=vf6 (zx1 l (k:Int)) (stP l k) j (by omega);generalize (zx1 l (k:Int)).getD j 0=x at *;by_cases ht:(stP l k).getD k false=true
  ·simp only [if_pos ht] at e1 e2⊢;rw [e3];generalize yf0 ((zx1 l (k:Int)).take j) (stP l k)=r at *;have q1:0<=x/\x<((r.length:Nat):Int):=by omega
   have q2:0<=(k:Int)/\(k:Int)<((r.length:Nat):Int):=by omega
   simp only [if_pos q1,if_pos q2,qn7,nx (len:=m) hj (by omega),Int.toNat_natCast,e2,ht,zr1,ite_self]
  ·simp only [if_neg ht] at e1 e2⊢;generalize hr:stP l k=r at *;have q1:0<=x/\x<((r.length:Nat):Int):=by omega
   have q2:0<=(k:Int)/\(k:Int)<((r.length:Nat):Int):=by omega
   simp only [if_pos q1,if_pos q2,qn7,nx (len:=m) hj (by omega),Int.toNat_natCast,zr1];by_cases hz:r.getD x.toNat false=true
   ·rw [if_pos hz,<-hz,qt6]
   ·rw [if_neg hz,Bool.eq_false_iff.2 ht,<-Bool.eq_false_iff.2 hz,qt6]
 ·show js1 (n+1) (k:Int) o m ((m:Nat):Int) ((m:Nat):Int) l _ y=_;have e1:=hS m;have e2:(if (stP l k).getD k false=true then yf0 ((zx1 l (k:Int)).take m) (stP l k) else stP l k)=stP l (k+1):=by
   rw [List.take_of_length_le (by omega)];rfl
  rw [e2] at e1⊢;rw [qq6,decide_eq_false (by omega),j6,if_pos (by omega),je1,j4,Int.toNat_natCast];unfold c4;cases (stP l (k+1)).getD k false<;>rfl
theorem gi8 (l:List Ins):qda v5 l=some (zp4 l):=by
 rw [wt6];unfold zp4;by_cases h0:l.length=0
 ·rw [if_pos h0,h0];rfl
 rw [if_neg h0,show (((l.length:Nat):Int)==0)=false from beq_eq_false_iff_ne.2 (by omega),j6];by_cases hl:l.length>4096
 ·rw [if_pos hl,decide_eq_true (by omega),j8]
 rw [if_neg hl,decide_eq_false (by omega),j6,if_pos (by omega),if_pos (by rw [List.length_replicate];omega),Int.toNat_natCast];have key: ∃Y,qd v5 ((l.length:Nat):Int) l (stP l 0)=some Y/\Y.2.1=(yp7 (c1 l) 0 l.length).getD ((yp7 (c2 l) 0 l.length).getD ((yp7 (c3 l) 0 l.length).getD ((yp7 (c4 l) 0 l.length).getD ⟨0,0⟩))):=by
  rw [up1];refine vg7 (fun n k=>jj2 n ((l.length:Nat):Int) ((l.length:Nat):Int) ((k:Nat):Int) l (stP l 0) 0 0) (fun Y=>Y.2.1) (c1 l) 1 l.length 50000 _ (fun n k hk hn=>?_) (fun z1 n hn=>?_) l.length 0 _ (by omega) (by omega) (by omega)
  ·obtain ⟨n,rfl⟩: ∃j,n=j+1:=⟨n-1,by omega⟩;show _\/_/\ ∃Y,jj2 (n+2) _ _ _ _ _ _ _=_/\_;by_cases hc:c1 l k=0
   ·refine .inl ⟨hc,?_⟩;show jj2 (n+2) _ _ _ _ _ _ _=jj2 (n+1) _ _ _ _ _ _ _;rw [jk4,decide_eq_true (by omega),j8,p1 l k hk,j4,hc,nx hk (by omega)];dsimp only;rw [show ((0:Int) != 0)=false from rfl,j6]
   ·refine .inr ⟨hc,?_⟩;rw [jk4,decide_eq_true (by omega),j8,p1 l k hk,j4];dsimp only;rw [show (c1 l k != 0)=true by simpa using hc,j8];exact ⟨_,rfl,rfl⟩
  obtain ⟨n,rfl⟩: ∃j,n=j+2:=⟨n-2,by omega⟩;show ∃Y,jj2 (n+2) _ _ _ _ _ _ _=_/\_;rw [jk4,decide_eq_false (by omega),j6];refine vg7 (fun n k=>yp4 n ((l.length:Nat):Int) ((l.length:Nat):Int) ((k:Nat):Int) l (stP l 0) 0 0) (fun Y=>Y.2.1) (c2 l) 1 l.length 40000 _ (fun n k hk hn=>?_) (fun z2 n hn=>?_) l.length 0 _ (by omega) (by omega) (by omega)
  ·obtain ⟨n,rfl⟩: ∃j,n=j+1:=⟨n-1,by omega⟩;show _\/_/\ ∃Y,yp4 (n+2) _ _ _ _ _ _ _=_/\_;by_cases hc:c2 l k=0
   ·refine .inl ⟨hc,?_⟩;show yp4 (n+2) _ _ _ _ _ _ _=yp4 (n+1) _ _ _ _ _ _ _;rw [yy5,decide_eq_true (by omega),j8,p2 l k hk (by omega) (z1 k hk),j4,hc,nx hk (by omega)];dsimp only;rw [show ((0:Int) != 0)=false from rfl,j6]
   ·refine .inr ⟨hc,?_⟩;rw [yy5,decide_eq_true (by omega),j8,p2 l k hk (by omega) (z1 k hk),j4];dsimp only;rw [show (c2 l k != 0)=true by simpa using hc,j8];exact ⟨_,rfl,rfl⟩
  obtain ⟨n,rfl⟩: ∃j,n=j+2:=⟨n-2,by omega⟩;show ∃Y,yp4 (n+2) _ _ _ _ _ _ _=_/\_;rw [yy5,decide_eq_false (by omega),j6];refine vg7 (fun n k=>yo4 n ((l.length:Nat):Int) ((l.length:Nat):Int) ((k:Nat):Int) l (stP l 0) 0 0) (fun Y=>Y.2.1) (c3 l) 1 l.length 30000 _ (fun n k hk hn=>?_) (fun z3 n hn=>?_) l.length 0 _ (by omega) (by omega) (by omega)
  ·obtain ⟨n,rfl⟩: ∃j,n=j+1:=⟨n-1,by omega⟩;show _\/_/\ ∃Y,yo4 (n+2) _ _ _ _ _ _ _=_/\_;by_cases hc:c3 l k=0
   ·refine .inl ⟨hc,?_⟩;show yo4 (n+2) _ _ _ _ _ _ _=yo4 (n+1) _ _ _ _ _ _ _;rw [yz5,decide_eq_true (by omega),j8,p3 l k hk (by omega),j4,hc,nx hk (by omega)];dsimp only;rw [show ((0:Int) != 0)=false from rfl,j6]
   ·refine .inr ⟨hc,?_⟩;rw [yz5,decide_eq_true (by omega),j8,p3 l k hk (by omega),j4];dsimp only;rw [show (c3 l k != 0)=true by simpa using hc,j8];exact ⟨_,rfl,rfl⟩
  obtain ⟨n,rfl⟩: ∃j,n=j+2:=⟨n-2,by omega⟩;show ∃Y,yo4 (n+2) _ _ _ _ _ _ _=_/\_;rw [yz5,decide_eq_false (by omega),j6];have hf:=wm1 (by omega) z1 z2 z3;refine vg7 (fun n k=>yn8 n ((l.length:Nat):Int) ((l.length:Nat):Int) ((k:Nat):Int) l (stP l k) 0 0) (fun Y=>Y.2.1) (c4 l) 1 l.length 20000 _ (fun n k hk hn=>?_) (fun z4 n hn=>?_) l.length 0 _ (by omega) (by omega) (by omega)
  ·obtain ⟨n,rfl⟩: ∃j,n=j+1:=⟨n-1,by omega⟩;show _\/_/\ ∃Y,yn8 (n+2) _ _ _ _ _ _ _=_/\_;by_cases hc:c4 l k=0
   ·refine .inl ⟨hc,?_⟩;show yn8 (n+2) _ _ _ _ _ _ _=yn8 (n+1) _ _ _ _ _ _ _;rw [yy7,decide_eq_true (by omega),j8,p4 (by omega) hf k hk,j4,hc,nx hk (by omega)];dsimp only;rw [show ((0:Int) != 0)=false from rfl,j6]
   ·refine .inr ⟨hc,?_⟩;rw [yy7,decide_eq_true (by omega),j8,p4 (by omega) hf k hk,j4];dsimp only;rw [show (c4 l k != 0)=true by simpa using hc,j8];exact ⟨_,rfl,rfl⟩
  obtain ⟨n,rfl⟩: ∃j,n=j+2:=⟨n-2,by omega⟩;show ∃Y,yn8 (n+2) _ _ _ _ _ _ _=_/\_;rw [yy7,decide_eq_false (by omega),j6];exact ⟨_,rfl,rfl⟩
 obtain ⟨Y,e1,e2⟩:=key;have e1:qd v5 ((l.length:Nat):Int) l ((List.replicate l.length false).set 0 true)=some Y:=e1;rw [e1,j4,e2]
theorem yx8 (code:Nat->Int): ∀m k F,yp7 code k m=some F-> ∃j,k<=j/\j<k+m/\code j≠0/\F=⟨code j,(j:Int)⟩
 |0,_,_,h=>by cases h
 |m+1,k,F,h=>by
  unfold yp7 at h;split at h
  ·obtain ⟨j,h1,h2,h3,h4⟩:=yx8 code m (k+1) F h;exact ⟨j,by omega,by omega,h3,h4⟩
  ·rename_i hc;cases h;exact ⟨k,by omega,by omega,hc,rfl⟩
theorem yb5 (code:Nat->Int): ∀m k,yp7 code k m=none-> ∀j,k<=j->j<k+m->code j=0
 |0,_,_,j,h1,h2=>by omega
 |m+1,k,h,j,h1,h2=>by
  unfold yp7 at h;split at h
  ·rename_i hc;by_cases e:j=k
   ·rw [e];exact hc
   ·exact yb5 code m (k+1) h j (by omega) (by omega)
  ·cases h
structure Okay (l:List Ins):Prop where
 pos:0<l.length
 len:l.length<=4096
 z1: ∀k,k<l.length->c1 l k=0
 z2: ∀k,k<l.length->c2 l k=0
 z3: ∀k,k<l.length->c3 l k=0
 z4: ∀k,k<l.length->c4 l k=0
theorem yl1 {o:Option Fault} {d:Fault} (h: ∀F,o=some F->F.Err≠0) (he:(o.getD d).Err=0):o=none/\d.Err=0:=by
 cases o with
 |none=>exact ⟨rfl,he⟩
 |some F=>exact absurd he (h F rfl)
theorem yv4 (code:Nat->Int) (m k:Nat) (F:Fault) (h:yp7 code k m=some F):F.Err≠0:=by
 obtain ⟨j,_,_,h3,rfl⟩:=yx8 code m k F h;exact h3
theorem gs5 {l:List Ins} (h:(zp4 l).Err=0):Okay l:=by
 unfold zp4 at h;by_cases h0:l.length=0
 ·rw [if_pos h0] at h;cases h
 rw [if_neg h0] at h;by_cases h1:l.length>4096
 ·rw [if_pos h1] at h;cases h
 rw [if_neg h1] at h;obtain ⟨a1,h⟩:=yl1 (yv4 _ _ _) h;obtain ⟨a2,h⟩:=yl1 (yv4 _ _ _) h;obtain ⟨a3,h⟩:=yl1 (yv4 _ _ _) h;obtain ⟨a4,h⟩:=yl1 (yv4 _ _ _) h;exact ⟨by omega,by omega,fun k hk=>yb5 _ _ _ a1 k (by omega) (by omega),fun k hk=>yb5 _ _ _ a2 k (by omega) (by omega),fun k hk=>yb5 _ _ _ a3 k (by omega) (by omega),fun k hk=>yb5 _ _ _ a4 k (by omega) (by omega)⟩
end Go.Y
namespace Go.Y
open Go.RowKit Go.V Go.X Go.Proofs
theorem zn7 {x m:Int} (hx:0<=x) (_hm:0<m): ¬x.tmod m<0:=by
 have:=Int.tmod_nonneg m hx;omega
theorem uv4 (op a b:Int) (ha:0<=b):X.qc v5 op 32 a b=some (jd1 op 32 a b):=by
 obtain ⟨n,e⟩: ∃n:Nat,(v5:Nat)=n+1:=⟨999999999,rfl⟩;have hj: ∀c:Bool,c=(((op==4)||(op==5))&&(b==0))->X.ve4 (n+1) op c 32 a b=some (jd1 op 32 a b):=fun c hc=>by
  rw [X.kr4,hc];unfold jd1;cases hcc:(((op==(4:Int))||(op==(5:Int)))&&(b==(0:Int))) with
  |true=>rfl
  |false=>
   rw [j6,if_neg (show ¬(false=true) by decide)];by_cases h1:op=1
   ·subst h1;rw [if_pos (rfl:(1:Int)=1)];rw [if_pos (by decide:(((1:Int)==1)=true))];rw [X.wl4,j4];rfl
   by_cases h2:op=2
   ·subst h2;rw [if_neg (by decide: ¬((2:Int)=1)),if_pos (rfl:(2:Int)=2)];rw [if_neg (by decide: ¬(((2:Int)==1)=true)),if_pos (by decide:(((2:Int)==2)=true))];rw [X.ws6,j4];rfl
   by_cases h3:op=3
   ·subst h3;rw [if_neg (by decide: ¬((3:Int)=1)),if_neg (by decide: ¬((3:Int)=2)),if_pos (rfl:(3:Int)=3)];rw [if_neg (by decide: ¬(((3:Int)==1)=true)),if_neg (by decide: ¬(((3:Int)==2)=true)),if_pos (by decide:(((3:Int)==3)=true))];rw [X.wr8,j4];rfl
   by_cases h4:op=4
   ·subst h4;rw [if_neg (by decide: ¬((4:Int)=1)),if_neg (by decide: ¬((4:Int)=2)),if_neg (by decide: ¬((4:Int)=3)),if_pos (rfl:(4:Int)=4)];rw [if_neg (by decide: ¬(((4:Int)==1)=true)),if_neg (by decide: ¬(((4:Int)==2)=true)),if_neg (by decide: ¬(((4:Int)==3)=true)),if_pos (by decide:(((4:Int)==4)=true))];rw [X.wz6,if_neg (fun h=>by subst h;exact absurd hcc (by decide)),j4];rfl
   by_cases h5:op=5
   ·subst h5;rw [if_neg (by decide: ¬((5:Int)=1)),if_neg (by decide: ¬((5:Int)=2)),if_neg (by decide: ¬((5:Int)=3)),if_neg (by decide: ¬((5:Int)=4)),if_pos (rfl:(5:Int)=5)];rw [if_neg (by decide: ¬(((5:Int)==1)=true)),if_neg (by decide: ¬(((5:Int)==2)=true)),if_neg (by decide: ¬(((5:Int)==3)=true)),if_neg (by decide: ¬(((5:Int)==4)=true)),if_pos (by decide:(((5:Int)==5)=true))];rw [X.wm3,if_neg (fun h=>by subst h;exact absurd hcc (by decide)),j4];rfl
   by_cases h6:op=6
   ·subst h6;rw [if_neg (by decide: ¬((6:Int)=1)),if_neg (by decide: ¬((6:Int)=2)),if_neg (by decide: ¬((6:Int)=3)),if_neg (by decide: ¬((6:Int)=4)),if_neg (by decide: ¬((6:Int)=5)),if_pos (rfl:(6:Int)=6)];rw [if_neg (by decide: ¬(((6:Int)==1)=true)),if_neg (by decide: ¬(((6:Int)==2)=true)),if_neg (by decide: ¬(((6:Int)==3)=true)),if_neg (by decide: ¬(((6:Int)==4)=true)),if_neg (by decide: ¬(((6:Int)==5)=true)),if_pos (by decide:(((6:Int)==6)=true))];rw [X.wo8,j4];rfl
   by_cases h7:op=7
   ·subst h7;rw [if_neg (by decide: ¬((7:Int)=1)),if_neg (by decide: ¬((7:Int)=2)),if_neg (by decide: ¬((7:Int)=3)),if_neg (by decide: ¬((7:Int)=4)),if_neg (by decide: ¬((7:Int)=5)),if_neg (by decide: ¬((7:Int)=6)),if_pos (rfl:(7:Int)=7)];rw [if_neg (by decide: ¬(((7:Int)==1)=true)),if_neg (by decide: ¬(((7:Int)==2)=true)),if_neg (by decide: ¬(((7:Int)==3)=true)),if_neg (by decide: ¬(((7:Int)==4)=true)),if_neg (by decide: ¬(((7:Int)==5)=true)),if_neg (by decide: ¬(((7:Int)==6)=true)),if_pos (by decide:(((7:Int)==7)=true))];rw [X.wt0,j4];rfl
   by_cases h8:op=8
   ·subst h8;rw [if_neg (by decide: ¬((8:Int)=1)),if_neg (by decide: ¬((8:Int)=2)),if_neg (by decide: ¬((8:Int)=3)),if_neg (by decide: ¬((8:Int)=4)),if_neg (by decide: ¬((8:Int)=5)),if_neg (by decide: ¬((8:Int)=6)),if_neg (by decide: ¬((8:Int)=7)),if_pos (rfl:(8:Int)=8)];rw [if_neg (by decide: ¬(((8:Int)==1)=true)),if_neg (by decide: ¬(((8:Int)==2)=true)),if_neg (by decide: ¬(((8:Int)==3)=true)),if_neg (by decide: ¬(((8:Int)==4)=true)),if_neg (by decide: ¬(((8:Int)==5)=true)),if_neg (by decide: ¬(((8:Int)==6)=true)),if_neg (by decide: ¬(((8:Int)==7)=true)),if_pos (by decide:(((8:Int)==8)=true))];rw [X.uf9,j4];rfl
   by_cases h9:op=9
   ·subst h9;rw [if_neg (by decide: ¬((9:Int)=1)),if_neg (by decide: ¬((9:Int)=2)),if_neg (by decide: ¬((9:Int)=3)),if_neg (by decide: ¬((9:Int)=4)),if_neg (by decide: ¬((9:Int)=5)),if_neg (by decide: ¬((9:Int)=6)),if_neg (by decide: ¬((9:Int)=7)),if_neg (by decide: ¬((9:Int)=8)),if_pos (rfl:(9:Int)=9)];rw [if_neg (by decide: ¬(((9:Int)==1)=true)),if_neg (by decide: ¬(((9:Int)==2)=true)),if_neg (by decide: ¬(((9:Int)==3)=true)),if_neg (by decide: ¬(((9:Int)==4)=true)),if_neg (by decide: ¬(((9:Int)==5)=true)),if_neg (by decide: ¬(((9:Int)==6)=true)),if_neg (by decide: ¬(((9:Int)==7)=true)),if_neg (by decide: ¬(((9:Int)==8)=true)),if_pos (by decide:(((9:Int)==9)=true))];rw [X.wz0,if_neg (by decide),if_neg (zn7 ha (by decide)),j4];rfl
   by_cases h10:op=10
   ·subst h10;rw [if_neg (by decide: ¬((10:Int)=1)),if_neg (by decide: ¬((10:Int)=2)),if_neg (by decide: ¬((10:Int)=3)),if_neg (by decide: ¬((10:Int)=4)),if_neg (by decide: ¬((10:Int)=5)),if_neg (by decide: ¬((10:Int)=6)),if_neg (by decide: ¬((10:Int)=7)),if_neg (by decide: ¬((10:Int)=8)),if_neg (by decide: ¬((10:Int)=9)),if_pos (rfl:(10:Int)=10)];rw [if_neg (by decide: ¬(((10:Int)==1)=true)),if_neg (by decide: ¬(((10:Int)==2)=true)),if_neg (by decide: ¬(((10:Int)==3)=true)),if_neg (by decide: ¬(((10:Int)==4)=true)),if_neg (by decide: ¬(((10:Int)==5)=true)),if_neg (by decide: ¬(((10:Int)==6)=true)),if_neg (by decide: ¬(((10:Int)==7)=true)),if_neg (by decide: ¬(((10:Int)==8)=true)),if_neg (by decide: ¬(((10:Int)==9)=true)),if_pos (by decide:(((10:Int)==10)=true))];rw [X.wq0,if_neg (by decide),if_neg (zn7 ha (by decide)),j4];rfl
   by_cases h11:op=11
   ·subst h11;rw [if_neg (by decide: ¬((11:Int)=1)),if_neg (by decide: ¬((11:Int)=2)),if_neg (by decide: ¬((11:Int)=3)),if_neg (by decide: ¬((11:Int)=4)),if_neg (by decide: ¬((11:Int)=5)),if_neg (by decide: ¬((11:Int)=6)),if_neg (by decide: ¬((11:Int)=7)),if_neg (by decide: ¬((11:Int)=8)),if_neg (by decide: ¬((11:Int)=9)),if_neg (by decide: ¬((11:Int)=10)),if_pos (rfl:(11:Int)=11)];rw [if_neg (by decide: ¬(((11:Int)==1)=true)),if_neg (by decide: ¬(((11:Int)==2)=true)),if_neg (by decide: ¬(((11:Int)==3)=true)),if_neg (by decide: ¬(((11:Int)==4)=true)),if_neg (by decide: ¬(((11:Int)==5)=true)),if_neg (by decide: ¬(((11:Int)==6)=true)),if_neg (by decide: ¬(((11:Int)==7)=true)),if_neg (by decide: ¬(((11:Int)==8)=true)),if_neg (by decide: ¬(((11:Int)==9)=true)),if_neg (by decide: ¬(((11:Int)==10)=true)),if_pos (by decide:(((11:Int)==11)=true))];rw [X.ug1,if_neg (by decide),if_neg (zn7 ha (by decide)),j4];rfl
   by_cases h12:op=12
   ·subst h12;rw [if_neg (by decide: ¬((12:Int)=1)),if_neg (by decide: ¬((12:Int)=2)),if_neg (by decide: ¬((12:Int)=3)),if_neg (by decide: ¬((12:Int)=4)),if_neg (by decide: ¬((12:Int)=5)),if_neg (by decide: ¬((12:Int)=6)),if_neg (by decide: ¬((12:Int)=7)),if_neg (by decide: ¬((12:Int)=8)),if_neg (by decide: ¬((12:Int)=9)),if_neg (by decide: ¬((12:Int)=10)),if_neg (by decide: ¬((12:Int)=11)),if_pos (rfl:(12:Int)=12)];rw [if_neg (by decide: ¬(((12:Int)==1)=true)),if_neg (by decide: ¬(((12:Int)==2)=true)),if_neg (by decide: ¬(((12:Int)==3)=true)),if_neg (by decide: ¬(((12:Int)==4)=true)),if_neg (by decide: ¬(((12:Int)==5)=true)),if_neg (by decide: ¬(((12:Int)==6)=true)),if_neg (by decide: ¬(((12:Int)==7)=true)),if_neg (by decide: ¬(((12:Int)==8)=true)),if_neg (by decide: ¬(((12:Int)==9)=true)),if_neg (by decide: ¬(((12:Int)==10)=true)),if_neg (by decide: ¬(((12:Int)==11)=true)),if_pos (by decide:(((12:Int)==12)=true))];rw [X.wz9,j4];rfl
   by_cases h13:op=13
   ·subst h13;rw [if_neg (by decide: ¬((13:Int)=1)),if_neg (by decide: ¬((13:Int)=2)),if_neg (by decide: ¬((13:Int)=3)),if_neg (by decide: ¬((13:Int)=4)),if_neg (by decide: ¬((13:Int)=5)),if_neg (by decide: ¬((13:Int)=6)),if_neg (by decide: ¬((13:Int)=7)),if_neg (by decide: ¬((13:Int)=8)),if_neg (by decide: ¬((13:Int)=9)),if_neg (by decide: ¬((13:Int)=10)),if_neg (by decide: ¬((13:Int)=11)),if_neg (by decide: ¬((13:Int)=12)),if_pos (rfl:(13:Int)=13)];rw [if_neg (by decide: ¬(((13:Int)==1)=true)),if_neg (by decide: ¬(((13:Int)==2)=true)),if_neg (by decide: ¬(((13:Int)==3)=true)),if_neg (by decide: ¬(((13:Int)==4)=true)),if_neg (by decide: ¬(((13:Int)==5)=true)),if_neg (by decide: ¬(((13:Int)==6)=true)),if_neg (by decide: ¬(((13:Int)==7)=true)),if_neg (by decide: ¬(((13:Int)==8)=true)),if_neg (by decide: ¬(((13:Int)==9)=true)),if_neg (by decide: ¬(((13:Int)==10)=true)),if_neg (by decide: ¬(((13:Int)==11)=true)),if_neg (by decide: ¬(((13:Int)==12)=true)),if_pos (by decide:(((13:Int)==13)=true))];rw [X.ub5,j4];rfl
   rw [if_neg h1,if_neg h2,if_neg h3,if_neg h4,if_neg h5,if_neg h6,if_neg h7,if_neg h8,if_neg h9,if_neg h10,if_neg h11,if_neg h12,if_neg h13];rw [if_neg (by simpa using h1),if_neg (by simpa using h2),if_neg (by simpa using h3),if_neg (by simpa using h4),if_neg (by simpa using h5),if_neg (by simpa using h6),if_neg (by simpa using h7),if_neg (by simpa using h8),if_neg (by simpa using h9),if_neg (by simpa using h10),if_neg (by simpa using h11),if_neg (by simpa using h12),if_neg (by simpa using h13)]
 rw [X.un1,e];cases h4:(op==(4:Int)) with
 |true=>rw [j8,hj _ (by rw [h4];rfl)]
 |false=>
  rw [j6];cases h5:(op==(5:Int)) with
  |true=>rw [j8,hj _ (by rw [h4,h5];rfl)]
  |false=>rw [j6,hj _ (by rw [h4,h5];rfl)]
theorem uv8 (op a b:Int) (ha:0<=b):X.qau v5 op 64 a b=some (jr0 op 64 a b):=by
 obtain ⟨n,e⟩: ∃n:Nat,(v5:Nat)=n+1:=⟨999999999,rfl⟩;have hj: ∀c:Bool,c=(((op==4)||(op==5))&&(b==0))->X.jp7 (n+1) op c 64 a b=some (jr0 op 64 a b):=fun c hc=>by
  rw [X.vu7,hc];unfold jr0;cases hcc:(((op==(4:Int))||(op==(5:Int)))&&(b==(0:Int))) with
  |true=>rfl
  |false=>
   rw [j6,if_neg (show ¬(false=true) by decide)];by_cases h1:op=1
   ·subst h1;rw [if_pos (rfl:(1:Int)=1)];rw [if_pos (by decide:(((1:Int)==1)=true))];rw [X.uh0,j4];rfl
   by_cases h2:op=2
   ·subst h2;rw [if_neg (by decide: ¬((2:Int)=1)),if_pos (rfl:(2:Int)=2)];rw [if_neg (by decide: ¬(((2:Int)==1)=true)),if_pos (by decide:(((2:Int)==2)=true))];rw [X.uc1,j4];rfl
   by_cases h3:op=3
   ·subst h3;rw [if_neg (by decide: ¬((3:Int)=1)),if_neg (by decide: ¬((3:Int)=2)),if_pos (rfl:(3:Int)=3)];rw [if_neg (by decide: ¬(((3:Int)==1)=true)),if_neg (by decide: ¬(((3:Int)==2)=true)),if_pos (by decide:(((3:Int)==3)=true))];rw [X.uf7,j4];rfl
   by_cases h4:op=4
   ·subst h4;rw [if_neg (by decide: ¬((4:Int)=1)),if_neg (by decide: ¬((4:Int)=2)),if_neg (by decide: ¬((4:Int)=3)),if_pos (rfl:(4:Int)=4)];rw [if_neg (by decide: ¬(((4:Int)==1)=true)),if_neg (by decide: ¬(((4:Int)==2)=true)),if_neg (by decide: ¬(((4:Int)==3)=true)),if_pos (by decide:(((4:Int)==4)=true))];rw [X.ud7,if_neg (fun h=>by subst h;exact absurd hcc (by decide)),j4];rfl
   by_cases h5:op=5
   ·subst h5;rw [if_neg (by decide: ¬((5:Int)=1)),if_neg (by decide: ¬((5:Int)=2)),if_neg (by decide: ¬((5:Int)=3)),if_neg (by decide: ¬((5:Int)=4)),if_pos (rfl:(5:Int)=5)];rw [if_neg (by decide: ¬(((5:Int)==1)=true)),if_neg (by decide: ¬(((5:Int)==2)=true)),if_neg (by decide: ¬(((5:Int)==3)=true)),if_neg (by decide: ¬(((5:Int)==4)=true)),if_pos (by decide:(((5:Int)==5)=true))];rw [X.wn9,if_neg (fun h=>by subst h;exact absurd hcc (by decide)),j4];rfl
   by_cases h6:op=6
   ·subst h6;rw [if_neg (by decide: ¬((6:Int)=1)),if_neg (by decide: ¬((6:Int)=2)),if_neg (by decide: ¬((6:Int)=3)),if_neg (by decide: ¬((6:Int)=4)),if_neg (by decide: ¬((6:Int)=5)),if_pos (rfl:(6:Int)=6)];rw [if_neg (by decide: ¬(((6:Int)==1)=true)),if_neg (by decide: ¬(((6:Int)==2)=true)),if_neg (by decide: ¬(((6:Int)==3)=true)),if_neg (by decide: ¬(((6:Int)==4)=true)),if_neg (by decide: ¬(((6:Int)==5)=true)),if_pos (by decide:(((6:Int)==6)=true))];rw [X.wy0,j4];rfl
   by_cases h7:op=7
   ·subst h7;rw [if_neg (by decide: ¬((7:Int)=1)),if_neg (by decide: ¬((7:Int)=2)),if_neg (by decide: ¬((7:Int)=3)),if_neg (by decide: ¬((7:Int)=4)),if_neg (by decide: ¬((7:Int)=5)),if_neg (by decide: ¬((7:Int)=6)),if_pos (rfl:(7:Int)=7)];rw [if_neg (by decide: ¬(((7:Int)==1)=true)),if_neg (by decide: ¬(((7:Int)==2)=true)),if_neg (by decide: ¬(((7:Int)==3)=true)),if_neg (by decide: ¬(((7:Int)==4)=true)),if_neg (by decide: ¬(((7:Int)==5)=true)),if_neg (by decide: ¬(((7:Int)==6)=true)),if_pos (by decide:(((7:Int)==7)=true))];rw [X.wz2,j4];rfl
   by_cases h8:op=8
   ·subst h8;rw [if_neg (by decide: ¬((8:Int)=1)),if_neg (by decide: ¬((8:Int)=2)),if_neg (by decide: ¬((8:Int)=3)),if_neg (by decide: ¬((8:Int)=4)),if_neg (by decide: ¬((8:Int)=5)),if_neg (by decide: ¬((8:Int)=6)),if_neg (by decide: ¬((8:Int)=7)),if_pos (rfl:(8:Int)=8)];rw [if_neg (by decide: ¬(((8:Int)==1)=true)),if_neg (by decide: ¬(((8:Int)==2)=true)),if_neg (by decide: ¬(((8:Int)==3)=true)),if_neg (by decide: ¬(((8:Int)==4)=true)),if_neg (by decide: ¬(((8:Int)==5)=true)),if_neg (by decide: ¬(((8:Int)==6)=true)),if_neg (by decide: ¬(((8:Int)==7)=true)),if_pos (by decide:(((8:Int)==8)=true))];rw [X.ww6,j4];rfl
   by_cases h9:op=9
   ·subst h9;rw [if_neg (by decide: ¬((9:Int)=1)),if_neg (by decide: ¬((9:Int)=2)),if_neg (by decide: ¬((9:Int)=3)),if_neg (by decide: ¬((9:Int)=4)),if_neg (by decide: ¬((9:Int)=5)),if_neg (by decide: ¬((9:Int)=6)),if_neg (by decide: ¬((9:Int)=7)),if_neg (by decide: ¬((9:Int)=8)),if_pos (rfl:(9:Int)=9)];rw [if_neg (by decide: ¬(((9:Int)==1)=true)),if_neg (by decide: ¬(((9:Int)==2)=true)),if_neg (by decide: ¬(((9:Int)==3)=true)),if_neg (by decide: ¬(((9:Int)==4)=true)),if_neg (by decide: ¬(((9:Int)==5)=true)),if_neg (by decide: ¬(((9:Int)==6)=true)),if_neg (by decide: ¬(((9:Int)==7)=true)),if_neg (by decide: ¬(((9:Int)==8)=true)),if_pos (by decide:(((9:Int)==9)=true))];rw [X.ud0,if_neg (by decide),if_neg (zn7 ha (by decide)),j4];rfl
   by_cases h10:op=10
   ·subst h10;rw [if_neg (by decide: ¬((10:Int)=1)),if_neg (by decide: ¬((10:Int)=2)),if_neg (by decide: ¬((10:Int)=3)),if_neg (by decide: ¬((10:Int)=4)),if_neg (by decide: ¬((10:Int)=5)),if_neg (by decide: ¬((10:Int)=6)),if_neg (by decide: ¬((10:Int)=7)),if_neg (by decide: ¬((10:Int)=8)),if_neg (by decide: ¬((10:Int)=9)),if_pos (rfl:(10:Int)=10)];rw [if_neg (by decide: ¬(((10:Int)==1)=true)),if_neg (by decide: ¬(((10:Int)==2)=true)),if_neg (by decide: ¬(((10:Int)==3)=true)),if_neg (by decide: ¬(((10:Int)==4)=true)),if_neg (by decide: ¬(((10:Int)==5)=true)),if_neg (by decide: ¬(((10:Int)==6)=true)),if_neg (by decide: ¬(((10:Int)==7)=true)),if_neg (by decide: ¬(((10:Int)==8)=true)),if_neg (by decide: ¬(((10:Int)==9)=true)),if_pos (by decide:(((10:Int)==10)=true))];rw [X.uf2,if_neg (by decide),if_neg (zn7 ha (by decide)),j4];rfl
   by_cases h11:op=11
   ·subst h11;rw [if_neg (by decide: ¬((11:Int)=1)),if_neg (by decide: ¬((11:Int)=2)),if_neg (by decide: ¬((11:Int)=3)),if_neg (by decide: ¬((11:Int)=4)),if_neg (by decide: ¬((11:Int)=5)),if_neg (by decide: ¬((11:Int)=6)),if_neg (by decide: ¬((11:Int)=7)),if_neg (by decide: ¬((11:Int)=8)),if_neg (by decide: ¬((11:Int)=9)),if_neg (by decide: ¬((11:Int)=10)),if_pos (rfl:(11:Int)=11)];rw [if_neg (by decide: ¬(((11:Int)==1)=true)),if_neg (by decide: ¬(((11:Int)==2)=true)),if_neg (by decide: ¬(((11:Int)==3)=true)),if_neg (by decide: ¬(((11:Int)==4)=true)),if_neg (by decide: ¬(((11:Int)==5)=true)),if_neg (by decide: ¬(((11:Int)==6)=true)),if_neg (by decide: ¬(((11:Int)==7)=true)),if_neg (by decide: ¬(((11:Int)==8)=true)),if_neg (by decide: ¬(((11:Int)==9)=true)),if_neg (by decide: ¬(((11:Int)==10)=true)),if_pos (by decide:(((11:Int)==11)=true))];rw [X.wj7,if_neg (by decide),if_neg (zn7 ha (by decide)),j4];rfl
   by_cases h12:op=12
   ·subst h12;rw [if_neg (by decide: ¬((12:Int)=1)),if_neg (by decide: ¬((12:Int)=2)),if_neg (by decide: ¬((12:Int)=3)),if_neg (by decide: ¬((12:Int)=4)),if_neg (by decide: ¬((12:Int)=5)),if_neg (by decide: ¬((12:Int)=6)),if_neg (by decide: ¬((12:Int)=7)),if_neg (by decide: ¬((12:Int)=8)),if_neg (by decide: ¬((12:Int)=9)),if_neg (by decide: ¬((12:Int)=10)),if_neg (by decide: ¬((12:Int)=11)),if_pos (rfl:(12:Int)=12)];rw [if_neg (by decide: ¬(((12:Int)==1)=true)),if_neg (by decide: ¬(((12:Int)==2)=true)),if_neg (by decide: ¬(((12:Int)==3)=true)),if_neg (by decide: ¬(((12:Int)==4)=true)),if_neg (by decide: ¬(((12:Int)==5)=true)),if_neg (by decide: ¬(((12:Int)==6)=true)),if_neg (by decide: ¬(((12:Int)==7)=true)),if_neg (by decide: ¬(((12:Int)==8)=true)),if_neg (by decide: ¬(((12:Int)==9)=true)),if_neg (by decide: ¬(((12:Int)==10)=true)),if_neg (by decide: ¬(((12:Int)==11)=true)),if_pos (by decide:(((12:Int)==12)=true))];rw [X.wu9,j4];rfl
   by_cases h13:op=13
   ·subst h13;rw [if_neg (by decide: ¬((13:Int)=1)),if_neg (by decide: ¬((13:Int)=2)),if_neg (by decide: ¬((13:Int)=3)),if_neg (by decide: ¬((13:Int)=4)),if_neg (by decide: ¬((13:Int)=5)),if_neg (by decide: ¬((13:Int)=6)),if_neg (by decide: ¬((13:Int)=7)),if_neg (by decide: ¬((13:Int)=8)),if_neg (by decide: ¬((13:Int)=9)),if_neg (by decide: ¬((13:Int)=10)),if_neg (by decide: ¬((13:Int)=11)),if_neg (by decide: ¬((13:Int)=12)),if_pos (rfl:(13:Int)=13)];rw [if_neg (by decide: ¬(((13:Int)==1)=true)),if_neg (by decide: ¬(((13:Int)==2)=true)),if_neg (by decide: ¬(((13:Int)==3)=true)),if_neg (by decide: ¬(((13:Int)==4)=true)),if_neg (by decide: ¬(((13:Int)==5)=true)),if_neg (by decide: ¬(((13:Int)==6)=true)),if_neg (by decide: ¬(((13:Int)==7)=true)),if_neg (by decide: ¬(((13:Int)==8)=true)),if_neg (by decide: ¬(((13:Int)==9)=true)),if_neg (by decide: ¬(((13:Int)==10)=true)),if_neg (by decide: ¬(((13:Int)==11)=true)),if_neg (by decide: ¬(((13:Int)==12)=true)),if_pos (by decide:(((13:Int)==13)=true))];rw [X.wr7,j4];rfl
   rw [if_neg h1,if_neg h2,if_neg h3,if_neg h4,if_neg h5,if_neg h6,if_neg h7,if_neg h8,if_neg h9,if_neg h10,if_neg h11,if_neg h12,if_neg h13];rw [if_neg (by simpa using h1),if_neg (by simpa using h2),if_neg (by simpa using h3),if_neg (by simpa using h4),if_neg (by simpa using h5),if_neg (by simpa using h6),if_neg (by simpa using h7),if_neg (by simpa using h8),if_neg (by simpa using h9),if_neg (by simpa using h10),if_neg (by simpa using h11),if_neg (by simpa using h12),if_neg (by simpa using h13)]
 rw [X.wp3,e];cases h4:(op==(4:Int)) with
 |true=>rw [j8,hj _ (by rw [h4];rfl)]
 |false=>
  rw [j6];cases h5:(op==(5:Int)) with
  |true=>rw [j8,hj _ (by rw [h4,h5];rfl)]
  |false=>rw [j6,hj _ (by rw [h4,h5];rfl)]
theorem ge4 (x:Int):w9 (IntKind.u32.wrap x):=by rw [zd8];omega
theorem vp6 (nw:Bool) (a b:Int) (hb:0<=b):qcm v5 11 nw a b=some (zu8 11 nw a b):=by
 rw [wx9];cases nw with
 |true=>
  rw [j8,uv4 _ _ _ (ge4 b).1,j4];have:jd1 11 32 (IntKind.u32.wrap a) (IntKind.u32.wrap b)=(yk7 (IntKind.u32.wrap a) (IntKind.u32.wrap b) 32,0):=rfl;unfold zu8 zc8;rw [if_pos rfl,this];show some (IntKind.u64.wrap (yk7 _ _ 32),(0:Int))=some (yk7 _ _ 32,0);rw [zo4];exact ⟨(ge4 _).1,(ge4 _).2⟩
 |false=>rw [j6,uv8 _ _ _ hb,j4];rfl
theorem us8 (a b:Int):qde v5 a b=some (ya6 a b):=by rw [ug5];rfl
theorem go1: ∀i:Fin 256,(wg2[i.val]?).map (fun b=>(b.toNat:Int))=some (tab0.getD i.val 0):=by decide+kernel
theorem ku8: ∀i:Fin 256,0<=tab0.getD i.val 0/\tab0.getD i.val 0<=8:=by decide+kernel
theorem uh9 (x:Int):0<=IntKind.u8.wrap x/\IntKind.u8.wrap x<256:=by rw [ym4];omega
theorem uk4 {R:Type} (x:Int) (K:Int->Option R):jc2 wg2 (IntKind.u8.wrap x) K=K (tab0.getD (IntKind.u8.wrap x).toNat 0):=by
 have h:=uh9 x;have:=go1 ⟨(IntKind.u8.wrap x).toNat,by omega⟩;unfold jc2;rw [if_pos h.1];simp only at this;cases hs:wg2[(IntKind.u8.wrap x).toNat]? with
 |none=>rw [hs] at this;cases this
 |some b=>rw [hs] at this;simp only [Option.map_some,Option.some.injEq] at this;rw [<-this]
theorem uk9 (x:Int):qo v5 x=some (jj9 x):=by
 obtain ⟨n,e⟩: ∃n:Nat,(v5:Nat)=n+1+1+1:=⟨999999997,rfl⟩;have j2: ∀s0 s2:Int,0<=s2/\s2<=1000->kd4 (n+1) s0 s2=some (s2+tab0.getD (IntKind.u8.wrap s0).toNat 0):=fun s0 s2 h=>by
  have h1:=uh9 s0;have h2:=ku8 ⟨(IntKind.u8.wrap s0).toNat,by omega⟩;simp only at h2;rw [kp8,uk4,zj0 (x:=tab0.getD _ 0) (by omega),zj0 (by omega)]
 have j1: ∀s0 s2:Int,0<=s2/\s2<=900->kf0 (n+1+1) s0 s2=some (if decide (s0>=(256:Int))=true then (s2+8)+tab0.getD (IntKind.u8.wrap (zb8 .u64 s0 8)).toNat 0 else s2+tab0.getD (IntKind.u8.wrap s0).toNat 0):=fun s0 s2 h=>by
  rw [kj3,zj0 (by omega),j2 _ _ (by omega),j2 _ _ (by omega),zb7]
 have j0: ∀s0 s2:Int,0<=s2/\s2<=800->kf4 (n+1+1+1) s0 s2=some (if decide (s0>=(65536:Int))=true then (if decide (zb8 .u64 s0 16>=(256:Int))=true then (s2+16+8)+tab0.getD (IntKind.u8.wrap (zb8 .u64 (zb8 .u64 s0 16) 8)).toNat 0 else s2+16+tab0.getD (IntKind.u8.wrap (zb8 .u64 s0 16)).toNat 0) else if decide (s0>=(256:Int))=true then (s2+8)+tab0.getD (IntKind.u8.wrap (zb8 .u64 s0 8)).toNat 0 else s2+tab0.getD (IntKind.u8.wrap s0).toNat 0):=fun s0 s2 h=>by
  rw [kn1,zj0 (by omega),j1 _ _ (by omega),j1 _ _ (by omega),zb7]
 rw [uo4,e,j0 _ _ (by omega),j0 _ _ (by omega),zb7];unfold jj9;simp only [show (48:Int)+8=56 from rfl,show (16:Int)+8=24 from rfl,show (32:Int)+16=48 from rfl,show (32:Int)+8=40 from rfl,show (0:Int)+16=16 from rfl,show (0:Int)+8=8 from rfl]
end Go.Y
namespace Go.Y
open Go.RowKit Go.V Go.X Go.Proofs
theorem wa9 (x:Int): ¬zl5 x 1=0:=by unfold zl5;split<;>omega
end Go.Y
namespace Go.Y
open Go.RowKit Go.V Go.X Go.Proofs
theorem zv5 (nw:Bool):ql v5 nw=some (zh5 nw):=by rw [up8];cases nw<;>rfl
theorem zc2 (s:v3):qk v5 s=some (w5 s):=by rw [uq6];rfl
theorem ky7 (x:Int):qam v5 x=some (zn9 x):=by rw [wk0];rfl
theorem js7 (s:v3):X.qm v5 s=some (qm s):=by rw [X.um0,ky7,j4];rfl
theorem wh4 (s:v3) (nw:Bool):X.qh v5 s nw=some (qh s nw):=by rw [X.us0,zv5,j4,zb7,zb7];rfl
def wW (nw:Bool) (u v:v3):Work:=⟨u.Lo,u.Hi,v.Lo,v.Hi,nw,k9 nw,if nw then 32 else 64⟩
def tW (w:Work):Twork:=⟨⟨w.a_Lo,w.a_Hi⟩,⟨w.b_Lo,w.b_Hi⟩,w.narrow,w.most,w.size⟩
theorem zy3 (nw:Bool) (u v:v3):tW (wW nw u v)=wk nw u v:=rfl
theorem zp1 (nw:Bool) (a b:v3):X.qag v5 nw a b=some (wW nw (qh a nw) (qh b nw)):=by
 rw [X.uc7,wh4,j4,wh4,j4];cases nw<;>rfl
def pS (o:Option v3):Unit×((Span×Unit)⊕(Unit×Unit)):=((),match o with|some r=>.inl (r,())|none=>.inr ((),()))
theorem zg9 (c:Bool):qg v5 c=some ((),if c=true then .inl () else .inr ((),())):=by rw [ul3];cases c<;>rfl
theorem vj7 (w:Work) (x y:Int):X.qas v5 w x y=some (qas (tW w) x y):=by rw [X.wu3];rfl
theorem jp9 (w:Work):X.qx v5 w=some (qx (tW w)):=by
 rw [X.um9,js7,j4,js7,j4,zu7];rfl
theorem gb6 (x:Int):X.qbj v5 x=some (qbj x):=by
 have h:0<=jj9 x:=by
  have key: ∀k:Int,0<=tab0.getD (IntKind.u8.wrap k).toNat 0:=fun k=>by
   have h1:=uh9 k;exact (ku8 ⟨(IntKind.u8.wrap k).toNat,by omega⟩).1
  unfold jj9
  repeat' split
  all_goals first|exact Int.add_nonneg (by decide) (key _)
 rw [X.wj6,uk9,j4,if_neg (by omega)];rfl
theorem uk1 (w:Work):qbc v5 w=some (pS (zo5 (tW w))):=by
 obtain ⟨n,e⟩: ∃n:Nat,(v5:Nat)=n+1:=⟨999999999,rfl⟩;rw [wt3,zg9,j4,zg9,j4,e,vx4,vj7,j4];show _=some (pS (yg2 (ze6 (decide (w.b_Hi<=IntKind.u64.wrap (w.most-w.a_Hi))||decide (w.b_Lo>IntKind.u64.wrap (w.most-w.a_Lo)))) none _));cases decide (w.b_Hi<=IntKind.u64.wrap (w.most-w.a_Hi))<;>cases decide (w.b_Lo>IntKind.u64.wrap (w.most-w.a_Lo))<;>rfl
theorem up3 (w:Work):qbd v5 w=some (pS (zo9 (tW w))):=by
 obtain ⟨n,e⟩: ∃n:Nat,(v5:Nat)=n+1:=⟨999999999,rfl⟩;rw [wq4,zg9,j4,zg9,j4,e,vx7,vj7,j4];show _=some (pS (yg2 (ze6 (decide (w.a_Lo>=w.b_Hi)||decide (w.a_Hi<w.b_Lo))) none _));cases decide (w.a_Lo>=w.b_Hi)<;>cases decide (w.a_Hi<w.b_Lo)<;>rfl
theorem ua8 (w:Work):qbe v5 w=some (pS (zo6 (tW w))):=by
 obtain ⟨n,e⟩: ∃n:Nat,(v5:Nat)=n+1:=⟨999999999,rfl⟩;rw [uc8,us8,j4,zg9,j4,zg9,j4,e,ka2];show _=some (pS (yg2 (ze6 (((ya6 w.a_Hi w.b_Hi).1==(0:Int))&&decide ((ya6 w.a_Hi w.b_Hi).2<=w.most))) none _));cases ((ya6 w.a_Hi w.b_Hi).1==(0:Int))<;>cases decide ((ya6 w.a_Hi w.b_Hi).2<=w.most)<;>rfl
theorem uk7 (w:Work):X.qbq v5 w=some (qbq (tW w)):=by
 rw [X.wz8,if_neg (wa9 _),if_neg (wa9 _)];rfl
theorem ul6 (w:Work):X.qbr v5 w=some (qbr (tW w)):=by
 rw [X.wo1,zb7];rfl
theorem um8 (w:Work):X.qbk v5 w=some (qbk (tW w)):=by
 rw [X.ua9,jp9,j4,ky7,j4,zb7];rfl
theorem ux1 (w:Work):X.qbl v5 w=some (qbl (tW w)):=by
 rw [X.ub9,jp9,j4,ky7,j4,gb6,j4,zb7];rfl
theorem up0 (w:Work):X.qbm v5 w=some (qbm (tW w)):=by
 rw [X.ww9,jp9,j4,ky7,j4,gb6,j4,zb7];rfl
theorem un5 (w:Work):X.qbs v5 w=some (qbs (tW w)):=by rw [X.wy6];rfl
theorem uk0 (w:Work):qdf v5 w=some (pS (zj2 (tW w))):=by
 rw [wn1,zg9,j4,vj7,j4];show _=some (pS (if (w.a_Hi==(0:Int))=true then some ⟨w.a_Lo,w.a_Hi⟩ else yg2 (ze6 (decide (w.a_Lo>(0:Int)))) none _));cases (w.a_Hi==(0:Int))<;>cases decide (w.a_Lo>(0:Int))<;>rfl
theorem un7 (w:Work) (hs:0<w.size) (hb:0<=w.b_Lo):qbf v5 w=some (pS (zp6 (tW w))):=by
 obtain ⟨n,e⟩: ∃n:Nat,(v5:Nat)=n+1:=⟨999999999,rfl⟩;have ht:=zn7 hb hs;rw [ue5,if_neg (by omega),js7,j4,if_neg ht,zg9,j4,zg9,j4,e,vw2,if_neg ht,if_neg ht];show _=some (pS (yg2 (ze6 (qm (⟨w.b_Lo,w.b_Hi⟩:v3)&&decide (w.a_Hi<=zb8 .u64 w.most (w.b_Lo.tmod w.size)))) none _));cases qm (⟨w.b_Lo,w.b_Hi⟩:v3)<;>cases decide (w.a_Hi<=zb8 .u64 w.most (w.b_Lo.tmod w.size))<;>rfl
theorem uj9 (w:Work) (hs:0<w.size) (hb:0<=w.b_Lo) (hc:0<=w.b_Hi):X.qaf v5 w=some (qaf (tW w)):=by
 obtain ⟨n,e⟩: ∃n:Nat,(v5:Nat)=n+1:=⟨999999999,rfl⟩;have ht:=zn7 hb hs;have hu:=zn7 hc hs;rw [X.wn4,js7,j4,if_neg (by omega),if_neg (by omega),e,X.jw4,X.jw4,if_neg hu,if_neg ht,if_neg (by omega),if_neg (by omega),zb7,zb7];rfl
theorem jz1 (w:Work) (x:Int):X.qz v5 w x=some (qz (tW w) x):=by
 rw [X.ut3,if_neg (by rw [za2];omega)];rfl
theorem vn5 (w:Work) (s:v3):X.qan v5 w s=some (qan (tW w) s):=by
 rw [X.wq8,jz1,j4,jz1,j4];rfl
theorem us7 (w:Work) (hb:0<=w.b_Lo):qbg v5 w=some (pS (zp3 (tW w))):=by
 obtain ⟨n,e⟩: ∃n:Nat,(v5:Nat)=n+1:=⟨999999999,rfl⟩;rw [uh4,js7,j4,vn5,j4,zg9,j4,zg9,j4,e,vs6,vp6 _ _ _ hb,j4,vp6 _ _ _ hb,j4];show _=some (pS (yg2 (ze6 (qm (⟨w.b_Lo,w.b_Hi⟩:v3)&& !(qan (tW w) (⟨w.a_Lo,w.a_Hi⟩:v3)))) none _));cases qm (⟨w.b_Lo,w.b_Hi⟩:v3)<;>cases qan (tW w) (⟨w.a_Lo,w.a_Hi⟩:v3)<;>rfl
end Go.Y
namespace Go.Y
open Go.RowKit Go.V Go.X Go.Proofs
theorem doP (nw:Bool) (x:Option v3):(match (pS x).2 with| .inl z=>(j7 (qat nw z.1.Lo z.1.Hi) fun y=>some ((),((⟨y.2.1.1,y.2.1.2.1⟩:Span),())))| .inr _=>(j7 (qbz nw 0 0) fun y=>some ((),((⟨y.2.1.1,y.2.1.2.1⟩:Span),()))))=some ((),(x.getD (zh5 nw),())):=by
 cases x with
 |none=>show j7 (qbz nw 0 0) _=_;rw [ug8,zv5,j4,j4];rfl
 |some r=>show j7 (qat nw r.Lo r.Hi) _=_;rw [ky8,j4];rfl
theorem doT (nw:Bool) (r:v3):(j7 (qat nw r.Lo r.Hi) fun y=>some ((),((⟨y.2.1.1,y.2.1.2.1⟩:Span),())))=some ((),(r,())):=by rw [ky8,j4]
theorem doR (k:Int) (hk:1<=k/\k<=13) (nw:Bool) (a b:v3):span_Do k nw a b=if ((!w5 a)|| !w5 b)=true then zh5 nw else (zc1 k (wk nw (qh a nw) (qh b nw))).getD (zh5 nw):=by
 rw [zv7,vi3];unfold w5;by_cases h1:a.Lo<=a.Hi
 ·by_cases h2:b.Lo<=b.Hi
  ·rw [if_pos ⟨hk,h1,h2⟩,decide_eq_true h1,decide_eq_true h2];rfl
  ·rw [if_neg (fun h=>h2 h.2.2),decide_eq_false h2,decide_eq_true h1];rfl
 ·rw [if_neg (fun h=>h1 h.2.1),decide_eq_false h1];rfl
theorem do1 (nw:Bool) (a b:v3) (ha:w9 a.Lo/\w9 a.Hi) (hb:w9 b.Lo/\w9 b.Hi):qn v5 1 nw a b=some ((),(span_Do 1 nw a b,())):=by
 have hr: ∀w,zc1 1 w=zo5 w:=fun w=>by
  unfold zc1;rw [if_pos (rfl:(1:Int)=1)]
 rw [doR 1 (by decide),hr,ye9,zp5,j4,if_pos (rfl:(1:Int)=1),zc2,j4,zv5,j4,zc2,j4,zp1,j4];cases h1:w5 a with
 |false=>rfl
 |true=>
  cases h2:w5 b with
  |false=>rfl
  |true=>
   rw [Bool.not_true,j6,j6,uk1,j4,zy3];exact doP nw _
theorem do2 (nw:Bool) (a b:v3) (ha:w9 a.Lo/\w9 a.Hi) (hb:w9 b.Lo/\w9 b.Hi):qn v5 2 nw a b=some ((),(span_Do 2 nw a b,())):=by
 have hr: ∀w,zc1 2 w=zo9 w:=fun w=>by
  unfold zc1;rw [if_neg (by decide: ¬((2:Int)=1)),if_pos (rfl:(2:Int)=2)]
 rw [doR 2 (by decide),hr,ye9,zp5,j4,if_neg (by decide: ¬((2:Int)=1)),if_pos (rfl:(2:Int)=2),zc2,j4,zv5,j4,zc2,j4,zp1,j4];cases h1:w5 a with
 |false=>rfl
 |true=>
  cases h2:w5 b with
  |false=>rfl
  |true=>
   rw [Bool.not_true,j6,j6,up3,j4,zy3];exact doP nw _
theorem do3 (nw:Bool) (a b:v3) (ha:w9 a.Lo/\w9 a.Hi) (hb:w9 b.Lo/\w9 b.Hi):qn v5 3 nw a b=some ((),(span_Do 3 nw a b,())):=by
 have hr: ∀w,zc1 3 w=zo6 w:=fun w=>by
  unfold zc1;rw [if_neg (by decide: ¬((3:Int)=1)),if_neg (by decide: ¬((3:Int)=2)),if_pos (rfl:(3:Int)=3)]
 rw [doR 3 (by decide),hr,ye9,zp5,j4,if_neg (by decide: ¬((3:Int)=1)),if_neg (by decide: ¬((3:Int)=2)),if_pos (rfl:(3:Int)=3),zc2,j4,zv5,j4,zc2,j4,zp1,j4];cases h1:w5 a with
 |false=>rfl
 |true=>
  cases h2:w5 b with
  |false=>rfl
  |true=>
   rw [Bool.not_true,j6,j6,ua8,j4,zy3];exact doP nw _
theorem do4 (nw:Bool) (a b:v3) (ha:w9 a.Lo/\w9 a.Hi) (hb:w9 b.Lo/\w9 b.Hi):qn v5 4 nw a b=some ((),(span_Do 4 nw a b,())):=by
 have hr: ∀w,zc1 4 w=some (qbq w):=fun w=>by
  unfold zc1;rw [if_neg (by decide: ¬((4:Int)=1)),if_neg (by decide: ¬((4:Int)=2)),if_neg (by decide: ¬((4:Int)=3)),if_pos (rfl:(4:Int)=4)]
 rw [doR 4 (by decide),hr,ye9,zp5,j4,if_neg (by decide: ¬((4:Int)=1)),if_neg (by decide: ¬((4:Int)=2)),if_neg (by decide: ¬((4:Int)=3)),if_pos (rfl:(4:Int)=4),zc2,j4,zv5,j4,zc2,j4,zp1,j4];cases h1:w5 a with
 |false=>rfl
 |true=>
  cases h2:w5 b with
  |false=>rfl
  |true=>
   rw [Bool.not_true,j6,j6,uk7,j4,zy3];exact doT nw _
theorem do5 (nw:Bool) (a b:v3) (ha:w9 a.Lo/\w9 a.Hi) (hb:w9 b.Lo/\w9 b.Hi):qn v5 5 nw a b=some ((),(span_Do 5 nw a b,())):=by
 have hr: ∀w,zc1 5 w=some (qbr w):=fun w=>by
  unfold zc1;rw [if_neg (by decide: ¬((5:Int)=1)),if_neg (by decide: ¬((5:Int)=2)),if_neg (by decide: ¬((5:Int)=3)),if_neg (by decide: ¬((5:Int)=4)),if_pos (rfl:(5:Int)=5)]
 rw [doR 5 (by decide),hr,ye9,zp5,j4,if_neg (by decide: ¬((5:Int)=1)),if_neg (by decide: ¬((5:Int)=2)),if_neg (by decide: ¬((5:Int)=3)),if_neg (by decide: ¬((5:Int)=4)),if_pos (rfl:(5:Int)=5),zc2,j4,zv5,j4,zc2,j4,zp1,j4];cases h1:w5 a with
 |false=>rfl
 |true=>
  cases h2:w5 b with
  |false=>rfl
  |true=>
   rw [Bool.not_true,j6,j6,ul6,j4,zy3];exact doT nw _
theorem do6 (nw:Bool) (a b:v3) (ha:w9 a.Lo/\w9 a.Hi) (hb:w9 b.Lo/\w9 b.Hi):qn v5 6 nw a b=some ((),(span_Do 6 nw a b,())):=by
 have hr: ∀w,zc1 6 w=some (qbk w):=fun w=>by
  unfold zc1;rw [if_neg (by decide: ¬((6:Int)=1)),if_neg (by decide: ¬((6:Int)=2)),if_neg (by decide: ¬((6:Int)=3)),if_neg (by decide: ¬((6:Int)=4)),if_neg (by decide: ¬((6:Int)=5)),if_pos (rfl:(6:Int)=6)]
 rw [doR 6 (by decide),hr,ye9,zp5,j4,if_neg (by decide: ¬((6:Int)=1)),if_neg (by decide: ¬((6:Int)=2)),if_neg (by decide: ¬((6:Int)=3)),if_neg (by decide: ¬((6:Int)=4)),if_neg (by decide: ¬((6:Int)=5)),if_pos (rfl:(6:Int)=6),zc2,j4,zv5,j4,zc2,j4,zp1,j4];cases h1:w5 a with
 |false=>rfl
 |true=>
  cases h2:w5 b with
  |false=>rfl
  |true=>
   rw [Bool.not_true,j6,j6,um8,j4,zy3];exact doT nw _
theorem do7 (nw:Bool) (a b:v3) (ha:w9 a.Lo/\w9 a.Hi) (hb:w9 b.Lo/\w9 b.Hi):qn v5 7 nw a b=some ((),(span_Do 7 nw a b,())):=by
 have hr: ∀w,zc1 7 w=some (qbl w):=fun w=>by
  unfold zc1;rw [if_neg (by decide: ¬((7:Int)=1)),if_neg (by decide: ¬((7:Int)=2)),if_neg (by decide: ¬((7:Int)=3)),if_neg (by decide: ¬((7:Int)=4)),if_neg (by decide: ¬((7:Int)=5)),if_neg (by decide: ¬((7:Int)=6)),if_pos (rfl:(7:Int)=7)]
 rw [doR 7 (by decide),hr,ye9,zp5,j4,if_neg (by decide: ¬((7:Int)=1)),if_neg (by decide: ¬((7:Int)=2)),if_neg (by decide: ¬((7:Int)=3)),if_neg (by decide: ¬((7:Int)=4)),if_neg (by decide: ¬((7:Int)=5)),if_neg (by decide: ¬((7:Int)=6)),if_pos (rfl:(7:Int)=7),zc2,j4,zv5,j4,zc2,j4,zp1,j4];cases h1:w5 a with
 |false=>rfl
 |true=>
  cases h2:w5 b with
  |false=>rfl
  |true=>
   rw [Bool.not_true,j6,j6,ux1,j4,zy3];exact doT nw _
theorem do8 (nw:Bool) (a b:v3) (ha:w9 a.Lo/\w9 a.Hi) (hb:w9 b.Lo/\w9 b.Hi):qn v5 8 nw a b=some ((),(span_Do 8 nw a b,())):=by
 have hr: ∀w,zc1 8 w=some (qbm w):=fun w=>by
  unfold zc1;rw [if_neg (by decide: ¬((8:Int)=1)),if_neg (by decide: ¬((8:Int)=2)),if_neg (by decide: ¬((8:Int)=3)),if_neg (by decide: ¬((8:Int)=4)),if_neg (by decide: ¬((8:Int)=5)),if_neg (by decide: ¬((8:Int)=6)),if_neg (by decide: ¬((8:Int)=7)),if_pos (rfl:(8:Int)=8)]
 rw [doR 8 (by decide),hr,ye9,zp5,j4,if_neg (by decide: ¬((8:Int)=1)),if_neg (by decide: ¬((8:Int)=2)),if_neg (by decide: ¬((8:Int)=3)),if_neg (by decide: ¬((8:Int)=4)),if_neg (by decide: ¬((8:Int)=5)),if_neg (by decide: ¬((8:Int)=6)),if_neg (by decide: ¬((8:Int)=7)),if_pos (rfl:(8:Int)=8),zc2,j4,zv5,j4,zc2,j4,zp1,j4];cases h1:w5 a with
 |false=>rfl
 |true=>
  cases h2:w5 b with
  |false=>rfl
  |true=>
   rw [Bool.not_true,j6,j6,up0,j4,zy3];exact doT nw _
theorem do9 (nw:Bool) (a b:v3) (ha:w9 a.Lo/\w9 a.Hi) (hb:w9 b.Lo/\w9 b.Hi):qn v5 9 nw a b=some ((),(span_Do 9 nw a b,())):=by
 have hr: ∀w,zc1 9 w=zp6 w:=fun w=>by
  unfold zc1;rw [if_neg (by decide: ¬((9:Int)=1)),if_neg (by decide: ¬((9:Int)=2)),if_neg (by decide: ¬((9:Int)=3)),if_neg (by decide: ¬((9:Int)=4)),if_neg (by decide: ¬((9:Int)=5)),if_neg (by decide: ¬((9:Int)=6)),if_neg (by decide: ¬((9:Int)=7)),if_neg (by decide: ¬((9:Int)=8)),if_pos (rfl:(9:Int)=9)]
 rw [doR 9 (by decide),hr,ye9,zp5,j4,if_neg (by decide: ¬((9:Int)=1)),if_neg (by decide: ¬((9:Int)=2)),if_neg (by decide: ¬((9:Int)=3)),if_neg (by decide: ¬((9:Int)=4)),if_neg (by decide: ¬((9:Int)=5)),if_neg (by decide: ¬((9:Int)=6)),if_neg (by decide: ¬((9:Int)=7)),if_neg (by decide: ¬((9:Int)=8)),if_pos (rfl:(9:Int)=9),zc2,j4,zv5,j4,zc2,j4,zp1,j4];cases h1:w5 a with
 |false=>rfl
 |true=>
  cases h2:w5 b with
  |false=>rfl
  |true=>
   have hu:=(zu6 (nw:=nw) ha (of_decide_eq_true h1)).u;have hv:=(zu6 (nw:=nw) hb (of_decide_eq_true h2)).u;have hs:0<(wW nw (qh a nw) (qh b nw)).size:=by unfold wW;cases nw;exact (by decide:(0:Int)<64);exact (by decide:(0:Int)<32)
   rw [Bool.not_true,j6,j6,un7 _ hs hv.1.1,j4,zy3];exact doP nw _
theorem uv7 (nw:Bool) (a b:v3) (ha:w9 a.Lo/\w9 a.Hi) (hb:w9 b.Lo/\w9 b.Hi):qn v5 10 nw a b=some ((),(span_Do 10 nw a b,())):=by
 have hr: ∀w,zc1 10 w=some (qaf w):=fun w=>by
  unfold zc1;rw [if_neg (by decide: ¬((10:Int)=1)),if_neg (by decide: ¬((10:Int)=2)),if_neg (by decide: ¬((10:Int)=3)),if_neg (by decide: ¬((10:Int)=4)),if_neg (by decide: ¬((10:Int)=5)),if_neg (by decide: ¬((10:Int)=6)),if_neg (by decide: ¬((10:Int)=7)),if_neg (by decide: ¬((10:Int)=8)),if_neg (by decide: ¬((10:Int)=9)),if_pos (rfl:(10:Int)=10)]
 rw [doR 10 (by decide),hr,ye9,zp5,j4,if_neg (by decide: ¬((10:Int)=1)),if_neg (by decide: ¬((10:Int)=2)),if_neg (by decide: ¬((10:Int)=3)),if_neg (by decide: ¬((10:Int)=4)),if_neg (by decide: ¬((10:Int)=5)),if_neg (by decide: ¬((10:Int)=6)),if_neg (by decide: ¬((10:Int)=7)),if_neg (by decide: ¬((10:Int)=8)),if_neg (by decide: ¬((10:Int)=9)),if_pos (rfl:(10:Int)=10),zc2,j4,zv5,j4,zc2,j4,zp1,j4];cases h1:w5 a with
 |false=>rfl
 |true=>
  cases h2:w5 b with
  |false=>rfl
  |true=>
   have hu:=(zu6 (nw:=nw) ha (of_decide_eq_true h1)).u;have hv:=(zu6 (nw:=nw) hb (of_decide_eq_true h2)).u;have hs:0<(wW nw (qh a nw) (qh b nw)).size:=by unfold wW;cases nw;exact (by decide:(0:Int)<64);exact (by decide:(0:Int)<32)
   rw [Bool.not_true,j6,j6,uj9 _ hs hv.1.1 hv.2.1,j4,zy3];exact doT nw _
theorem ux0 (nw:Bool) (a b:v3) (ha:w9 a.Lo/\w9 a.Hi) (hb:w9 b.Lo/\w9 b.Hi):qn v5 11 nw a b=some ((),(span_Do 11 nw a b,())):=by
 have hr: ∀w,zc1 11 w=zp3 w:=fun w=>by
  unfold zc1;rw [if_neg (by decide: ¬((11:Int)=1)),if_neg (by decide: ¬((11:Int)=2)),if_neg (by decide: ¬((11:Int)=3)),if_neg (by decide: ¬((11:Int)=4)),if_neg (by decide: ¬((11:Int)=5)),if_neg (by decide: ¬((11:Int)=6)),if_neg (by decide: ¬((11:Int)=7)),if_neg (by decide: ¬((11:Int)=8)),if_neg (by decide: ¬((11:Int)=9)),if_neg (by decide: ¬((11:Int)=10)),if_pos (rfl:(11:Int)=11)]
 rw [doR 11 (by decide),hr,ye9,zp5,j4,if_neg (by decide: ¬((11:Int)=1)),if_neg (by decide: ¬((11:Int)=2)),if_neg (by decide: ¬((11:Int)=3)),if_neg (by decide: ¬((11:Int)=4)),if_neg (by decide: ¬((11:Int)=5)),if_neg (by decide: ¬((11:Int)=6)),if_neg (by decide: ¬((11:Int)=7)),if_neg (by decide: ¬((11:Int)=8)),if_neg (by decide: ¬((11:Int)=9)),if_neg (by decide: ¬((11:Int)=10)),if_pos (rfl:(11:Int)=11),zc2,j4,zv5,j4,zc2,j4,zp1,j4];cases h1:w5 a with
 |false=>rfl
 |true=>
  cases h2:w5 b with
  |false=>rfl
  |true=>
   have hu:=(zu6 (nw:=nw) ha (of_decide_eq_true h1)).u;have hv:=(zu6 (nw:=nw) hb (of_decide_eq_true h2)).u;rw [Bool.not_true,j6,j6,us7 _ hv.1.1,j4,zy3];exact doP nw _
theorem uw6 (nw:Bool) (a b:v3) (ha:w9 a.Lo/\w9 a.Hi) (hb:w9 b.Lo/\w9 b.Hi):qn v5 12 nw a b=some ((),(span_Do 12 nw a b,())):=by
 have hr: ∀w,zc1 12 w=some (qbs w):=fun w=>by
  unfold zc1;rw [if_neg (by decide: ¬((12:Int)=1)),if_neg (by decide: ¬((12:Int)=2)),if_neg (by decide: ¬((12:Int)=3)),if_neg (by decide: ¬((12:Int)=4)),if_neg (by decide: ¬((12:Int)=5)),if_neg (by decide: ¬((12:Int)=6)),if_neg (by decide: ¬((12:Int)=7)),if_neg (by decide: ¬((12:Int)=8)),if_neg (by decide: ¬((12:Int)=9)),if_neg (by decide: ¬((12:Int)=10)),if_neg (by decide: ¬((12:Int)=11)),if_pos (rfl:(12:Int)=12)]
 rw [doR 12 (by decide),hr,ye9,zp5,j4,if_neg (by decide: ¬((12:Int)=1)),if_neg (by decide: ¬((12:Int)=2)),if_neg (by decide: ¬((12:Int)=3)),if_neg (by decide: ¬((12:Int)=4)),if_neg (by decide: ¬((12:Int)=5)),if_neg (by decide: ¬((12:Int)=6)),if_neg (by decide: ¬((12:Int)=7)),if_neg (by decide: ¬((12:Int)=8)),if_neg (by decide: ¬((12:Int)=9)),if_neg (by decide: ¬((12:Int)=10)),if_neg (by decide: ¬((12:Int)=11)),if_pos (rfl:(12:Int)=12),zc2,j4,zv5,j4,zc2,j4,zp1,j4];cases h1:w5 a with
 |false=>rfl
 |true=>
  cases h2:w5 b with
  |false=>rfl
  |true=>
   rw [Bool.not_true,j6,j6,un5,j4,zy3];exact doT nw _
theorem uv6 (nw:Bool) (a b:v3) (ha:w9 a.Lo/\w9 a.Hi) (hb:w9 b.Lo/\w9 b.Hi):qn v5 13 nw a b=some ((),(span_Do 13 nw a b,())):=by
 have hr: ∀w,zc1 13 w=zj2 w:=fun w=>by
  unfold zc1;rw [if_neg (by decide: ¬((13:Int)=1)),if_neg (by decide: ¬((13:Int)=2)),if_neg (by decide: ¬((13:Int)=3)),if_neg (by decide: ¬((13:Int)=4)),if_neg (by decide: ¬((13:Int)=5)),if_neg (by decide: ¬((13:Int)=6)),if_neg (by decide: ¬((13:Int)=7)),if_neg (by decide: ¬((13:Int)=8)),if_neg (by decide: ¬((13:Int)=9)),if_neg (by decide: ¬((13:Int)=10)),if_neg (by decide: ¬((13:Int)=11)),if_neg (by decide: ¬((13:Int)=12))]
 rw [doR 13 (by decide),hr,ye9,zp5,j4,if_neg (by decide: ¬((13:Int)=1)),if_neg (by decide: ¬((13:Int)=2)),if_neg (by decide: ¬((13:Int)=3)),if_neg (by decide: ¬((13:Int)=4)),if_neg (by decide: ¬((13:Int)=5)),if_neg (by decide: ¬((13:Int)=6)),if_neg (by decide: ¬((13:Int)=7)),if_neg (by decide: ¬((13:Int)=8)),if_neg (by decide: ¬((13:Int)=9)),if_neg (by decide: ¬((13:Int)=10)),if_neg (by decide: ¬((13:Int)=11)),if_neg (by decide: ¬((13:Int)=12)),if_pos (rfl:(13:Int)=13),zc2,j4,zv5,j4,zc2,j4,zp1,j4];cases h1:w5 a with
 |false=>rfl
 |true=>
  cases h2:w5 b with
  |false=>rfl
  |true=>
   rw [Bool.not_true,j6,j6,uk0,j4,zy3];exact doP nw _
theorem ut8 (op:Int) (nw:Bool) (a b:v3) (ha:w9 a.Lo/\w9 a.Hi) (hb:w9 b.Lo/\w9 b.Hi):qn v5 op nw a b=some ((),(span_Do op nw a b,())):=by
 by_cases h1:op=1
 ·subst h1;exact do1 nw a b ha hb
 by_cases h2:op=2
 ·subst h2;exact do2 nw a b ha hb
 by_cases h3:op=3
 ·subst h3;exact do3 nw a b ha hb
 by_cases h4:op=4
 ·subst h4;exact do4 nw a b ha hb
 by_cases h5:op=5
 ·subst h5;exact do5 nw a b ha hb
 by_cases h6:op=6
 ·subst h6;exact do6 nw a b ha hb
 by_cases h7:op=7
 ·subst h7;exact do7 nw a b ha hb
 by_cases h8:op=8
 ·subst h8;exact do8 nw a b ha hb
 by_cases h9:op=9
 ·subst h9;exact do9 nw a b ha hb
 by_cases h10:op=10
 ·subst h10;exact uv7 nw a b ha hb
 by_cases h11:op=11
 ·subst h11;exact ux0 nw a b ha hb
 by_cases h12:op=12
 ·subst h12;exact uw6 nw a b ha hb
 by_cases h13:op=13
 ·subst h13;exact uv6 nw a b ha hb
 rw [ye9,zp5,j4,if_neg h1,if_neg h2,if_neg h3,if_neg h4,if_neg h5,if_neg h6,if_neg h7,if_neg h8,if_neg h9,if_neg h10,if_neg h11,if_neg h12,if_neg h13,zv5,j4,zv7,if_neg (fun h=>by have:=h.1;omega),vi3]
end Go.Y
namespace Go.Y
open Go.RowKit Go.V Go.X Go.Proofs
theorem ji8 (nw:Bool):k9 nw<=18446744073709551615:=by cases nw<;>decide
def uj0 (nw:Bool) (a b:v3) (o:Option (v3×v3)):Span×Span×Bool:=match o with|none=>(⟨0,0⟩,⟨0,0⟩,false)|some x=>(if a.Hi>k9 nw then a else x.1,if b.Hi>k9 nw then b else x.2,true)
theorem kj4 {op:Int} (hop:17<=op/\op<=26):17<=ji0 op/\ji0 op<=26:=by
 unfold ji0
 repeat' split
 all_goals omega
def ifE (op:Int) (nw yes:Bool) (a b:v3):Span×Span×Bool:=if (17<=op/\op<=27)/\a.Lo<=a.Hi/\b.Lo<=b.Hi then uj0 nw a b (kg0 nw op yes (qh a nw) (qh b nw)) else (a,b,true)
end Go.Y
namespace Go.Y
open Go.RowKit Go.V Go.X Go.Proofs
theorem ka5 {op:Int} (hop:17<=op/\op<=26):17<=ji0 op/\ji0 op<=26/\(ji0 op>=23↔op>=23):=by
 unfold ji0
 repeat' split
 all_goals omega
end Go.Y
