import Derived.Test.YtnhnejjdokeikaaGreatM3
set_option linter.defProp false
namespace Go.Y
open Go.RowKit Go.V Go.X Go.Proofs
def jd8 {a} {l:List a} {d i} (h:i<l.length):l.getD i d=l[i]:=by rw [Y2,Y0 h];rfl
def vd3 (a b):jk6 a b<=b/\(jk6 a b<b->jk6 a b=a)/\(0<=a->0<=b->0<=jk6 a b):=by
 unfold jk6;split<;>omega
def qj0 (x:List Tale): ∀(m i n:Nat) (a:Int),i+m=x.length->x.length<=9223372036854775807->0<=a->a<=30000->2*m+2<=n-> ∃b,qb6 n x a i=some b/\(b=true->x.length<=200/\ ∀j,i<=j->j<x.length->(x.getD j v6).Bytes.length<9000/\(x.getD j v6).Entry_Data.length<9000)
 |0,i,n,a,e,l,t,o,u=>by
  obtain ⟨n,rfl⟩: ∃k,n=k+1+1:=⟨n-2,by omega⟩;rw [yv2,W5 (by omega),j6,yi4,j6];by_cases h:x.length<=200
  ·rw [W4 (by omega),j8];exact ⟨_,rfl,fun _=>⟨h,fun j o A=>by omega⟩⟩
  ·rw [W5 (by omega),j6];exact ⟨_,rfl,fun h=>by cases h⟩
 |m+1,i,n,a,e,l,t,o,u=>by
  obtain ⟨n,rfl⟩: ∃k,n=k+1+1:=⟨n-2,by omega⟩;have B:i<x.length:=by omega
  rw [yv2,W4 (by omega),j8,yi4];by_cases h:a<9000
  ·rw [W4 h,j8,if_pos (by omega),if_pos (by omega)];obtain ⟨v,p,f⟩:=vd3 (((x.getD ((i:Nat):Int).toNat v6).Bytes.length:Nat):Int) 9000;obtain ⟨w,q,g⟩:=vd3 (((x.getD ((i:Nat):Int).toNat v6).Entry_Data.length:Nat):Int) 9000;have f:=f (by omega) (by omega);have g:=g (by omega) (by omega);rw [Z1] at v p f w q g⊢;rw [zc3 (x:=a+_) (by omega),zc3 (x:=a+_+_) (by omega),zc3 (x:=((i:Nat):Int)+1) (by omega)];obtain ⟨b,c,r⟩:=qj0 x m (i+1) n (a+jk6 ((x.getD i v6).Bytes.length:Int) 9000+jk6 ((x.getD i v6).Entry_Data.length:Int) 9000) (by omega) l (by omega) (by omega) (by omega);refine ⟨b,c,fun d=>⟨(r d).1,fun j C y=>?_⟩⟩;by_cases z:j=i
   ·subst z;by_cases s:a+jk6 ((x.getD j v6).Bytes.length:Int) 9000+jk6 ((x.getD j v6).Entry_Data.length:Int) 9000<9000
    ·have:=p (by omega);have:=q (by omega);omega
    ·exfalso;obtain ⟨n,rfl⟩: ∃k,n=k+1+1:=⟨n-2,by omega⟩;rw [yv2,yi4,W5 s] at c;have:(j9 false (if 0<=((j+1:Nat):Int)/\((j+1:Nat):Int)<((x.length:Nat):Int) then (none:Option Bool) else none) none)=none:=by rw [j6]
     simp only [j6,yi4] at c;rw [d] at c;simp only [q7] at c;split at c<;>split at c<;>first|(simp at c;done)|(simp at s c;omega)
   ·exact (r d).2 j (by omega) y
  ·rw [W5 h,j6];by_cases h:x.length<=200
   ·rw [W4 (by omega),j8];exact ⟨_,rfl,fun d=>by cases d⟩
   ·rw [W5 (by omega),j6];exact ⟨_,rfl,fun h=>by cases h⟩
def ga8 (x) (e:x.length<=9223372036854775807): ∃b,qag (2*x.length+9) x=some b/\(b=true->x.length<=200/\ ∀t∈x,t.Bytes.length<9000/\t.Entry_Data.length<9000):=by
 rw [wd1];obtain ⟨b,f,a⟩:=qj0 x x.length 0 (2*x.length+9) 0 (W7 _) e (by omega) (by omega) (by omega);refine ⟨b,f,fun c=>⟨(a c).1,fun t g=>?_⟩⟩;obtain ⟨j,d,rfl⟩:=List.getElem_of_mem g;have:=(a c).2 j (by omega) d;rwa [jd8 d] at this
def vw7 (k:Int) (x:List Tale):Int:=if 1<=k/\k<=7 then zb3 x [] (List.replicate k.toNat (sv0 k)) else 2
def un6 (k x) (h: ¬(1<=k/\k<=7)):qam v8 k x=some ((),((2:Int),())):=by
 obtain ⟨n,a⟩: ∃n,v8=n+1:=⟨999999999,rfl⟩;rw [we2];by_cases b:k<1
 ·rw [W4 b,j8,a,jt2,j8]
 ·rw [W5 b,j6,W4 (by omega),a,jt2,j8]
def ud9 {l} (k:Int) (x:List Tale) (a: ∀t∈x,TOk t) (b:x.length<=1000) (f:Int->Option l):
  j9 (decide (k=(1:Int))) (j7 (qk v8 x) fun y=>f y.2.1) (j9 (decide (k=(2:Int))) (j7 (qm v8 x) fun y=>f y.2.1)
  (j9 (decide (k=(3:Int))) (j7 (qn v8 x) fun y=>f y.2.1) (j9 (decide (k=(4:Int))) (j7 (qo v8 x) fun y=>f y.2.1)
  (j9 (decide (k=(5:Int))) (j7 (qp v8 x) fun y=>f y.2.1) (j9 (decide (k=(6:Int))) (j7 (qq v8 x) fun y=>f y.2.1)
  (j9 (decide (k=(7:Int))) (j7 (qr v8 x) fun y=>f y.2.1) (j7 (qam v8 k x) fun y=>f y.2.1)))))))=f (vw7 k x):=by
 rw [qd3 x a b,wz3 x a b,wz4 x a b,wz5 x a b,wz6 x a b,wz7 x a b,wz8 x a b];simp only [j4];unfold vw7;by_cases c:k=1
 ·subst c;rfl
 rw [W5 c,j6];by_cases d:k=2
 ·subst d;rfl
 rw [W5 d,j6];by_cases e:k=3
 ·subst e;rfl
 rw [W5 e,j6];by_cases g:k=4
 ·subst g;rfl
 rw [W5 g,j6];by_cases h:k=5
 ·subst h;rfl
 rw [W5 h,j6];by_cases i:k=6
 ·subst i;rfl
 rw [W5 i,j6];by_cases j:k=7
 ·subst j;rfl
 rw [W5 j,j6,un6 k x (by omega),j4,if_neg (by omega)]
def yp1:List Tale->List Entry->Option (List Entry)
 | [],o=>some o
 |t::r,o=>if t.Kind=2 then (if (zf7 o t.Index (zv0 t)).2=true then yp1 r (zf7 o t.Index (zv0 t)).1 else none) else yp1 r o
def uj2:Option (List Entry)->List Entry×Bool|some o=>(o,true)|none=>([],false)
def goodT {x:List Tale} (h:Go.X.Good TT (.list (.user 4)) x):x.length<=9223372036854775807/\ ∀t∈x,(∀z∈t.Entry_Data,0<=z/\z<=255)/\ ∀z∈t.Bytes,0<=z/\z<=255:=by
 have a:=Go.X.GoodV.listB (T:=TT) (e:=.user 4) (h ⟨.list (.user 4),x⟩ (Q4.2 rfl));refine ⟨by have:=a.1;unfold maxLen at this;exact this,fun t g=>⟨fun b c=>?_,fun b c=>?_⟩⟩
 ·have d:=a.2 t g;have f:=(Go.X.GoodV.listB (T:=TT) (e:=.int .u8) (d ⟨.list (.int .u8),t.Entry_Data⟩ (X6 (i:=9) (rfl:(Tale.cs t)[9]?=some _)))).2 b c;exact Go.X.Good.int (T:=TT) (k:=.u8) f
 ·have d:=a.2 t g;have f:=(Go.X.GoodV.listB (T:=TT) (e:=.int .u8) (d ⟨.list (.int .u8),t.Bytes⟩ (X6 (i:=12) (rfl:(Tale.cs t)[12]?=some _)))).2 b c;exact Go.X.Good.int (T:=TT) (k:=.u8) f
end Go.Y
namespace Go.Y
open Go.RowKit Go.V Go.X Go.Proofs
def Reg (a:List Tale) (j:Nat) (v:Int):Prop:= ∃t∈a,t.Kind=2/\t.Server=((j+1:Nat):Int)/\t.Entry_Kind=2/\t.Entry_Version=v/\t.Err=0
def Reg.more {a j v} (h:Reg a j v) (t):Reg (a++ [t]) j v:=by
 obtain ⟨u,b,c⟩:=h;exact ⟨u,X4.2 (.inl b),c⟩
structure RI (pre:List Tale) (j:Nat) (m:Mc):Prop where
 held: ∀p∈m.held,Reg pre j p.1
 act:m.act=0\/Reg pre j m.act
 bef:m.bef=0\/Reg pre j m.bef
 roll:m.roll=0\/Reg pre j m.roll
def RI.more {a j m} (h:RI a j m) (t):RI (a++ [t]) j m:=
 ⟨fun p b=>(h.held p b).more t,h.act.imp id fun h=>h.more t,h.bef.imp id fun h=>h.more t,h.roll.imp id fun h=>h.more t⟩
def qo5 {c:Type} {v:Int}: ∀ {m:List (Int×c)},zx1 m v=true-> ∃p∈m,p.1=v
 | [],h=>by cases h
 |(y,a)::r,h=>by
  unfold zx1 at h;by_cases b:v=y
  ·exact ⟨(y,a),U2 ..,b.symm⟩
  ·rw [if_neg b] at h;have d:zx1 r v=true:=h;obtain ⟨p,e,f⟩:=qo5 d;exact ⟨p,Z4 _ e,f⟩
def RI.app {b j m} (h:RI b j m) {t} (i:t.Kind=2) (k:t.Server=((j+1:Nat):Int)) (e:(yx2 m (zv0 t)).2=t.Err):RI (b++ [t]) j (yx2 m (zv0 t)).1:=by
 have a:=h.more t;have c: ∀f:Mc,RI (b++ [t]) j f->RI (b++ [t]) j (yi9 f):=fun f h=>⟨h.held,h.act,h.bef,.inl rfl⟩
 revert e
 unfold yx2;split
 ·exact fun _=>a
 ·split
  ·rename_i _ g;unfold vh2;split
   ·exact fun _=>a
   ·split
    ·exact fun _=>a
    ·split
     ·exact fun _=>a
     ·intro e;refine ⟨fun p d=>?_,a.act,a.bef,a.roll⟩;rcases ya7 d with rfl|d
      ·exact ⟨t,by simp,i,k,g,rfl,e.symm⟩
      ·exact a.held p d
  ·split
   ·unfold vw1;split
    ·exact fun _=>a
    ·rename_i l;split
     ·exact fun _=>a
     ·split
      ·exact fun _=>a
      ·intro _;refine ⟨a.held,a.act,a.bef,.inr ?_⟩;obtain ⟨p,d,n⟩:=qo5 (m:=m.held) (v:=(zv0 t).Version) (by revert l;cases zx1 m.held (zv0 t).Version<;>simp);exact n▸a.held p d
   ·split
    ·unfold qp5;split
     ·exact fun _=>a
     ·split
      ·exact fun _=>a
      ·split
       ·exact fun _=>⟨a.held,a.act,a.bef,a.roll⟩
       ·exact fun _=>⟨a.held,a.act,a.bef,a.roll⟩
    ·split
     ·unfold qp6;split
      ·exact fun _=>a
      ·rename_i o;split
       ·exact fun _=>a
       ·intro _;refine c _ ⟨a.held,?_,a.act,a.roll⟩;show (zv0 t).Version=0\/Reg _ j (zv0 t).Version;have:(zv0 t).Version=m.roll:=by revert o;simp only [not_or,Classical.not_not];omega
        rw [this];exact a.roll
     ·split
      ·unfold jy5;split
       ·exact fun _=>a
       ·split
        ·split
         ·exact fun _=>c _ ⟨a.held,a.bef,.inl rfl,a.roll⟩
         ·exact fun _=>⟨a.held,a.bef,.inl rfl,a.roll⟩
        ·exact fun _=>c _ a
      ·exact fun _=>a
def RL (a:List Tale) (l:List Sv):Prop:= ∀j s,l[j]?=some s->RI a j s.m
def kp8 (a:List Tale) (t:Tale):Prop:=(t.Kind=4->t.Version=0->t.Verdict=1)/\(t.Kind=3->t.Version≠0-> ∃j:Nat,t.Server=((j+1:Nat):Int)/\Reg a j t.Version)
def kb8 {o l t} (h:(zb5 o l t).2.2=0): ∃(j:Nat) (s:Sv),l[j]?=some s/\t.Server=((j+1:Nat):Int)/\zh5 t.Kind=true/\(onS o s t).2.2=0/\zb5 o l t=((onS o s t).1,l.set j (qw4 (onS o s t).2.1 t.Kind),0):=by
 by_cases b:1<=t.Server/\t.Server<=(l.length:Int)
 ·cases hk:zh5 t.Kind with
  |false=>rw [za7 (.inr hk)] at h;cases h
  |true=>
   have a:(t.Server-1).toNat<l.length:=by omega
   have e:=zd9 (o:=o) (l:=l) (t:=t) (t.Server-1).toNat l[(t.Server-1).toNat] (Y0 a) (by omega) hk;rw [e] at h;have h:(onS o l[(t.Server-1).toNat] t).2.2=0:=h;exact ⟨_,_,Y0 a,by omega,rfl,h,by rw [e,h]⟩
 ·rw [za7 (.inl b)] at h;cases h
def kb6 {b o s t j} (h:RI b j s.m) (k:t.Server=((j+1:Nat):Int)) (a:(onS o s t).2.2=0):kp8 b t/\RI (b++ [t]) j (onS o s t).2.1.m:=by
 unfold onS at a⊢;by_cases g:t.Kind=2
 ·rw [if_pos g] at a⊢;refine ⟨⟨fun c=>by omega,fun d=>by omega⟩,?_⟩;unfold apM at a⊢;split at a
  ·rename_i l;split at a
   ·rename_i n;rw [if_pos l,if_pos n];have a:(if (yx2 s.m (zv0 t)).2=t.Err then (0:Int) else 4)=0:=a;split at a
    ·rename_i p;exact h.app g k p
    ·cases a
   ·cases a
  ·cases a
 ·rw [if_neg g] at a⊢;by_cases d:t.Kind=3
  ·rw [if_pos d] at a⊢;have a:(acM s t).2=0:=a;unfold acM at a⊢;split at a
   ·rename_i e;rw [if_pos e];refine ⟨⟨fun c=>by omega,fun _ f=>⟨j,k,?_⟩⟩,h.more t⟩;have:t.Version=s.m.act:=e.2.2.resolve_left f;rw [this] at f⊢;exact h.act.resolve_left f
   ·cases a
  ·rw [if_neg d] at a⊢;by_cases c:t.Kind=4
   ·rw [if_pos c] at a⊢;have a:veM s t=0:=a;refine ⟨⟨fun _ f=>?_,fun i=>absurd i d⟩,h.more t⟩;unfold veM at a;split at a
    ·rename_i e;have q:s.wk=0:=e.1▸f;have:=e.2.2;rw [show yn9 s t.Bytes=(1,true) by unfold yn9;rw [if_pos q]] at this;exact this.symm
    ·cases a
   ·rw [if_neg c];exact ⟨⟨fun h=>absurd h c,fun h=>absurd h d⟩,h.more t⟩
def jv1: ∀(x a o l),RL a l->zb3 x o l=0-> ∀i (c:i<x.length),kp8 (a++x.take i) x[i]
 | [],_,_,_,_,_,i,c=>by simp at c
 |t::r,a,o,l,f,h,i,c=>by
  unfold zb3 at h;split at h
  ·rename_i d;obtain ⟨j,s,k,m,w,n,p⟩:=kb8 d;obtain ⟨u,v⟩:=kb6 (f j s k) m n;cases i with
   |zero=>simpa using u
   |succ i=>
    have e:RL (a++ [t]) (zb5 o l t).2.1:=by
     intro q z b;rw [p] at b
     replace b:(l.set j (qw4 (onS o s t).2.1 t.Kind))[q]?=some z:=b
     rw [List.getElem?_set] at b;by_cases g:j=q
     ·subst g;rw [if_pos rfl] at b;split at b
      ·have:=X5 b;subst this;exact v
      ·cases b
     ·rw [if_neg g] at b;exact (f q z b).more t
    have:=jv1 r (a++ [t]) _ _ e h i (by simpa using c);simpa [Q2] using this
  ·rename_i d;exact absurd h d
def cond (x:List Tale) (i k:Nat):Bool:=((x.getD k v6).Kind==2)&&(((x.getD k v6).Server==(x.getD i v6).Server)&&(((x.getD k v6).Entry_Kind==2)&&(((x.getD k v6).Entry_Version==(x.getD i v6).Version)&&((x.getD k v6).Err==0))))
def qp3 (x i) (o:i<x.length) (p:x.length<=1000) (n): ∀(m k b),k+m=i->(b=true\/ ∃q,k<=q/\q<i/\cond x i q=true)->vt7 (n+2*m+1) x ((i:Nat):Int) b ((k:Nat):Int)=qc3 n x ((i:Nat):Int)
 |0,k,b,r,h=>by
  rw [ql2,W5 (by omega),j6];rcases h with rfl|⟨q,f,g,_⟩
  ·rfl
  ·omega
 |m+1,k,b,r,h=>by
  have a: ∀l,(l=true\/ ∃q,k+1<=q/\q<i/\cond x i q=true)->jg0 (n+2*m+1+1) x ((i:Nat):Int) l ((k:Nat):Int)=qc3 n x ((i:Nat):Int):=fun l s=>by
   rw [kc7,nx (len:=i) (by omega) (by omega)];exact qp3 x i o p n m (k+1) l (by omega) s
  have d: ∀c:Bool,cond x i k=c->b=false->(c=true\/ ∃q,k+1<=q/\q<i/\cond x i q=true):=by
   intro c t u;rcases h with h|⟨q,f,g,j⟩
   ·rw [u] at h;cases h
   ·by_cases v:q=k
    ·subst v;exact .inl (t▸j)
    ·exact .inr ⟨q,by omega,g,j⟩
  rw [show n+2*(m+1)+1=(n+2*m+1+1)+1 from rfl,ql2,W4 (by omega),j8,if_pos (by omega)];cases b with
  |true=>rw [j8];exact a true (.inl rfl)
  |false=>
   rw [j6,Z1,Z1];have e:=d _ rfl rfl;unfold cond at e;cases f:((x.getD k v6).Kind==2) with
   |false=>rw [j6];rw [f] at e;exact a _ e
   |true=>
    rw [j8,if_pos (by omega)];cases g:((x.getD k v6).Server==(x.getD i v6).Server) with
    |false=>rw [j6];rw [f,g] at e;exact a _ e
    |true=>
     rw [j8];cases j:((x.getD k v6).Entry_Kind==2) with
     |false=>rw [j6];rw [f,g,j] at e;exact a _ e
     |true=>
      rw [j8,if_pos (by omega)];cases h4:((x.getD k v6).Entry_Version==(x.getD i v6).Version) with
      |false=>rw [j6];rw [f,g,j,h4] at e;exact a _ e
      |true=>rw [j8];rw [f,g,j,h4] at e;exact a _ e
def qp2 (x) (C:x.length<=200) (r: ∀i (c:i<x.length),kp8 (x.take i) x[i]): ∀(m i n),i+m=x.length->1000*m+1<=n->vt6 n x ((i:Nat):Int)=some true
 |0,i,n,d,f=>by
  obtain ⟨n,rfl⟩:=up f;rw [ql1,W5 (by omega),j6]
 |m+1,i,n,d,f=>by
  have c:i<x.length:=by omega
  have D:x.getD i v6=x[i]:=jd8 c;obtain ⟨s,t⟩:=r i c;rw [<-D] at s t;have g: ∀n,1000*m+2<=n->qc3 n x ((i:Nat):Int)=some true:=fun n f=>by
   obtain ⟨n,rfl⟩: ∃k,n=k+1:=⟨n-1,by omega⟩;rw [kc5,nx c (by omega)];exact qp2 x C r m (i+1) n (by omega) (by omega)
  obtain ⟨n,rfl⟩: ∃k,n=k+1+1+1:=⟨n-3,by omega⟩;have a:qt8 (n+1+1) x ((i:Nat):Int) false=some true:=by
   rw [kc6,j6,if_pos (by omega),Z1];by_cases h:(x.getD i v6).Kind=3
   ·rw [show ((x.getD i v6).Kind != 3)=false by simpa using h,j6,if_pos (by omega),ql0];by_cases b:(x.getD i v6).Version=0
    ·rw [show ((x.getD i v6).Version==0)=true by simpa using b,j8];exact g n (by omega)
    ·rw [show ((x.getD i v6).Version==0)=false by simpa using b,j6];obtain ⟨j,E,u,F,v,w,y,z,A⟩:=t h b;obtain ⟨q,G,rfl⟩:=List.getElem_of_mem F;have l:q<i:=by rw [Y6] at G;omega
     have H:cond x i q=true:=by
      have e:(x.take i)[q]=x.getD q v6:=by rw [jd8 (by omega),List.getElem_take]
      rw [e] at v w y z A;unfold cond;rw [v,w,<-E,y,z,A];simp
     obtain ⟨B,o⟩: ∃k,n=k+2*i+1:=⟨n-2*i-1,by omega⟩;rw [o];have:=qp3 x i c (by omega) B i 0 false (by omega) (.inr ⟨q,by omega,l,H⟩);rw [show ((0:Int))=((0:Nat):Int) from rfl,this];exact g B (by omega)
   ·rw [show ((x.getD i v6).Kind != 3)=true by simpa using h,j8,ql0,j8];exact g n (by omega)
  rw [ql1,W4 (by omega),j8,if_pos (by omega),Z1];by_cases p:(x.getD i v6).Kind=4
  ·rw [show ((x.getD i v6).Kind==4)=true by simpa using p,j8,if_pos (by omega)];by_cases b:(x.getD i v6).Version=0
   ·rw [show ((x.getD i v6).Version==0)=true by simpa using b,j8,if_pos (by omega),s p b];exact a
   ·rw [show ((x.getD i v6).Version==0)=false by simpa using b,j6];exact a
  ·rw [show ((x.getD i v6).Kind==4)=false by simpa using p,j6];exact a
def kf9 {k x} (h:vw7 k x=0):(1<=k/\k<=7)/\zb3 x [] (List.replicate k.toNat (sv0 k))=0:=by
 unfold vw7 at h;split at h
 ·rename_i a;exact ⟨a,h⟩
 ·cases h
def RL0 (k n):RL [] (List.replicate n (sv0 k)):=fun j s h=>by
 have:s=sv0 k:=List.eq_of_mem_replicate (X6 h);subst this;exact ⟨fun p a=>(by cases a),.inl rfl,.inl rfl,.inl rfl⟩
def works_true (k x) (c:x.length<=9223372036854775807) (g: ∀t∈x,(∀z∈t.Entry_Data,0<=z/\z<=255)/\ ∀z∈t.Bytes,0<=z/\z<=255) (d:qde v8=some true):qb v8 k x=some true:=by
 obtain ⟨n,h⟩: ∃n,v8=n+1:=⟨999999999,rfl⟩;have q:n=999999999:=by have:(1000000000:Nat)=n+1:=h;omega
 obtain ⟨b,l,m⟩:=ga8 x c;have e:qb (n+1) k x=some true:=by
  rw [uf0,d,j4];rw [show (!true)=false from rfl,j6,l,j4];cases b with
  |false=>rw [show (!false)=true from rfl,j8,qk9,j8]
  |true=>
   obtain ⟨c,j⟩:=m rfl;have o: ∀t∈x,TOk t:=fun t a=>⟨by have:=j t a;omega,(g t a).1,by have:=j t a;omega,(g t a).2⟩;rw [show (!true)=false from rfl,j6];refine (ud9 k x o (by omega) fun e=>yn3 (n+1) x (e != 0)).trans ?_;rw [qk9];by_cases f:vw7 k x=0
   ·rw [show (vw7 k x != 0)=false by simpa using f,j6];have:=jv1 x [] [] _ (RL0 k k.toNat) (kf9 f).2;exact qp2 x c (fun i p=>by simpa using this i p) x.length 0 n (W7 _) (by omega)
   ·rw [show (vw7 k x != 0)=true by simpa using f,j8]
 rw [h];exact e
end Go.Y
namespace Go.Y
open Go.RowKit Go.V Go.X Go.Proofs
def yu9 (x) (c: ∀t∈x,TOk t) (e:x.length<=1000): ∀(m i n o),i+m=x.length->o.length<=i->2*m+1<=n->qb3 n ((x.length:Nat):Int) ((i:Nat):Int) x o=some ((x,()),((uj2 (yp1 (x.drop i) o)).1,(uj2 (yp1 (x.drop i) o)).2,()))
 |0,i,n,o,d,h,f=>by
  obtain ⟨n,rfl⟩:=up f;rw [js5,W5 (by omega),j6,V6 (by omega)];rfl
 |m+1,i,n,o,d,h,f=>by
  obtain ⟨n,rfl⟩: ∃k,n=k+1+1:=⟨n-2,by omega⟩;have a:i<x.length:=by omega
  have g:x.getD i v6=x[i]:=jd8 a;have j:TOk (x.getD i v6):=by rw [g];exact c _ (J8 a)
  have p:=j.dl;have l:yp1 (x.drop i) o=if (x.getD i v6).Kind=2 then (if (zf7 o (x.getD i v6).Index (zv0 (x.getD i v6))).2=true then yp1 (x.drop (i+1)) (zf7 o (x.getD i v6).Index (zv0 (x.getD i v6))).1 else none) else yp1 (x.drop (i+1)) o:=by rw [U4 a,<-g];rfl
  rw [js5,W4 (by omega),j8,if_pos (by omega),Z1,l];by_cases b:(x.getD i v6).Kind=2
  ·rw [show ((x.getD i v6).Kind==2)=true by simpa using b,j8,if_pos b,vq0 o _ (zv0 (x.getD i v6)) (by omega) (by show (x.getD i v6).Entry_Data.length<=_;omega),j4];dsimp only;rw [js4];cases hb:(zf7 o (x.getD i v6).Index (zv0 (x.getD i v6))).2 with
   |true=>
    rw [show (!true)=false from rfl,j6,if_pos rfl,nx a (by omega)];have:=yn7 o (x.getD i v6).Index (zv0 (x.getD i v6));exact yu9 x c e m (i+1) n _ (by omega) (by omega) (by omega)
   |false=>rw [show (!false)=true from rfl,j8,if_neg (by simp)];rfl
  ·rw [show ((x.getD i v6).Kind==2)=false by simpa using b,j6,if_neg b,js4,j6,nx a (by omega)];exact yu9 x c e m (i+1) n _ (by omega) (by omega) (by omega)
abbrev ye6:Tale:=⟨(2:Int),(1:Int),(1:Int),(0:Int),(1:Int),(1:Int),(0:Int),(0:Int),false,([]:List Int),(0:Int),(0:Int),([]:List Int)⟩
abbrev jf6 (v:Int):Tale:=⟨(4:Int),(1:Int),(0:Int),(0:Int),(0:Int),(0:Int),(0:Int),(0:Int),false,([]:List Int),(0:Int),v,([]:List Int)⟩
def tk1:TOk ye6:=⟨V7 _,by simp,V7 _,by simp⟩
def tk2 (v):TOk (jf6 v):=⟨V7 _,by simp,V7 _,by simp⟩
def a1:qaa v8 [ye6,jf6 1]=some (([ye6,jf6 1],()),([zv0 ye6],true,())):=by
 rw [wc1];refine (yu9 [ye6,jf6 1] (fun t a=>?_) (by decide) 2 0 v8 [] rfl (by decide) (by decide)).trans (by kernel_rfl);rcases Z0.1 a with rfl|a
 ·exact tk1
 ·rw [Q4.1 a];exact tk2 1
def a2:zb3 [ye6,jf6 1] [] [sv0 1]=0:=by kernel_rfl
def a3:zb3 [ye6,jf6 2] [] [sv0 1]=11:=by kernel_rfl
def a4:zb3 [ye6,ye6] [] [sv0 1]=8:=by kernel_rfl
def two {a b} (d:TOk a) (e:TOk b): ∀t∈ [a,b],TOk t:=fun t c=>by
 rcases Z0.1 c with rfl|c
 ·exact d
 ·rw [Q4.1 c];exact e
def awake_true:qde v8=some true:=by
 rw [wn1,a1,j4,qd3 [ye6,jf6 1] (two tk1 (tk2 1)) (by decide),Z8,j4,a2];rw [show ((0:Int)==0)=true from rfl,j8,qd3 [ye6,jf6 2] (two tk1 (tk2 2)) (by decide),Z8,j4,a3];rw [show ((11:Int)==11)=true from rfl,j8,qd3 [ye6,ye6] (two tk1 tk1) (by decide),Z8,j4,a4];rfl
end Go.Y
