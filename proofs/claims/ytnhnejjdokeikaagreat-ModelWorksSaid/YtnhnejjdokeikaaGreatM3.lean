import Derived.Test.YtnhnejjdokeikaaGreatM2
import Derived.Test.YtnhnejjdokeikaaGreatM1
import Derived.Test.YtnhnejjdokeikaaGreatIf
set_option linter.defProp false
namespace Go.Y
open Go.RowKit Go.V Go.X Go.Proofs
structure Sv where
 m:Mc
 ap:Int
 wk:Int
 la:Int
def dSv:Sv:=⟨⟨0,[],0,0,0,[],false⟩,0,0,0⟩
abbrev zv0 (t:Tale):Entry:=⟨t.Entry_Term,t.Entry_Kind,t.Entry_Version,t.Entry_Server,t.Entry_Good,t.Entry_Data⟩
def vu8 (a b:Entry):Bool:=(a.Term==b.Term)&&((a.Kind==b.Kind)&&((a.Version==b.Version)&&((a.Server==b.Server)&&((a.Good==b.Good)&&decide (a.Data=b.Data)))))
def kp2 (a b) (h:b.Data.length<=1000000):qcl v8 a b=some (vu8 a b):=by
 rw [wk1,jd4 _ _ h,j4];unfold vu8;simp only [q7];cases a.Term==b.Term<;>cases a.Kind==b.Kind<;>cases a.Version==b.Version<;>cases a.Server==b.Server<;>cases a.Good==b.Good<;>rfl
def zf7 (o:List Entry) (a:Int) (e:Entry):List Entry×Bool:=
 if a<1\/a>(o.length:Int)+1 then (o,false) else if a<=(o.length:Int) then (o,vu8 (o.getD (a-1).toNat jb0) e) else (o++ [e],true)
def yc9 {o a e} (h:a<1\/a>(o.length:Int)+1):zf7 o a e=(o,false):=if_pos h
def ju7 {o a e} (h:1<=a/\a<=(o.length:Int)):zf7 o a e=(o,vu8 (o.getD (a-1).toNat jb0) e):=by
 unfold zf7;rw [if_neg (by omega),if_pos h.2]
def ju6 {o a e} (h:a=(o.length:Int)+1):zf7 o a e=(o++ [e],true):=by
 unfold zf7;rw [if_neg (by omega),if_neg (by omega)]
def vq1 (o a e) (i:o.length<=1000000) (h:e.Data.length<=1000000):qas v8 o a e=some ((((zf7 o a e).1,(),()),(),(),()),((zf7 o a e).2,())):=by
 obtain ⟨n,b⟩: ∃n,v8=n+1:=⟨999999999,rfl⟩;rw [wf0,zc3 (by omega)];by_cases d:a<1
 ·rw [W4 d,j8,b,yv4,j8,yc9 (.inl d)]
 ·rw [W5 d,j6];by_cases f:a>(o.length:Int)+1
  ·rw [W4 f,b,yv4,j8,yc9 (.inr f)]
  ·rw [W5 f,b,yv4,j6];by_cases g:a<=(o.length:Int)
   ·rw [W4 g,j8,zc3 (by omega),if_pos (by omega),kp2 _ e h,j4,ju7 ⟨by omega,g⟩]
   ·rw [W5 g,j6,ys4 _ h,j4,if_pos (by omega),ju6 (by omega)]
def vq0 (o a e) (i:o.length<=1000000) (h:e.Data.length<=1000000):qao v8 o a e=some ((((zf7 o a e).1,()),(),()),((zf7 o a e).2,())):=by
 obtain ⟨n,b⟩: ∃n,v8=n+1:=⟨999999999,rfl⟩;rw [we6,zc3 (by omega)];by_cases d:a<1
 ·rw [W4 d,j8,b,yv3,j8,yc9 (.inl d)]
 ·rw [W5 d,j6];by_cases f:a>(o.length:Int)+1
  ·rw [W4 f,b,yv3,j8,yc9 (.inr f)]
  ·rw [W5 f,b,yv3,j6];by_cases g:a<=(o.length:Int)
   ·rw [W4 g,j8,zc3 (by omega),if_pos (by omega),kp2 _ e h,j4,ju7 ⟨by omega,g⟩]
   ·rw [W5 g,j6,ys4 _ h,j4,if_pos (by omega),ju6 (by omega)]
def nxt (x:Int):Int:=IntKind.i64.wrap (x+1)
def apM (o:List Entry) (s:Sv) (t:Tale):List Entry×Sv×Int:=
 if t.Index=nxt s.ap then
  (if (zf7 o t.Index (zv0 t)).2=true then ((zf7 o t.Index (zv0 t)).1,⟨(yx2 s.m (zv0 t)).1,nxt s.ap,s.wk,s.la⟩,if (yx2 s.m (zv0 t)).2=t.Err then 0 else 4) else ((zf7 o t.Index (zv0 t)).1,s,8))
 else (o,s,8)
def acM (s:Sv) (t:Tale):Sv×Int:=
 if s.la=2/\t.Version≠s.wk/\(t.Version=0\/t.Version=s.m.act) then (⟨s.m,s.ap,t.Version,s.la⟩,0) else (s,4)
def yn9 (s:Sv) (b:List Int):Int×Bool:=
 if s.wk=0 then (1,true) else if b.length>65535 then (0,true) else
  let l:=jk7 s.m.held s.wk
  let c:=if okG (zv2 l)=true then (zv2 l).c else []
  let o:=E.runAll (C.getsP c).1 b
  (o.Verdict,okG (zv2 l)&&(((C.getsP c).2==0)&&(o.Err==0)))
def veM (s:Sv) (t:Tale):Int:=if t.Version=s.wk/\(yn9 s t.Bytes).2=true/\(yn9 s t.Bytes).1=t.Verdict then 0 else 11
abbrev psv (s:Sv):Unit×Int×Int×Int×Unit:=((),s.ap,s.wk,s.la,())
abbrev pmm (m:Mc):Int×Unit×Int×Int×Int×Unit×Bool×Unit:=(m.sv,(),m.act,m.bef,m.roll,(),m.no,())
structure TOk (t:Tale):Prop where
 dl:t.Entry_Data.length<=9000
 db: ∀x∈t.Entry_Data,0<=x/\x<=255
 bl:t.Bytes.length<=9000
 bb: ∀x∈t.Bytes,0<=x/\x<=255
structure SvOk (s:Sv) (c:Nat):Prop where
 m:okM s.m c
 hb: ∀p∈s.m.held,∀x∈p.2,0<=x/\x<=255
section
variable {s:Sv} {c:Nat} {t:Tale} {o:List Entry}
def kj3:qc v8 o s.m.sv s.m.held s.m.act s.m.bef s.m.roll s.m.yes s.m.no s.ap s.wk s.la t=some ((((),(),()),o,(),psv s,pmm s.m,s.m.held,s.m.yes,()),((0:Int),())):=uf1 ..
def vj2 (h:SvOk s c) (e:TOk t) (f:o.length<=1000000):qf v8 o s.m.sv s.m.held s.m.act s.m.bef s.m.roll s.m.yes s.m.no s.ap s.wk s.la t=
  some ((((apM o s t).1,(),()),(),(),psv (apM o s t).2.1,pmm (apM o s t).2.1.m,(apM o s t).2.1.m.held,(apM o s t).2.1.m.yes,()),((apM o s t).2.2,())):=by
 obtain ⟨n,d⟩: ∃n,v8=n+1:=⟨999999999,rfl⟩;have i:=e.dl;rw [uf6,show IntKind.i64.wrap (s.ap+1)=nxt s.ap from rfl];unfold apM;by_cases a:t.Index=nxt s.ap
 ·rw [show (t.Index != nxt s.ap)=false by simpa using a,j6,vq1 o t.Index (zv0 t) f (by show t.Entry_Data.length<=_;omega),j4,if_pos a];dsimp only;cases h2:(zf7 o t.Index (zv0 t)).2 with
  |false=>
   rw [show (!false)=true from rfl,d,jt6,j8,if_neg (by simp)]
  |true=>
   have g:=uc6 s.m (zv0 t) (by have:=h.m.sv;omega) (by show t.Entry_Data.length<=_;omega);rw [show (!true)=false from rfl,d,jt6,j6,g,j4,if_pos rfl];dsimp only;by_cases b:(yx2 s.m (zv0 t)).2=t.Err
   ·rw [show ((yx2 s.m (zv0 t)).2 != t.Err)=false by simpa using b,j6,if_pos b];rfl
   ·rw [show ((yx2 s.m (zv0 t)).2 != t.Err)=true by simpa using b,j8,if_neg b];rfl
 ·rw [show (t.Index != nxt s.ap)=true by simpa using a,j8,d,kd0,j8,if_neg a]
def vx2 (h:SvOk s c) (g:c<=1000):qg v8 o s.m.sv s.m.held s.m.act s.m.bef s.m.roll s.m.yes s.m.no s.ap s.wk s.la t=
  some ((((),(),()),o,(),psv (acM s t).1,pmm (acM s t).1.m,(acM s t).1.m.held,(acM s t).1.m.yes,()),((acM s t).2,())):=by
 obtain ⟨n,a⟩: ∃n,v8=n+1:=⟨999999999,rfl⟩;rw [uf7];unfold acM;by_cases b:s.la=2
 ·rw [show (s.la != 2)=false by simpa using b,j6];by_cases d:t.Version=s.wk
  ·rw [show (t.Version==s.wk)=true by simpa using d,j8,a,yg0,j8,if_neg (by simp [d])]
  ·rw [show (t.Version==s.wk)=false by simpa using d,j6];by_cases e:t.Version=0
   ·rw [show (t.Version != 0)=false by simpa using e,j6,a,yg0,j6,if_pos ⟨b,d,.inl e⟩]
   ·rw [show (t.Version != 0)=true by simpa using e,j8,gf3 s.m h.m g,j4];dsimp only;rw [show (vb7 s.m).Active=s.m.act from rfl];by_cases f:t.Version=s.m.act
    ·rw [show (t.Version != s.m.act)=false by simpa using f,a,yg0,j6,if_pos ⟨b,d,.inr f⟩]
    ·rw [show (t.Version != s.m.act)=true by simpa using f,a,yg0,j8,if_neg (by simp [e,f])]
 ·rw [show (s.la != 2)=true by simpa using b,j8,a,yg0,j8,if_neg (by simp [b])]
end
def gz7 (l) (g:l.length<=1000000):qdk v8 l=some ((l,()),(if okG (zv2 l)=true then ((⟨(zv2 l).v,(zv2 l).c,(zv2 l).d,(zv2 l).t⟩:Bundle),0,()) else ((⟨0,[],[],[]⟩:Bundle),4,()))):=by
 have p:okR l ⟨0,l.length,false⟩:=W7 _;have k:=qm8 p;have m:=yc7 k;have q:=yc7 m;have r:=yo6 l g;have u:=zn1 l _ k g;have w:=zn1 l _ m g;have x:=zn1 l _ q g;rw [show zv2 l=⟨(zp5 l ⟨0,l.length,false⟩).1,(zb2 l (zp5 l ⟨0,l.length,false⟩).2).1,(zb2 l (zb2 l (zp5 l ⟨0,l.length,false⟩).2).2).1,(zb2 l (zb2 l (zb2 l (zp5 l ⟨0,l.length,false⟩).2).2).2).1,(zb2 l (zb2 l (zb2 l (zp5 l ⟨0,l.length,false⟩).2).2).2).2⟩ from rfl];generalize zp5 l ⟨0,l.length,false⟩=a at *;generalize zb2 l a.2=b at *;generalize zb2 l b.2=c at *;generalize zb2 l c.2=d at *;have y: ∃z,qcs v8 l=some ((((),()),l,()),z)/\((okG ⟨a.1,b.1,c.1,d.1,d.2⟩=true/\z=.inl ((a.1,b.1,c.1,d.1,()),()))\/(okG ⟨a.1,b.1,c.1,d.1,d.2⟩=false/\ ∃e:Int,z=.inr (e,())/\e≠0)):=by
  rw [wk8,wy1,if_pos (by omega),j4];dsimp only;rw [M1,r,j4];dsimp only;rw [u,j4];dsimp only;rw [w,j4];dsimp only;rw [x,j4];dsimp only;rw [kh5,j4];dsimp only;rw [yd9,j4];unfold okG;dsimp only;cases hd:(!d.2.bad&&(d.2.n==0)) with
  |false=>
   rw [show (!false)=true from rfl,if_pos rfl];exact ⟨_,rfl,.inr ⟨by simp,4,rfl,by decide⟩⟩
  |true=>
   rw [show (!true)=false from rfl,if_neg (by simp)];dsimp only;obtain ⟨z,i,f⟩:=jd2 a.1 b.1 c.1 d.1;rw [i,j4];rcases f with ⟨rfl,h⟩|⟨e,rfl,j,h⟩
   ·exact ⟨_,rfl,.inl ⟨by rw [M4];exact h,rfl⟩⟩
   ·exact ⟨_,rfl,.inr ⟨by rw [M4];exact h,e,rfl,j⟩⟩
 obtain ⟨z,i,f⟩:=y;rw [wo3,wf6,i,j4];rcases f with ⟨h,rfl⟩|⟨h,e,rfl,j⟩
 ·rw [h,if_pos rfl];dsimp only;rw [kl4,j4,j4];rfl
 ·rw [h,if_neg (by simp)];dsimp only;rw [kl5,j4,j4];dsimp only;rw [show (e != 0)=true by simpa using j,j8]
def qg0 {l s x} (h:x∈(zb2 l s).1):x∈l:=by
 unfold zb2 at h;split at h
 ·cases h
 ·split at h
  ·split at h
   ·exact List.mem_of_mem_drop (J7 h)
   ·cases h
  ·cases h
section
variable {s:Sv} {c:Nat} {t:Tale} {o:List Entry}
def wz9 (h:SvOk s c) (b) (j: ∀x∈b,0<=x/\x<=255):qdo v8 s.m.sv s.m.held s.m.act s.m.bef s.m.roll s.m.yes s.m.no s.ap s.wk s.la b=some ((psv s,pmm s.m,s.m.held,s.m.yes,()),((yn9 s b).1,(yn9 s b).2,())):=by
 rw [wp1];unfold yn9;by_cases e:s.wk=0
 ·rw [show (s.wk==0)=true by simpa using e,j8,if_pos e]
 ·rw [show (s.wk==0)=false by simpa using e,j6,if_neg e];by_cases k:b.length>65535
  ·rw [W4 (by omega),j8,if_pos k]
  ·rw [W5 (by omega),j6,if_neg k,gz3 s.m s.wk h.m,j4];dsimp only;have n:(jk7 s.m.held s.wk).length<=1000000:=yf5 (P:=fun l=>l.length<=1000000) (by simp) s.wk fun p f=>by have:=h.m.dl p f;omega
   have g: ∀x∈jk7 s.m.held s.wk,0<=x/\x<=255:=yf5 (P:=fun l=> ∀x∈l,0<=x/\x<=255) (by simp) s.wk fun p f=>h.hb p f;generalize jk7 s.m.held s.wk=l at *;rw [gz7 l n,j4];dsimp only;have a: ∀(d:List Int),(∀x∈d,0<=x/\x<=255)->qak v8 d=some (C.getsP d):=fun d i=>C.get_p d i;cases hk:okG (zv2 l) with
   |true=>
    simp only [if_true];rw [a (zv2 l).c (fun x q=>g x (qg0 (s:=(zp5 l ⟨0,l.length,false⟩).2) q)),j4,E.run_p _ b j,j4];rw [show ((0:Int)==0)=true from rfl,j8];cases hg:((C.getsP (zv2 l).c).2==0) with
    |true=>rw [j8];rfl
    |false=>rw [j6];rfl
   |false=>
    simp only [N4,if_false];rw [a [] (by simp),j4,E.run_p _ b j,j4];rfl
def vq8 (h:SvOk s c) (d:TOk t):qj v8 o s.m.sv s.m.held s.m.act s.m.bef s.m.roll s.m.yes s.m.no s.ap s.wk s.la t=
  some ((((),(),()),o,(),psv s,pmm s.m,s.m.held,s.m.yes,()),(veM s t,())):=by
 rw [ug0,wz9 h t.Bytes d.bb,j4];dsimp only;unfold veM;by_cases a:t.Version=s.wk
 ·rw [show (t.Version != s.wk)=false by simpa using a,j6];cases h2:(yn9 s t.Bytes).2 with
  |false=>rw [show (!false)=true from rfl,j8,if_neg (by simp)]
  |true=>
   rw [show (!true)=false from rfl,j6];by_cases b:(yn9 s t.Bytes).1=t.Verdict
   ·rw [show ((yn9 s t.Bytes).1 != t.Verdict)=false by simpa using b,j6,if_pos ⟨a,rfl,b⟩]
   ·rw [show ((yn9 s t.Bytes).1 != t.Verdict)=true by simpa using b,j8,if_neg (by simp [b])]
 ·rw [show (t.Version != s.wk)=true by simpa using a,j8,if_neg (by simp [a])]
end
def zh5 (k:Int):Bool:=decide (1<=k)&&decide (k<=5)
def onS (o:List Entry) (s:Sv) (t:Tale):List Entry×Sv×Int:=
 if t.Kind=2 then apM o s t else if t.Kind=3 then (o,(acM s t).1,(acM s t).2) else if t.Kind=4 then (o,s,veM s t) else (o,s,0)
def qw4 (s:Sv) (k:Int):Sv:=⟨s.m,s.ap,s.wk,k⟩
def zb5 (o:List Entry) (l:List Sv) (t:Tale):List Entry×List Sv×Int:=
 if 1<=t.Server/\t.Server<=(l.length:Int)/\zh5 t.Kind=true then
  ((onS o (l.getD (t.Server-1).toNat dSv) t).1,l.set (t.Server-1).toNat (qw4 (onS o (l.getD (t.Server-1).toNat dSv) t).2.1 t.Kind),(onS o (l.getD (t.Server-1).toNat dSv) t).2.2)
 else (o,l,2)
def za7 {o l t} (h: ¬(1<=t.Server/\t.Server<=(l.length:Int))\/zh5 t.Kind=false):zb5 o l t=(o,l,2):=by
 unfold zb5;rw [if_neg];rintro ⟨b,d,a⟩;rcases h with h|h
 ·exact h ⟨b,d⟩
 ·rw [h] at a;cases a
def zd9 {o l t} (j s) (a:l[j]?=some s) (h:t.Server=((j+1:Nat):Int)) (b:zh5 t.Kind=true):
  zb5 o l t=((onS o s t).1,l.set j (qw4 (onS o s t).2.1 t.Kind),(onS o s t).2.2):=by
 obtain ⟨d,f⟩:=X2.1 a;have e:(t.Server-1).toNat=j:=by omega
 unfold zb5;rw [if_pos ⟨by omega,by omega,b⟩,e,Y2,a];rfl
def zb3:List Tale->List Entry->List Sv->Int
 | [],_,_=>0
 |t::r,o,l=>if (zb5 o l t).2.2=0 then zb3 r (zb5 o l t).1 (zb5 o l t).2.1 else (zb5 o l t).2.2
structure WOk (o:List Entry) (l:List Sv) (c:Nat):Prop where
 o:o.length<=c
 s: ∀s∈l,SvOk s c
def SvOk.more {s c} (h:SvOk s c):SvOk s (c+1):=⟨h.m.more,h.hb⟩
def yn7 (o a e):(zf7 o a e).1.length<=o.length+1:=by
 unfold zf7;split
 ·exact Nat.le_succ _
 ·split
  ·exact Nat.le_succ _
  ·simp
def vx4 (m e): ∀p∈(yx2 m e).1.held,p∈m.held\/p.2=e.Data:=by
 have d: ∀(b:Mc),b.held=m.held-> ∀p∈(yi9 b).held,p∈m.held\/p.2=e.Data:=fun b h p a=>.inl (by rw [<-h];exact a);intro p a;unfold yx2 at a;split at a
 ·exact .inl a
 ·split at a
  ·unfold vh2 at a;split at a
   ·exact .inl a
   ·split at a
    ·exact .inl a
    ·split at a
     ·exact .inl a
     ·rcases ya7 a with rfl|a
      ·exact .inr rfl
      ·exact .inl a
  ·split at a
   ·unfold vw1 at a;split at a
    ·exact .inl a
    ·split at a
     ·exact .inl a
     ·split at a<;>exact .inl a
   ·split at a
    ·unfold qp5 at a;split at a
     ·exact .inl a
     ·split at a
      ·exact .inl a
      ·split at a<;>exact .inl a
    ·split at a
     ·unfold qp6 at a;split at a
      ·exact .inl a
      ·split at a<;>exact .inl a
     ·split at a
      ·unfold jy5 at a;split at a
       ·exact .inl a
       ·split at a
        ·split at a<;>exact .inl a
        ·exact .inl a
      ·exact .inl a
def wa8 {o s t c} (h:SvOk s c) (d:TOk t):SvOk (onS o s t).2.1 (c+1)/\(onS o s t).1.length<=o.length+1:=by
 unfold onS;split
 ·unfold apM;split
  ·split
   ·refine ⟨⟨h.m.app (by have:=d.dl;show t.Entry_Data.length<=_;omega),fun p a x b=>?_⟩,yn7 _ _ _⟩;rcases vx4 s.m (zv0 t) p a with a|a
    ·exact h.hb p a x b
    ·rw [a] at b;exact d.db x b
   ·exact ⟨h.more,yn7 _ _ _⟩
  ·exact ⟨h.more,Nat.le_succ _⟩
 ·split
  ·refine ⟨?_,Nat.le_succ _⟩;show SvOk (acM s t).1 _;unfold acM;split
   ·exact ⟨h.m.more,h.hb⟩
   ·exact h.more
  ·split
   ·exact ⟨h.more,Nat.le_succ _⟩
   ·exact ⟨h.more,Nat.le_succ _⟩
def yd8 {o l t c} (h:WOk o l c) (e:TOk t):WOk (zb5 o l t).1 (zb5 o l t).2.1 (c+1)/\(zb5 o l t).2.1.length=l.length:=by
 unfold zb5;split
 ·rename_i g;have a:(t.Server-1).toNat<l.length:=by omega
  have f:SvOk (l.getD (t.Server-1).toNat dSv) c:=by
   rw [Y2,Y0 a];exact h.s _ (J8 a)
  obtain ⟨d,i⟩:=wa8 (o:=o) f e;refine ⟨⟨?_,fun s b=>?_⟩,by simp⟩
  ·have:=h.o;show (onS _ _ _).1.length<=_;omega
  ·rcases J9 b with b|rfl
   ·exact (h.s s b).more
   ·exact ⟨d.m,d.hb⟩
 ·exact ⟨⟨J3 h.o,fun s b=>(h.s s b).more⟩,rfl⟩
end Go.Y
namespace Go.Y
open Go.RowKit Go.V Go.X Go.Proofs
def zj4 {i} (G:List Entry->Sv->Int->i) (a:Option i) {s c t o} (f:SvOk s c) (k:c<=1000) (j:TOk t) (l:o.length<=1000000):
  (if t.Kind=(1:Int) then (j7 (qc v8 o s.m.sv s.m.held s.m.act s.m.bef s.m.roll s.m.yes s.m.no s.ap s.wk s.la t) fun y=>some (G y.1.2.1 ⟨⟨y.1.2.2.2.2.1.1,y.1.2.2.2.2.2.1,y.1.2.2.2.2.1.2.2.1,y.1.2.2.2.2.1.2.2.2.1,y.1.2.2.2.2.1.2.2.2.2.1,y.1.2.2.2.2.2.2.1,y.1.2.2.2.2.1.2.2.2.2.2.2.1⟩,y.1.2.2.2.1.2.1,y.1.2.2.2.1.2.2.1,t.Kind⟩ y.2.1))
  else if t.Kind=(5:Int) then (j7 (qc v8 o s.m.sv s.m.held s.m.act s.m.bef s.m.roll s.m.yes s.m.no s.ap s.wk s.la t) fun y=>some (G y.1.2.1 ⟨⟨y.1.2.2.2.2.1.1,y.1.2.2.2.2.2.1,y.1.2.2.2.2.1.2.2.1,y.1.2.2.2.2.1.2.2.2.1,y.1.2.2.2.2.1.2.2.2.2.1,y.1.2.2.2.2.2.2.1,y.1.2.2.2.2.1.2.2.2.2.2.2.1⟩,y.1.2.2.2.1.2.1,y.1.2.2.2.1.2.2.1,t.Kind⟩ y.2.1))
  else if t.Kind=(2:Int) then (j7 (qf v8 o s.m.sv s.m.held s.m.act s.m.bef s.m.roll s.m.yes s.m.no s.ap s.wk s.la t) fun y=>some (G y.1.1.1 ⟨⟨y.1.2.2.2.2.1.1,y.1.2.2.2.2.2.1,y.1.2.2.2.2.1.2.2.1,y.1.2.2.2.2.1.2.2.2.1,y.1.2.2.2.2.1.2.2.2.2.1,y.1.2.2.2.2.2.2.1,y.1.2.2.2.2.1.2.2.2.2.2.2.1⟩,y.1.2.2.2.1.2.1,y.1.2.2.2.1.2.2.1,t.Kind⟩ y.2.1))
  else if t.Kind=(3:Int) then (j7 (qg v8 o s.m.sv s.m.held s.m.act s.m.bef s.m.roll s.m.yes s.m.no s.ap s.wk s.la t) fun y=>some (G y.1.2.1 ⟨⟨y.1.2.2.2.2.1.1,y.1.2.2.2.2.2.1,y.1.2.2.2.2.1.2.2.1,y.1.2.2.2.2.1.2.2.2.1,y.1.2.2.2.2.1.2.2.2.2.1,y.1.2.2.2.2.2.2.1,y.1.2.2.2.2.1.2.2.2.2.2.2.1⟩,y.1.2.2.2.1.2.1,y.1.2.2.2.1.2.2.1,t.Kind⟩ y.2.1))
  else if t.Kind=(4:Int) then (j7 (qj v8 o s.m.sv s.m.held s.m.act s.m.bef s.m.roll s.m.yes s.m.no s.ap s.wk s.la t) fun y=>some (G y.1.2.1 ⟨⟨y.1.2.2.2.2.1.1,y.1.2.2.2.2.2.1,y.1.2.2.2.2.1.2.2.1,y.1.2.2.2.2.1.2.2.2.1,y.1.2.2.2.2.1.2.2.2.2.1,y.1.2.2.2.2.2.2.1,y.1.2.2.2.2.1.2.2.2.2.2.2.1⟩,y.1.2.2.2.1.2.1,y.1.2.2.2.1.2.2.1,t.Kind⟩ y.2.1))
  else a)=if zh5 t.Kind=true then some (G (onS o s t).1 (qw4 (onS o s t).2.1 t.Kind) (onS o s t).2.2) else a:=by
 by_cases g:t.Kind=1
 ·rw [if_pos g,kj3,j4,if_pos (by rw [g];rfl),show onS o s t=(o,s,0) by unfold onS;rw [if_neg (by omega),if_neg (by omega),if_neg (by omega)]];rfl
 rw [if_neg g];by_cases h:t.Kind=5
 ·rw [if_pos h,kj3,j4,if_pos (by rw [h];rfl),show onS o s t=(o,s,0) by unfold onS;rw [if_neg (by omega),if_neg (by omega),if_neg (by omega)]];rfl
 rw [if_neg h];by_cases b:t.Kind=2
 ·rw [if_pos b,vj2 f j l,j4,if_pos (by rw [b];rfl),show onS o s t=apM o s t by unfold onS;rw [if_pos b]];rfl
 rw [if_neg b];by_cases d:t.Kind=3
 ·rw [if_pos d,vx2 f k,j4,if_pos (by rw [d];rfl),show onS o s t=(o,(acM s t).1,(acM s t).2) by unfold onS;rw [if_neg (by omega),if_pos d]];rfl
 rw [if_neg d];by_cases e:t.Kind=4
 ·rw [if_pos e,vq8 f j,j4,if_pos (by rw [e];rfl),show onS o s t=(o,s,veM s t) by unfold onS;rw [if_neg (by omega),if_neg (by omega),if_pos e]];rfl
 rw [if_neg e,if_neg];unfold zh5;rw [X3,decide_eq_true_eq,decide_eq_true_eq];omega
def sv0 (k:Int):Sv:=⟨⟨k,[],0,0,0,[],false⟩,0,0,0⟩
def rp1 (o:List Entry) (l:List Sv):(List Entry×Unit×Unit)×Unit×(Unit×Unit)×(Unit×Int×Int×Int×Unit)×(Int×Unit×Int×Int×Int×Unit×Bool×Unit)×List (Int×List Int)×List (Int×Bool)×Unit:=((o,(),()),(),((),()),psv (l.getD 0 dSv),pmm (l.getD 0 dSv).m,(l.getD 0 dSv).m.held,(l.getD 0 dSv).m.yes,())
def wa9 {o a c t} (h:WOk o [a] c) (d:c<=1000) (f:TOk t):qbo v8 o a.m.sv a.m.held a.m.act a.m.bef a.m.roll a.m.yes a.m.no a.ap a.wk a.la t=some (rp1 (zb5 o [a] t).1 (zb5 o [a] t).2.1,((zb5 o [a] t).2.2,())):=by
 have g:o.length<=1000000:=by have:=h.o;omega
 rw [wi3];by_cases b:t.Server=(1:Int)
 ·rw [if_pos b];refine (zj4 (fun i j e=>(rp1 i [j],(e,()))) _ (h.s a (by simp)) d f g).trans ?_;cases hk:zh5 t.Kind with
  |true=>rw [if_pos rfl,zd9 0 a rfl (by omega) hk];rfl
  |false=>rw [if_neg (by simp),za7 (.inr hk)];rfl
 rw [if_neg b];rw [za7 (.inl (by show ¬(1<=t.Server/\t.Server<=((1:Nat):Int));omega))];simp only [ite_self];rfl
def rp2 (o:List Entry) (l:List Sv):(List Entry×Unit×Unit)×Unit×(Unit×Unit×Unit)×(Unit×Int×Int×Int×Unit)×(Int×Unit×Int×Int×Int×Unit×Bool×Unit)×List (Int×List Int)×List (Int×Bool)×(Unit×Int×Int×Int×Unit)×(Int×Unit×Int×Int×Int×Unit×Bool×Unit)×List (Int×List Int)×List (Int×Bool)×Unit:=((o,(),()),(),((),(),()),psv (l.getD 0 dSv),pmm (l.getD 0 dSv).m,(l.getD 0 dSv).m.held,(l.getD 0 dSv).m.yes,psv (l.getD 1 dSv),pmm (l.getD 1 dSv).m,(l.getD 1 dSv).m.held,(l.getD 1 dSv).m.yes,())
def wb0 {o a b c t} (h:WOk o [a,b] c) (g:c<=1000) (i:TOk t):qbq v8 o a.m.sv a.m.held a.m.act a.m.bef a.m.roll a.m.yes a.m.no a.ap a.wk a.la b.m.sv b.m.held b.m.act b.m.bef b.m.roll b.m.yes b.m.no b.ap b.wk b.la t=some (rp2 (zb5 o [a,b] t).1 (zb5 o [a,b] t).2.1,((zb5 o [a,b] t).2.2,())):=by
 have j:o.length<=1000000:=by have:=h.o;omega
 rw [wi4];by_cases k:t.Server=(1:Int)
 ·rw [if_pos k];refine (zj4 (fun d f e=>(rp2 d [f,b],(e,()))) _ (h.s a (by simp)) g i j).trans ?_;cases hk:zh5 t.Kind with
  |true=>rw [if_pos rfl,zd9 0 a rfl (by omega) hk];rfl
  |false=>rw [if_neg (by simp),za7 (.inr hk)];rfl
 rw [if_neg k];by_cases l:t.Server=(2:Int)
 ·rw [if_pos l];refine (zj4 (fun d f e=>(rp2 d [a,f],(e,()))) _ (h.s b (by simp)) g i j).trans ?_;cases hk:zh5 t.Kind with
  |true=>rw [if_pos rfl,zd9 1 b rfl (by omega) hk];rfl
  |false=>rw [if_neg (by simp),za7 (.inr hk)];rfl
 rw [if_neg l];rw [za7 (.inl (by show ¬(1<=t.Server/\t.Server<=((2:Nat):Int));omega))];simp only [ite_self];rfl
def rp3 (o:List Entry) (l:List Sv):(List Entry×Unit×Unit)×Unit×(Unit×Unit×Unit×Unit)×(Unit×Int×Int×Int×Unit)×(Int×Unit×Int×Int×Int×Unit×Bool×Unit)×List (Int×List Int)×List (Int×Bool)×(Unit×Int×Int×Int×Unit)×(Int×Unit×Int×Int×Int×Unit×Bool×Unit)×List (Int×List Int)×List (Int×Bool)×(Unit×Int×Int×Int×Unit)×(Int×Unit×Int×Int×Int×Unit×Bool×Unit)×List (Int×List Int)×List (Int×Bool)×Unit:=((o,(),()),(),((),(),(),()),psv (l.getD 0 dSv),pmm (l.getD 0 dSv).m,(l.getD 0 dSv).m.held,(l.getD 0 dSv).m.yes,psv (l.getD 1 dSv),pmm (l.getD 1 dSv).m,(l.getD 1 dSv).m.held,(l.getD 1 dSv).m.yes,psv (l.getD 2 dSv),pmm (l.getD 2 dSv).m,(l.getD 2 dSv).m.held,(l.getD 2 dSv).m.yes,())
def wb1 {o a b d c t} (h:WOk o [a,b,d] c) (i:c<=1000) (j:TOk t):qbw v8 o a.m.sv a.m.held a.m.act a.m.bef a.m.roll a.m.yes a.m.no a.ap a.wk a.la b.m.sv b.m.held b.m.act b.m.bef b.m.roll b.m.yes b.m.no b.ap b.wk b.la d.m.sv d.m.held d.m.act d.m.bef d.m.roll d.m.yes d.m.no d.ap d.wk d.la t=some (rp3 (zb5 o [a,b,d] t).1 (zb5 o [a,b,d] t).2.1,((zb5 o [a,b,d] t).2.2,())):=by
 have k:o.length<=1000000:=by have:=h.o;omega
 rw [wj0];by_cases l:t.Server=(1:Int)
 ·rw [if_pos l];refine (zj4 (fun f g e=>(rp3 f [g,b,d],(e,()))) _ (h.s a (by simp)) i j k).trans ?_;cases hk:zh5 t.Kind with
  |true=>rw [if_pos rfl,zd9 0 a rfl (by omega) hk];rfl
  |false=>rw [if_neg (by simp),za7 (.inr hk)];rfl
 rw [if_neg l];by_cases n:t.Server=(2:Int)
 ·rw [if_pos n];refine (zj4 (fun f g e=>(rp3 f [a,g,d],(e,()))) _ (h.s b (by simp)) i j k).trans ?_;cases hk:zh5 t.Kind with
  |true=>rw [if_pos rfl,zd9 1 b rfl (by omega) hk];rfl
  |false=>rw [if_neg (by simp),za7 (.inr hk)];rfl
 rw [if_neg n];by_cases p:t.Server=(3:Int)
 ·rw [if_pos p];refine (zj4 (fun f g e=>(rp3 f [a,b,g],(e,()))) _ (h.s d (by simp)) i j k).trans ?_;cases hk:zh5 t.Kind with
  |true=>rw [if_pos rfl,zd9 2 d rfl (by omega) hk];rfl
  |false=>rw [if_neg (by simp),za7 (.inr hk)];rfl
 rw [if_neg p];rw [za7 (.inl (by show ¬(1<=t.Server/\t.Server<=((3:Nat):Int));omega))];simp only [ite_self];rfl
def rp4 (o:List Entry) (l:List Sv):(List Entry×Unit×Unit)×Unit×(Unit×Unit×Unit×Unit×Unit)×(Unit×Int×Int×Int×Unit)×(Int×Unit×Int×Int×Int×Unit×Bool×Unit)×List (Int×List Int)×List (Int×Bool)×(Unit×Int×Int×Int×Unit)×(Int×Unit×Int×Int×Int×Unit×Bool×Unit)×List (Int×List Int)×List (Int×Bool)×(Unit×Int×Int×Int×Unit)×(Int×Unit×Int×Int×Int×Unit×Bool×Unit)×List (Int×List Int)×List (Int×Bool)×(Unit×Int×Int×Int×Unit)×(Int×Unit×Int×Int×Int×Unit×Bool×Unit)×List (Int×List Int)×List (Int×Bool)×Unit:=((o,(),()),(),((),(),(),(),()),psv (l.getD 0 dSv),pmm (l.getD 0 dSv).m,(l.getD 0 dSv).m.held,(l.getD 0 dSv).m.yes,psv (l.getD 1 dSv),pmm (l.getD 1 dSv).m,(l.getD 1 dSv).m.held,(l.getD 1 dSv).m.yes,psv (l.getD 2 dSv),pmm (l.getD 2 dSv).m,(l.getD 2 dSv).m.held,(l.getD 2 dSv).m.yes,psv (l.getD 3 dSv),pmm (l.getD 3 dSv).m,(l.getD 3 dSv).m.held,(l.getD 3 dSv).m.yes,())
def wb2 {o a b d f c t} (h:WOk o [a,b,d,f] c) (j:c<=1000) (k:TOk t):qca v8 o a.m.sv a.m.held a.m.act a.m.bef a.m.roll a.m.yes a.m.no a.ap a.wk a.la b.m.sv b.m.held b.m.act b.m.bef b.m.roll b.m.yes b.m.no b.ap b.wk b.la d.m.sv d.m.held d.m.act d.m.bef d.m.roll d.m.yes d.m.no d.ap d.wk d.la f.m.sv f.m.held f.m.act f.m.bef f.m.roll f.m.yes f.m.no f.ap f.wk f.la t=some (rp4 (zb5 o [a,b,d,f] t).1 (zb5 o [a,b,d,f] t).2.1,((zb5 o [a,b,d,f] t).2.2,())):=by
 have l:o.length<=1000000:=by have:=h.o;omega
 rw [wj3];by_cases n:t.Server=(1:Int)
 ·rw [if_pos n];refine (zj4 (fun g i e=>(rp4 g [i,b,d,f],(e,()))) _ (h.s a (by simp)) j k l).trans ?_;cases hk:zh5 t.Kind with
  |true=>rw [if_pos rfl,zd9 0 a rfl (by omega) hk];rfl
  |false=>rw [if_neg (by simp),za7 (.inr hk)];rfl
 rw [if_neg n];by_cases p:t.Server=(2:Int)
 ·rw [if_pos p];refine (zj4 (fun g i e=>(rp4 g [a,i,d,f],(e,()))) _ (h.s b (by simp)) j k l).trans ?_;cases hk:zh5 t.Kind with
  |true=>rw [if_pos rfl,zd9 1 b rfl (by omega) hk];rfl
  |false=>rw [if_neg (by simp),za7 (.inr hk)];rfl
 rw [if_neg p];by_cases q:t.Server=(3:Int)
 ·rw [if_pos q];refine (zj4 (fun g i e=>(rp4 g [a,b,i,f],(e,()))) _ (h.s d (by simp)) j k l).trans ?_;cases hk:zh5 t.Kind with
  |true=>rw [if_pos rfl,zd9 2 d rfl (by omega) hk];rfl
  |false=>rw [if_neg (by simp),za7 (.inr hk)];rfl
 rw [if_neg q];by_cases r:t.Server=(4:Int)
 ·rw [if_pos r];refine (zj4 (fun g i e=>(rp4 g [a,b,d,i],(e,()))) _ (h.s f (by simp)) j k l).trans ?_;cases hk:zh5 t.Kind with
  |true=>rw [if_pos rfl,zd9 3 f rfl (by omega) hk];rfl
  |false=>rw [if_neg (by simp),za7 (.inr hk)];rfl
 rw [if_neg r];rw [za7 (.inl (by show ¬(1<=t.Server/\t.Server<=((4:Nat):Int));omega))];simp only [ite_self];rfl
def rp5 (o:List Entry) (l:List Sv):(List Entry×Unit×Unit)×Unit×(Unit×Unit×Unit×Unit×Unit×Unit)×(Unit×Int×Int×Int×Unit)×(Int×Unit×Int×Int×Int×Unit×Bool×Unit)×List (Int×List Int)×List (Int×Bool)×(Unit×Int×Int×Int×Unit)×(Int×Unit×Int×Int×Int×Unit×Bool×Unit)×List (Int×List Int)×List (Int×Bool)×(Unit×Int×Int×Int×Unit)×(Int×Unit×Int×Int×Int×Unit×Bool×Unit)×List (Int×List Int)×List (Int×Bool)×(Unit×Int×Int×Int×Unit)×(Int×Unit×Int×Int×Int×Unit×Bool×Unit)×List (Int×List Int)×List (Int×Bool)×(Unit×Int×Int×Int×Unit)×(Int×Unit×Int×Int×Int×Unit×Bool×Unit)×List (Int×List Int)×List (Int×Bool)×Unit:=((o,(),()),(),((),(),(),(),(),()),psv (l.getD 0 dSv),pmm (l.getD 0 dSv).m,(l.getD 0 dSv).m.held,(l.getD 0 dSv).m.yes,psv (l.getD 1 dSv),pmm (l.getD 1 dSv).m,(l.getD 1 dSv).m.held,(l.getD 1 dSv).m.yes,psv (l.getD 2 dSv),pmm (l.getD 2 dSv).m,(l.getD 2 dSv).m.held,(l.getD 2 dSv).m.yes,psv (l.getD 3 dSv),pmm (l.getD 3 dSv).m,(l.getD 3 dSv).m.held,(l.getD 3 dSv).m.yes,psv (l.getD 4 dSv),pmm (l.getD 4 dSv).m,(l.getD 4 dSv).m.held,(l.getD 4 dSv).m.yes,())
def wb3 {o a b d f g c t} (h:WOk o [a,b,d,f,g] c) (k:c<=1000) (l:TOk t):qcf v8 o a.m.sv a.m.held a.m.act a.m.bef a.m.roll a.m.yes a.m.no a.ap a.wk a.la b.m.sv b.m.held b.m.act b.m.bef b.m.roll b.m.yes b.m.no b.ap b.wk b.la d.m.sv d.m.held d.m.act d.m.bef d.m.roll d.m.yes d.m.no d.ap d.wk d.la f.m.sv f.m.held f.m.act f.m.bef f.m.roll f.m.yes f.m.no f.ap f.wk f.la g.m.sv g.m.held g.m.act g.m.bef g.m.roll g.m.yes g.m.no g.ap g.wk g.la t=some (rp5 (zb5 o [a,b,d,f,g] t).1 (zb5 o [a,b,d,f,g] t).2.1,((zb5 o [a,b,d,f,g] t).2.2,())):=by
 have n:o.length<=1000000:=by have:=h.o;omega
 rw [wj6];by_cases p:t.Server=(1:Int)
 ·rw [if_pos p];refine (zj4 (fun i j e=>(rp5 i [j,b,d,f,g],(e,()))) _ (h.s a (by simp)) k l n).trans ?_;cases hk:zh5 t.Kind with
  |true=>rw [if_pos rfl,zd9 0 a rfl (by omega) hk];rfl
  |false=>rw [if_neg (by simp),za7 (.inr hk)];rfl
 rw [if_neg p];by_cases q:t.Server=(2:Int)
 ·rw [if_pos q];refine (zj4 (fun i j e=>(rp5 i [a,j,d,f,g],(e,()))) _ (h.s b (by simp)) k l n).trans ?_;cases hk:zh5 t.Kind with
  |true=>rw [if_pos rfl,zd9 1 b rfl (by omega) hk];rfl
  |false=>rw [if_neg (by simp),za7 (.inr hk)];rfl
 rw [if_neg q];by_cases r:t.Server=(3:Int)
 ·rw [if_pos r];refine (zj4 (fun i j e=>(rp5 i [a,b,j,f,g],(e,()))) _ (h.s d (by simp)) k l n).trans ?_;cases hk:zh5 t.Kind with
  |true=>rw [if_pos rfl,zd9 2 d rfl (by omega) hk];rfl
  |false=>rw [if_neg (by simp),za7 (.inr hk)];rfl
 rw [if_neg r];by_cases u:t.Server=(4:Int)
 ·rw [if_pos u];refine (zj4 (fun i j e=>(rp5 i [a,b,d,j,g],(e,()))) _ (h.s f (by simp)) k l n).trans ?_;cases hk:zh5 t.Kind with
  |true=>rw [if_pos rfl,zd9 3 f rfl (by omega) hk];rfl
  |false=>rw [if_neg (by simp),za7 (.inr hk)];rfl
 rw [if_neg u];by_cases v:t.Server=(5:Int)
 ·rw [if_pos v];refine (zj4 (fun i j e=>(rp5 i [a,b,d,f,j],(e,()))) _ (h.s g (by simp)) k l n).trans ?_;cases hk:zh5 t.Kind with
  |true=>rw [if_pos rfl,zd9 4 g rfl (by omega) hk];rfl
  |false=>rw [if_neg (by simp),za7 (.inr hk)];rfl
 rw [if_neg v];rw [za7 (.inl (by show ¬(1<=t.Server/\t.Server<=((5:Nat):Int));omega))];simp only [ite_self];rfl
def rp6 (o:List Entry) (l:List Sv):(List Entry×Unit×Unit)×Unit×(Unit×Unit×Unit×Unit×Unit×Unit×Unit)×(Unit×Int×Int×Int×Unit)×(Int×Unit×Int×Int×Int×Unit×Bool×Unit)×List (Int×List Int)×List (Int×Bool)×(Unit×Int×Int×Int×Unit)×(Int×Unit×Int×Int×Int×Unit×Bool×Unit)×List (Int×List Int)×List (Int×Bool)×(Unit×Int×Int×Int×Unit)×(Int×Unit×Int×Int×Int×Unit×Bool×Unit)×List (Int×List Int)×List (Int×Bool)×(Unit×Int×Int×Int×Unit)×(Int×Unit×Int×Int×Int×Unit×Bool×Unit)×List (Int×List Int)×List (Int×Bool)×(Unit×Int×Int×Int×Unit)×(Int×Unit×Int×Int×Int×Unit×Bool×Unit)×List (Int×List Int)×List (Int×Bool)×(Unit×Int×Int×Int×Unit)×(Int×Unit×Int×Int×Int×Unit×Bool×Unit)×List (Int×List Int)×List (Int×Bool)×Unit:=((o,(),()),(),((),(),(),(),(),(),()),psv (l.getD 0 dSv),pmm (l.getD 0 dSv).m,(l.getD 0 dSv).m.held,(l.getD 0 dSv).m.yes,psv (l.getD 1 dSv),pmm (l.getD 1 dSv).m,(l.getD 1 dSv).m.held,(l.getD 1 dSv).m.yes,psv (l.getD 2 dSv),pmm (l.getD 2 dSv).m,(l.getD 2 dSv).m.held,(l.getD 2 dSv).m.yes,psv (l.getD 3 dSv),pmm (l.getD 3 dSv).m,(l.getD 3 dSv).m.held,(l.getD 3 dSv).m.yes,psv (l.getD 4 dSv),pmm (l.getD 4 dSv).m,(l.getD 4 dSv).m.held,(l.getD 4 dSv).m.yes,psv (l.getD 5 dSv),pmm (l.getD 5 dSv).m,(l.getD 5 dSv).m.held,(l.getD 5 dSv).m.yes,())
def wb4 {o a b d f g i c t} (h:WOk o [a,b,d,f,g,i] c) (l:c<=1000) (n:TOk t):qcm v8 o a.m.sv a.m.held a.m.act a.m.bef a.m.roll a.m.yes a.m.no a.ap a.wk a.la b.m.sv b.m.held b.m.act b.m.bef b.m.roll b.m.yes b.m.no b.ap b.wk b.la d.m.sv d.m.held d.m.act d.m.bef d.m.roll d.m.yes d.m.no d.ap d.wk d.la f.m.sv f.m.held f.m.act f.m.bef f.m.roll f.m.yes f.m.no f.ap f.wk f.la g.m.sv g.m.held g.m.act g.m.bef g.m.roll g.m.yes g.m.no g.ap g.wk g.la i.m.sv i.m.held i.m.act i.m.bef i.m.roll i.m.yes i.m.no i.ap i.wk i.la t=some (rp6 (zb5 o [a,b,d,f,g,i] t).1 (zb5 o [a,b,d,f,g,i] t).2.1,((zb5 o [a,b,d,f,g,i] t).2.2,())):=by
 have p:o.length<=1000000:=by have:=h.o;omega
 rw [wk2];by_cases q:t.Server=(1:Int)
 ·rw [if_pos q];refine (zj4 (fun j k e=>(rp6 j [k,b,d,f,g,i],(e,()))) _ (h.s a (by simp)) l n p).trans ?_;cases hk:zh5 t.Kind with
  |true=>rw [if_pos rfl,zd9 0 a rfl (by omega) hk];rfl
  |false=>rw [if_neg (by simp),za7 (.inr hk)];rfl
 rw [if_neg q];by_cases r:t.Server=(2:Int)
 ·rw [if_pos r];refine (zj4 (fun j k e=>(rp6 j [a,k,d,f,g,i],(e,()))) _ (h.s b (by simp)) l n p).trans ?_;cases hk:zh5 t.Kind with
  |true=>rw [if_pos rfl,zd9 1 b rfl (by omega) hk];rfl
  |false=>rw [if_neg (by simp),za7 (.inr hk)];rfl
 rw [if_neg r];by_cases u:t.Server=(3:Int)
 ·rw [if_pos u];refine (zj4 (fun j k e=>(rp6 j [a,b,k,f,g,i],(e,()))) _ (h.s d (by simp)) l n p).trans ?_;cases hk:zh5 t.Kind with
  |true=>rw [if_pos rfl,zd9 2 d rfl (by omega) hk];rfl
  |false=>rw [if_neg (by simp),za7 (.inr hk)];rfl
 rw [if_neg u];by_cases v:t.Server=(4:Int)
 ·rw [if_pos v];refine (zj4 (fun j k e=>(rp6 j [a,b,d,k,g,i],(e,()))) _ (h.s f (by simp)) l n p).trans ?_;cases hk:zh5 t.Kind with
  |true=>rw [if_pos rfl,zd9 3 f rfl (by omega) hk];rfl
  |false=>rw [if_neg (by simp),za7 (.inr hk)];rfl
 rw [if_neg v];by_cases w:t.Server=(5:Int)
 ·rw [if_pos w];refine (zj4 (fun j k e=>(rp6 j [a,b,d,f,k,i],(e,()))) _ (h.s g (by simp)) l n p).trans ?_;cases hk:zh5 t.Kind with
  |true=>rw [if_pos rfl,zd9 4 g rfl (by omega) hk];rfl
  |false=>rw [if_neg (by simp),za7 (.inr hk)];rfl
 rw [if_neg w];by_cases x:t.Server=(6:Int)
 ·rw [if_pos x];refine (zj4 (fun j k e=>(rp6 j [a,b,d,f,g,k],(e,()))) _ (h.s i (by simp)) l n p).trans ?_;cases hk:zh5 t.Kind with
  |true=>rw [if_pos rfl,zd9 5 i rfl (by omega) hk];rfl
  |false=>rw [if_neg (by simp),za7 (.inr hk)];rfl
 rw [if_neg x];rw [za7 (.inl (by show ¬(1<=t.Server/\t.Server<=((6:Nat):Int));omega))];simp only [ite_self];rfl
def rp7 (o:List Entry) (l:List Sv):(List Entry×Unit×Unit)×Unit×(Unit×Unit×Unit×Unit×Unit×Unit×Unit×Unit)×(Unit×Int×Int×Int×Unit)×(Int×Unit×Int×Int×Int×Unit×Bool×Unit)×List (Int×List Int)×List (Int×Bool)×(Unit×Int×Int×Int×Unit)×(Int×Unit×Int×Int×Int×Unit×Bool×Unit)×List (Int×List Int)×List (Int×Bool)×(Unit×Int×Int×Int×Unit)×(Int×Unit×Int×Int×Int×Unit×Bool×Unit)×List (Int×List Int)×List (Int×Bool)×(Unit×Int×Int×Int×Unit)×(Int×Unit×Int×Int×Int×Unit×Bool×Unit)×List (Int×List Int)×List (Int×Bool)×(Unit×Int×Int×Int×Unit)×(Int×Unit×Int×Int×Int×Unit×Bool×Unit)×List (Int×List Int)×List (Int×Bool)×(Unit×Int×Int×Int×Unit)×(Int×Unit×Int×Int×Int×Unit×Bool×Unit)×List (Int×List Int)×List (Int×Bool)×(Unit×Int×Int×Int×Unit)×(Int×Unit×Int×Int×Int×Unit×Bool×Unit)×List (Int×List Int)×List (Int×Bool)×Unit:=((o,(),()),(),((),(),(),(),(),(),(),()),psv (l.getD 0 dSv),pmm (l.getD 0 dSv).m,(l.getD 0 dSv).m.held,(l.getD 0 dSv).m.yes,psv (l.getD 1 dSv),pmm (l.getD 1 dSv).m,(l.getD 1 dSv).m.held,(l.getD 1 dSv).m.yes,psv (l.getD 2 dSv),pmm (l.getD 2 dSv).m,(l.getD 2 dSv).m.held,(l.getD 2 dSv).m.yes,psv (l.getD 3 dSv),pmm (l.getD 3 dSv).m,(l.getD 3 dSv).m.held,(l.getD 3 dSv).m.yes,psv (l.getD 4 dSv),pmm (l.getD 4 dSv).m,(l.getD 4 dSv).m.held,(l.getD 4 dSv).m.yes,psv (l.getD 5 dSv),pmm (l.getD 5 dSv).m,(l.getD 5 dSv).m.held,(l.getD 5 dSv).m.yes,psv (l.getD 6 dSv),pmm (l.getD 6 dSv).m,(l.getD 6 dSv).m.held,(l.getD 6 dSv).m.yes,())
def wb5 {o a b d f g i j c t} (h:WOk o [a,b,d,f,g,i,j] c) (n:c<=1000) (p:TOk t):qdf v8 o a.m.sv a.m.held a.m.act a.m.bef a.m.roll a.m.yes a.m.no a.ap a.wk a.la b.m.sv b.m.held b.m.act b.m.bef b.m.roll b.m.yes b.m.no b.ap b.wk b.la d.m.sv d.m.held d.m.act d.m.bef d.m.roll d.m.yes d.m.no d.ap d.wk d.la f.m.sv f.m.held f.m.act f.m.bef f.m.roll f.m.yes f.m.no f.ap f.wk f.la g.m.sv g.m.held g.m.act g.m.bef g.m.roll g.m.yes g.m.no g.ap g.wk g.la i.m.sv i.m.held i.m.act i.m.bef i.m.roll i.m.yes i.m.no i.ap i.wk i.la j.m.sv j.m.held j.m.act j.m.bef j.m.roll j.m.yes j.m.no j.ap j.wk j.la t=some (rp7 (zb5 o [a,b,d,f,g,i,j] t).1 (zb5 o [a,b,d,f,g,i,j] t).2.1,((zb5 o [a,b,d,f,g,i,j] t).2.2,())):=by
 have q:o.length<=1000000:=by have:=h.o;omega
 rw [wn3];by_cases r:t.Server=(1:Int)
 ·rw [if_pos r];refine (zj4 (fun k l e=>(rp7 k [l,b,d,f,g,i,j],(e,()))) _ (h.s a (by simp)) n p q).trans ?_;cases hk:zh5 t.Kind with
  |true=>rw [if_pos rfl,zd9 0 a rfl (by omega) hk];rfl
  |false=>rw [if_neg (by simp),za7 (.inr hk)];rfl
 rw [if_neg r];by_cases u:t.Server=(2:Int)
 ·rw [if_pos u];refine (zj4 (fun k l e=>(rp7 k [a,l,d,f,g,i,j],(e,()))) _ (h.s b (by simp)) n p q).trans ?_;cases hk:zh5 t.Kind with
  |true=>rw [if_pos rfl,zd9 1 b rfl (by omega) hk];rfl
  |false=>rw [if_neg (by simp),za7 (.inr hk)];rfl
 rw [if_neg u];by_cases v:t.Server=(3:Int)
 ·rw [if_pos v];refine (zj4 (fun k l e=>(rp7 k [a,b,l,f,g,i,j],(e,()))) _ (h.s d (by simp)) n p q).trans ?_;cases hk:zh5 t.Kind with
  |true=>rw [if_pos rfl,zd9 2 d rfl (by omega) hk];rfl
  |false=>rw [if_neg (by simp),za7 (.inr hk)];rfl
 rw [if_neg v];by_cases w:t.Server=(4:Int)
 ·rw [if_pos w];refine (zj4 (fun k l e=>(rp7 k [a,b,d,l,g,i,j],(e,()))) _ (h.s f (by simp)) n p q).trans ?_;cases hk:zh5 t.Kind with
  |true=>rw [if_pos rfl,zd9 3 f rfl (by omega) hk];rfl
  |false=>rw [if_neg (by simp),za7 (.inr hk)];rfl
 rw [if_neg w];by_cases x:t.Server=(5:Int)
 ·rw [if_pos x];refine (zj4 (fun k l e=>(rp7 k [a,b,d,f,l,i,j],(e,()))) _ (h.s g (by simp)) n p q).trans ?_;cases hk:zh5 t.Kind with
  |true=>rw [if_pos rfl,zd9 4 g rfl (by omega) hk];rfl
  |false=>rw [if_neg (by simp),za7 (.inr hk)];rfl
 rw [if_neg x];by_cases y:t.Server=(6:Int)
 ·rw [if_pos y];refine (zj4 (fun k l e=>(rp7 k [a,b,d,f,g,l,j],(e,()))) _ (h.s i (by simp)) n p q).trans ?_;cases hk:zh5 t.Kind with
  |true=>rw [if_pos rfl,zd9 5 i rfl (by omega) hk];rfl
  |false=>rw [if_neg (by simp),za7 (.inr hk)];rfl
 rw [if_neg y];by_cases z:t.Server=(7:Int)
 ·rw [if_pos z];refine (zj4 (fun k l e=>(rp7 k [a,b,d,f,g,i,l],(e,()))) _ (h.s j (by simp)) n p q).trans ?_;cases hk:zh5 t.Kind with
  |true=>rw [if_pos rfl,zd9 6 j rfl (by omega) hk];rfl
  |false=>rw [if_neg (by simp),za7 (.inr hk)];rfl
 rw [if_neg z];rw [za7 (.inl (by show ¬(1<=t.Server/\t.Server<=((7:Nat):Int));omega))];simp only [ite_self];rfl
def um6:qh v8 (1:Int)=some ((),(((1:Int),([]:List (Int×List Int)),(0:Int),(0:Int),(0:Int),([]:List (Int×Bool)),false,()),())):=by kernel_rfl
def um7:qh v8 (2:Int)=some ((),(((2:Int),([]:List (Int×List Int)),(0:Int),(0:Int),(0:Int),([]:List (Int×Bool)),false,()),())):=by kernel_rfl
def um8:qh v8 (3:Int)=some ((),(((3:Int),([]:List (Int×List Int)),(0:Int),(0:Int),(0:Int),([]:List (Int×Bool)),false,()),())):=by kernel_rfl
def um9:qh v8 (4:Int)=some ((),(((4:Int),([]:List (Int×List Int)),(0:Int),(0:Int),(0:Int),([]:List (Int×Bool)),false,()),())):=by kernel_rfl
def un0:qh v8 (5:Int)=some ((),(((5:Int),([]:List (Int×List Int)),(0:Int),(0:Int),(0:Int),([]:List (Int×Bool)),false,()),())):=by kernel_rfl
def un1:qh v8 (6:Int)=some ((),(((6:Int),([]:List (Int×List Int)),(0:Int),(0:Int),(0:Int),([]:List (Int×Bool)),false,()),())):=by kernel_rfl
def un2:qh v8 (7:Int)=some ((),(((7:Int),([]:List (Int×List Int)),(0:Int),(0:Int),(0:Int),([]:List (Int×Bool)),false,()),())):=by kernel_rfl
def ve3 (x) (k: ∀t∈x,TOk t) (r:x.length<=1000): ∀(m i n o a),i+m=x.length->WOk o [a] i->m+1<=n->jm1 n x ((x.length:Nat):Int) ((i:Nat):Int) o a.ap a.wk a.la a.m.sv a.m.act a.m.bef a.m.roll a.m.no a.m.held a.m.yes=some ((),(zb3 (x.drop i) o [a],()))
 |0,i,n,o,a,g,h,j=>by
  obtain ⟨n,rfl⟩:=up j;rw [yv8,W5 (by omega),j6,V6 (by omega)];rfl
 |m+1,i,n,o,a,g,h,j=>by
  obtain ⟨n,rfl⟩:=up j;have e:i<x.length:=by omega
  have l:x.getD i v6=x[i]:=by rw [Y2,Y0 e];rfl
  have p:TOk (x.getD i v6):=by rw [l];exact k _ (J8 e)
  have s:zb3 (x.drop i) o [a]=if (zb5 o [a] (x.getD i v6)).2.2=0 then zb3 (x.drop (i+1)) (zb5 o [a] (x.getD i v6)).1 (zb5 o [a] (x.getD i v6)).2.1 else (zb5 o [a] (x.getD i v6)).2.2:=by rw [U4 e,<-l];rfl
  rw [show n+(m+1+1)=(n+(m+1))+1 from rfl,yv8,W4 (by omega),j8,if_pos (by omega),Z1,wa9 h (by omega) p,j4,s];obtain ⟨c,b⟩:=yd8 h p;obtain ⟨d,u⟩: ∃d,(zb5 o [a] (x.getD i v6)).2.1= [d]:=by
   revert b
   generalize (zb5 o [a] (x.getD i v6)).2.1=q;intro b
   match q,b with
   | [d],_=>exact ⟨d,rfl⟩
  dsimp only;by_cases f:(zb5 o [a] (x.getD i v6)).2.2=0
  ·rw [show ((zb5 o [a] (x.getD i v6)).2.2 != 0)=false by simpa using f,j6,if_pos f,nx e (by omega)];rw [u] at c⊢;exact ve3 x k r m (i+1) (n+(m+1)) _ d (by omega) c (by omega)
  ·rw [show ((zb5 o [a] (x.getD i v6)).2.2 != 0)=true by simpa using f,j8,if_neg f]
def vz7 (n i j k a b c d e f g h l m o):kv0 (n+1) i j k a b c d e f g h l m o=jm1 (n+1) i j k o a b c d e f g h l m:=by rw [kd3,yv8]
def qd3 (x:List Tale) (hx: ∀t∈x,TOk t) (hl:x.length<=1000):qk v8 x=some ((),(zb3 x [] [sv0 1],())):=by
 obtain ⟨n,hB⟩: ∃n,v8=n+3:=⟨999999997,rfl⟩;have hn:x.length+1<=n+1:=by (have:(1000000000:Nat)=n+3:=hB);omega
 have e:qk (n+1+2) x=some ((),(zb3 x [] [sv0 1],())):=by
  rw [ug1,um6,j4];dsimp only;rw [vz7];exact (ve3 x hx hl x.length 0 (n+1) [] (sv0 1) (W7 _) ⟨W6 _,fun s hs=>by
   have:s=sv0 1:=by simpa using hs
   subst this;exact ⟨⟨⟨by decide,by decide⟩,fun p hp=>(by cases hp),fun p hp=>(by cases hp),W6 _,fun p hp=>(by cases hp),W6 _⟩,fun p hp=>(by cases hp)⟩⟩ hn)
 rw [hB];exact e
def ve4 (x) (p: ∀t∈x,TOk t) (u:x.length<=1000): ∀(m i n o a b),i+m=x.length->WOk o [a,b] i->m+1<=n->jm2 n x ((x.length:Nat):Int) ((i:Nat):Int) o a.ap a.wk a.la b.ap b.wk b.la a.m.sv a.m.act a.m.bef a.m.roll a.m.no b.m.sv b.m.act b.m.bef b.m.roll b.m.no a.m.held a.m.yes b.m.held b.m.yes=some ((),(zb3 (x.drop i) o [a,b],()))
 |0,i,n,o,a,b,j,k,l=>by
  obtain ⟨n,rfl⟩:=up l;rw [yv9,W5 (by omega),j6,V6 (by omega)];rfl
 |m+1,i,n,o,a,b,j,k,l=>by
  obtain ⟨n,rfl⟩:=up l;have g:i<x.length:=by omega
  have r:x.getD i v6=x[i]:=by rw [Y2,Y0 g];rfl
  have s:TOk (x.getD i v6):=by rw [r];exact p _ (J8 g)
  have v:zb3 (x.drop i) o [a,b]=if (zb5 o [a,b] (x.getD i v6)).2.2=0 then zb3 (x.drop (i+1)) (zb5 o [a,b] (x.getD i v6)).1 (zb5 o [a,b] (x.getD i v6)).2.1 else (zb5 o [a,b] (x.getD i v6)).2.2:=by rw [U4 g,<-r];rfl
  rw [show n+(m+1+1)=(n+(m+1))+1 from rfl,yv9,W4 (by omega),j8,if_pos (by omega),Z1,wb0 k (by omega) s,j4,v];obtain ⟨d,c⟩:=yd8 k s;obtain ⟨e,f,w⟩: ∃e f,(zb5 o [a,b] (x.getD i v6)).2.1= [e,f]:=by
   revert c
   generalize (zb5 o [a,b] (x.getD i v6)).2.1=q;intro c
   match q,c with
   | [e,f],_=>exact ⟨e,f,rfl⟩
  dsimp only;by_cases h:(zb5 o [a,b] (x.getD i v6)).2.2=0
  ·rw [show ((zb5 o [a,b] (x.getD i v6)).2.2 != 0)=false by simpa using h,j6,if_pos h,nx g (by omega)];rw [w] at d⊢;exact ve4 x p u m (i+1) (n+(m+1)) _ e f (by omega) d (by omega)
  ·rw [show ((zb5 o [a,b] (x.getD i v6)).2.2 != 0)=true by simpa using h,j8,if_neg h]
def vz8 (n r s t a b c d e f g h i j k l m o p q v w x y u):kv2 (n+1) r s t a b c d e f g h i j k l m o p q v w x y u=jm2 (n+1) r s t u a b c d e f g h i j k l m o p q v w x y:=by rw [kd5,yv9]
def wz3 (x:List Tale) (hx: ∀t∈x,TOk t) (hl:x.length<=1000):qm v8 x=some ((),(zb3 x [] [sv0 2,sv0 2],())):=by
 obtain ⟨n,hB⟩: ∃n,v8=n+4:=⟨999999996,rfl⟩;have hn:x.length+1<=n+1:=by (have:(1000000000:Nat)=n+4:=hB);omega
 have e:qm (n+1+3) x=some ((),(zb3 x [] [sv0 2,sv0 2],())):=by
  rw [ug4,um7,j4,j4];dsimp only;rw [vz8];exact (ve4 x hx hl x.length 0 (n+1) [] (sv0 2) (sv0 2) (W7 _) ⟨W6 _,fun s hs=>by
   have:s=sv0 2:=by simpa using hs
   subst this;exact ⟨⟨⟨by decide,by decide⟩,fun p hp=>(by cases hp),fun p hp=>(by cases hp),W6 _,fun p hp=>(by cases hp),W6 _⟩,fun p hp=>(by cases hp)⟩⟩ hn)
 rw [hB];exact e
def ve5 (x) (s: ∀t∈x,TOk t) (w:x.length<=1000): ∀(m i n o a b c),i+m=x.length->WOk o [a,b,c] i->m+1<=n->jm3 n x ((x.length:Nat):Int) ((i:Nat):Int) o a.ap a.wk a.la b.ap b.wk b.la c.ap c.wk c.la a.m.sv a.m.act a.m.bef a.m.roll a.m.no b.m.sv b.m.act b.m.bef b.m.roll b.m.no c.m.sv c.m.act c.m.bef c.m.roll c.m.no a.m.held a.m.yes b.m.held b.m.yes c.m.held c.m.yes=some ((),(zb3 (x.drop i) o [a,b,c],()))
 |0,i,n,o,a,b,c,l,p,r=>by
  obtain ⟨n,rfl⟩:=up r;rw [yw0,W5 (by omega),j6,V6 (by omega)];rfl
 |m+1,i,n,o,a,b,c,l,p,r=>by
  obtain ⟨n,rfl⟩:=up r;have j:i<x.length:=by omega
  have u:x.getD i v6=x[i]:=by rw [Y2,Y0 j];rfl
  have v:TOk (x.getD i v6):=by rw [u];exact s _ (J8 j)
  have y:zb3 (x.drop i) o [a,b,c]=if (zb5 o [a,b,c] (x.getD i v6)).2.2=0 then zb3 (x.drop (i+1)) (zb5 o [a,b,c] (x.getD i v6)).1 (zb5 o [a,b,c] (x.getD i v6)).2.1 else (zb5 o [a,b,c] (x.getD i v6)).2.2:=by rw [U4 j,<-u];rfl
  rw [show n+(m+1+1)=(n+(m+1))+1 from rfl,yw0,W4 (by omega),j8,if_pos (by omega),Z1,wb1 p (by omega) v,j4,y];obtain ⟨e,d⟩:=yd8 p v;obtain ⟨f,g,h,z⟩: ∃f g h,(zb5 o [a,b,c] (x.getD i v6)).2.1= [f,g,h]:=by
   revert d
   generalize (zb5 o [a,b,c] (x.getD i v6)).2.1=q;intro d
   match q,d with
   | [f,g,h],_=>exact ⟨f,g,h,rfl⟩
  dsimp only;by_cases k:(zb5 o [a,b,c] (x.getD i v6)).2.2=0
  ·rw [show ((zb5 o [a,b,c] (x.getD i v6)).2.2 != 0)=false by simpa using k,j6,if_pos k,nx j (by omega)];rw [z] at e⊢;exact ve5 x s w m (i+1) (n+(m+1)) _ f g h (by omega) e (by omega)
  ·rw [show ((zb5 o [a,b,c] (x.getD i v6)).2.2 != 0)=true by simpa using k,j8,if_neg k]
def vz9 (n z A B a b c d e f g h i j k l m o p q r s t u v w x y H I C D E F G):kv4 (n+1) z A B a b c d e f g h i j k l m o p q r s t u v w x y H I C D E F G=jm3 (n+1) z A B G a b c d e f g h i j k l m o p q r s t u v w x y H I C D E F:=by rw [kd6,yw0]
def wz4 (x:List Tale) (hx: ∀t∈x,TOk t) (hl:x.length<=1000):qn v8 x=some ((),(zb3 x [] [sv0 3,sv0 3,sv0 3],())):=by
 obtain ⟨n,hB⟩: ∃n,v8=n+5:=⟨999999995,rfl⟩;have hn:x.length+1<=n+1:=by (have:(1000000000:Nat)=n+5:=hB);omega
 have e:qn (n+1+4) x=some ((),(zb3 x [] [sv0 3,sv0 3,sv0 3],())):=by
  rw [ug5,um8,j4,j4,j4];dsimp only;rw [vz9];exact (ve5 x hx hl x.length 0 (n+1) [] (sv0 3) (sv0 3) (sv0 3) (W7 _) ⟨W6 _,fun s hs=>by
   have:s=sv0 3:=by simpa using hs
   subst this;exact ⟨⟨⟨by decide,by decide⟩,fun p hp=>(by cases hp),fun p hp=>(by cases hp),W6 _,fun p hp=>(by cases hp),W6 _⟩,fun p hp=>(by cases hp)⟩⟩ hn)
 rw [hB];exact e
def ve6 (x) (v: ∀t∈x,TOk t) (z:x.length<=1000): ∀(m i n o a b c d),i+m=x.length->WOk o [a,b,c,d] i->m+1<=n->jm4 n x ((x.length:Nat):Int) ((i:Nat):Int) o a.ap a.wk a.la b.ap b.wk b.la c.ap c.wk c.la d.ap d.wk d.la a.m.sv a.m.act a.m.bef a.m.roll a.m.no b.m.sv b.m.act b.m.bef b.m.roll b.m.no c.m.sv c.m.act c.m.bef c.m.roll c.m.no d.m.sv d.m.act d.m.bef d.m.roll d.m.no a.m.held a.m.yes b.m.held b.m.yes c.m.held c.m.yes d.m.held d.m.yes=some ((),(zb3 (x.drop i) o [a,b,c,d],()))
 |0,i,n,o,a,b,c,d,r,s,u=>by
  obtain ⟨n,rfl⟩:=up u;rw [yw1,W5 (by omega),j6,V6 (by omega)];rfl
 |m+1,i,n,o,a,b,c,d,r,s,u=>by
  obtain ⟨n,rfl⟩:=up u;have l:i<x.length:=by omega
  have w:x.getD i v6=x[i]:=by rw [Y2,Y0 l];rfl
  have y:TOk (x.getD i v6):=by rw [w];exact v _ (J8 l)
  have A:zb3 (x.drop i) o [a,b,c,d]=if (zb5 o [a,b,c,d] (x.getD i v6)).2.2=0 then zb3 (x.drop (i+1)) (zb5 o [a,b,c,d] (x.getD i v6)).1 (zb5 o [a,b,c,d] (x.getD i v6)).2.1 else (zb5 o [a,b,c,d] (x.getD i v6)).2.2:=by rw [U4 l,<-w];rfl
  rw [show n+(m+1+1)=(n+(m+1))+1 from rfl,yw1,W4 (by omega),j8,if_pos (by omega),Z1,wb2 s (by omega) y,j4,A];obtain ⟨f,e⟩:=yd8 s y;obtain ⟨g,h,j,k,B⟩: ∃g h j k,(zb5 o [a,b,c,d] (x.getD i v6)).2.1= [g,h,j,k]:=by
   revert e
   generalize (zb5 o [a,b,c,d] (x.getD i v6)).2.1=q;intro e
   match q,e with
   | [g,h,j,k],_=>exact ⟨g,h,j,k,rfl⟩
  dsimp only;by_cases p:(zb5 o [a,b,c,d] (x.getD i v6)).2.2=0
  ·rw [show ((zb5 o [a,b,c,d] (x.getD i v6)).2.2 != 0)=false by simpa using p,j6,if_pos p,nx l (by omega)];rw [B] at f⊢;exact ve6 x v z m (i+1) (n+(m+1)) _ g h j k (by omega) f (by omega)
  ·rw [show ((zb5 o [a,b,c,d] (x.getD i v6)).2.2 != 0)=true by simpa using p,j8,if_neg p]
def ka0 (n H I J a b c d e f g h i j k l m o p q r s t u v w x y z A B C D E F G K L M N O P Q R S):kv6 (n+1) H I J a b c d e f g h i j k l m o p q r s t u v w x y z A B C D E F G K L M N O P Q R S=jm4 (n+1) H I J S a b c d e f g h i j k l m o p q r s t u v w x y z A B C D E F G K L M N O P Q R:=by rw [kd7,yw1]
def wz5 (x:List Tale) (hx: ∀t∈x,TOk t) (hl:x.length<=1000):qo v8 x=some ((),(zb3 x [] [sv0 4,sv0 4,sv0 4,sv0 4],())):=by
 obtain ⟨n,hB⟩: ∃n,v8=n+6:=⟨999999994,rfl⟩;have hn:x.length+1<=n+1:=by (have:(1000000000:Nat)=n+6:=hB);omega
 have e:qo (n+1+5) x=some ((),(zb3 x [] [sv0 4,sv0 4,sv0 4,sv0 4],())):=by
  rw [ug6,um9,j4,j4,j4,j4];dsimp only;rw [ka0];exact (ve6 x hx hl x.length 0 (n+1) [] (sv0 4) (sv0 4) (sv0 4) (sv0 4) (W7 _) ⟨W6 _,fun s hs=>by
   have:s=sv0 4:=by simpa using hs
   subst this;exact ⟨⟨⟨by decide,by decide⟩,fun p hp=>(by cases hp),fun p hp=>(by cases hp),W6 _,fun p hp=>(by cases hp),W6 _⟩,fun p hp=>(by cases hp)⟩⟩ hn)
 rw [hB];exact e
def ve7 (x) (y: ∀t∈x,TOk t) (B:x.length<=1000): ∀(m i n o a b c d e),i+m=x.length->WOk o [a,b,c,d,e] i->m+1<=n->jm5 n x ((x.length:Nat):Int) ((i:Nat):Int) o a.ap a.wk a.la b.ap b.wk b.la c.ap c.wk c.la d.ap d.wk d.la e.ap e.wk e.la a.m.sv a.m.act a.m.bef a.m.roll a.m.no b.m.sv b.m.act b.m.bef b.m.roll b.m.no c.m.sv c.m.act c.m.bef c.m.roll c.m.no d.m.sv d.m.act d.m.bef d.m.roll d.m.no e.m.sv e.m.act e.m.bef e.m.roll e.m.no a.m.held a.m.yes b.m.held b.m.yes c.m.held c.m.yes d.m.held d.m.yes e.m.held e.m.yes=some ((),(zb3 (x.drop i) o [a,b,c,d,e],()))
 |0,i,n,o,a,b,c,d,e,u,v,w=>by
  obtain ⟨n,rfl⟩:=up w;rw [yw2,W5 (by omega),j6,V6 (by omega)];rfl
 |m+1,i,n,o,a,b,c,d,e,u,v,w=>by
  obtain ⟨n,rfl⟩:=up w;have r:i<x.length:=by omega
  have z:x.getD i v6=x[i]:=by rw [Y2,Y0 r];rfl
  have A:TOk (x.getD i v6):=by rw [z];exact y _ (J8 r)
  have C:zb3 (x.drop i) o [a,b,c,d,e]=if (zb5 o [a,b,c,d,e] (x.getD i v6)).2.2=0 then zb3 (x.drop (i+1)) (zb5 o [a,b,c,d,e] (x.getD i v6)).1 (zb5 o [a,b,c,d,e] (x.getD i v6)).2.1 else (zb5 o [a,b,c,d,e] (x.getD i v6)).2.2:=by rw [U4 r,<-z];rfl
  rw [show n+(m+1+1)=(n+(m+1))+1 from rfl,yw2,W4 (by omega),j8,if_pos (by omega),Z1,wb3 v (by omega) A,j4,C];obtain ⟨g,f⟩:=yd8 v A;obtain ⟨h,j,k,l,p,D⟩: ∃h j k l p,(zb5 o [a,b,c,d,e] (x.getD i v6)).2.1= [h,j,k,l,p]:=by
   revert f
   generalize (zb5 o [a,b,c,d,e] (x.getD i v6)).2.1=q;intro f
   match q,f with
   | [h,j,k,l,p],_=>exact ⟨h,j,k,l,p,rfl⟩
  dsimp only;by_cases s:(zb5 o [a,b,c,d,e] (x.getD i v6)).2.2=0
  ·rw [show ((zb5 o [a,b,c,d,e] (x.getD i v6)).2.2 != 0)=false by simpa using s,j6,if_pos s,nx r (by omega)];rw [D] at g⊢;exact ve7 x y B m (i+1) (n+(m+1)) _ h j k l p (by omega) g (by omega)
  ·rw [show ((zb5 o [a,b,c,d,e] (x.getD i v6)).2.2 != 0)=true by simpa using s,j8,if_neg s]
def ka1 (n P Q R k l m o p q r s t u v w x y z A B C D E F G H I J K L M N O a b c d e f g h i j S T U V W X Y Z t20 t21 r22):kv8 (n+1) P Q R k l m o p q r s t u v w x y z A B C D E F G H I J K L M N O a b c d e f g h i j S T U V W X Y Z t20 t21 r22=jm5 (n+1) P Q R r22 k l m o p q r s t u v w x y z A B C D E F G H I J K L M N O a b c d e f g h i j S T U V W X Y Z t20 t21:=by rw [kd8,yw2]
def wz6 (x:List Tale) (hx: ∀t∈x,TOk t) (hl:x.length<=1000):qp v8 x=some ((),(zb3 x [] [sv0 5,sv0 5,sv0 5,sv0 5,sv0 5],())):=by
 obtain ⟨n,hB⟩: ∃n,v8=n+7:=⟨999999993,rfl⟩;have hn:x.length+1<=n+1:=by (have:(1000000000:Nat)=n+7:=hB);omega
 have e:qp (n+1+6) x=some ((),(zb3 x [] [sv0 5,sv0 5,sv0 5,sv0 5,sv0 5],())):=by
  rw [ug7,un0,j4,j4,j4,j4,j4];dsimp only;rw [ka1];exact (ve7 x hx hl x.length 0 (n+1) [] (sv0 5) (sv0 5) (sv0 5) (sv0 5) (sv0 5) (W7 _) ⟨W6 _,fun s hs=>by
   have:s=sv0 5:=by simpa using hs
   subst this;exact ⟨⟨⟨by decide,by decide⟩,fun p hp=>(by cases hp),fun p hp=>(by cases hp),W6 _,fun p hp=>(by cases hp),W6 _⟩,fun p hp=>(by cases hp)⟩⟩ hn)
 rw [hB];exact e
def ve8 (x) (A: ∀t∈x,TOk t) (D:x.length<=1000): ∀(m i n o a b c d e f),i+m=x.length->WOk o [a,b,c,d,e,f] i->m+1<=n->jm6 n x ((x.length:Nat):Int) ((i:Nat):Int) o a.ap a.wk a.la b.ap b.wk b.la c.ap c.wk c.la d.ap d.wk d.la e.ap e.wk e.la f.ap f.wk f.la a.m.sv a.m.act a.m.bef a.m.roll a.m.no b.m.sv b.m.act b.m.bef b.m.roll b.m.no c.m.sv c.m.act c.m.bef c.m.roll c.m.no d.m.sv d.m.act d.m.bef d.m.roll d.m.no e.m.sv e.m.act e.m.bef e.m.roll e.m.no f.m.sv f.m.act f.m.bef f.m.roll f.m.no a.m.held a.m.yes b.m.held b.m.yes c.m.held c.m.yes d.m.held d.m.yes e.m.held e.m.yes f.m.held f.m.yes=some ((),(zb3 (x.drop i) o [a,b,c,d,e,f],()))
 |0,i,n,o,a,b,c,d,e,f,w,y,z=>by
  obtain ⟨n,rfl⟩:=up z;rw [yw3,W5 (by omega),j6,V6 (by omega)];rfl
 |m+1,i,n,o,a,b,c,d,e,f,w,y,z=>by
  obtain ⟨n,rfl⟩:=up z;have u:i<x.length:=by omega
  have B:x.getD i v6=x[i]:=by rw [Y2,Y0 u];rfl
  have C:TOk (x.getD i v6):=by rw [B];exact A _ (J8 u)
  have E:zb3 (x.drop i) o [a,b,c,d,e,f]=if (zb5 o [a,b,c,d,e,f] (x.getD i v6)).2.2=0 then zb3 (x.drop (i+1)) (zb5 o [a,b,c,d,e,f] (x.getD i v6)).1 (zb5 o [a,b,c,d,e,f] (x.getD i v6)).2.1 else (zb5 o [a,b,c,d,e,f] (x.getD i v6)).2.2:=by rw [U4 u,<-B];rfl
  rw [show n+(m+1+1)=(n+(m+1))+1 from rfl,yw3,W4 (by omega),j8,if_pos (by omega),Z1,wb4 y (by omega) C,j4,E];obtain ⟨h,g⟩:=yd8 y C;obtain ⟨j,k,l,p,r,s,F⟩: ∃j k l p r s,(zb5 o [a,b,c,d,e,f] (x.getD i v6)).2.1= [j,k,l,p,r,s]:=by
   revert g
   generalize (zb5 o [a,b,c,d,e,f] (x.getD i v6)).2.1=q;intro g
   match q,g with
   | [j,k,l,p,r,s],_=>exact ⟨j,k,l,p,r,s,rfl⟩
  dsimp only;by_cases v:(zb5 o [a,b,c,d,e,f] (x.getD i v6)).2.2=0
  ·rw [show ((zb5 o [a,b,c,d,e,f] (x.getD i v6)).2.2 != 0)=false by simpa using v,j6,if_pos v,nx u (by omega)];rw [F] at h⊢;exact ve8 x A D m (i+1) (n+(m+1)) _ j k l p r s (by omega) h (by omega)
  ·rw [show ((zb5 o [a,b,c,d,e,f] (x.getD i v6)).2.2 != 0)=true by simpa using v,j8,if_neg v]
def ka2 (n X Y Z v w x y z A B C D E F G H I J K L M N O P Q R S T U V W a b c d e f g h i j k l m o p q r s t u t14 t15 t16 t17 t18 t19 t20 t21 t22 t23 t24 t25 r26):kw0 (n+1) X Y Z v w x y z A B C D E F G H I J K L M N O P Q R S T U V W a b c d e f g h i j k l m o p q r s t u t14 t15 t16 t17 t18 t19 t20 t21 t22 t23 t24 t25 r26=jm6 (n+1) X Y Z r26 v w x y z A B C D E F G H I J K L M N O P Q R S T U V W a b c d e f g h i j k l m o p q r s t u t14 t15 t16 t17 t18 t19 t20 t21 t22 t23 t24 t25:=by rw [kd9,yw3]
def wz7 (x:List Tale) (hx: ∀t∈x,TOk t) (hl:x.length<=1000):qq v8 x=some ((),(zb3 x [] [sv0 6,sv0 6,sv0 6,sv0 6,sv0 6,sv0 6],())):=by
 obtain ⟨n,hB⟩: ∃n,v8=n+8:=⟨999999992,rfl⟩;have hn:x.length+1<=n+1:=by (have:(1000000000:Nat)=n+8:=hB);omega
 have e:qq (n+1+7) x=some ((),(zb3 x [] [sv0 6,sv0 6,sv0 6,sv0 6,sv0 6,sv0 6],())):=by
  rw [ug8,un1,j4,j4,j4,j4,j4,j4];dsimp only;rw [ka2];exact (ve8 x hx hl x.length 0 (n+1) [] (sv0 6) (sv0 6) (sv0 6) (sv0 6) (sv0 6) (sv0 6) (W7 _) ⟨W6 _,fun s hs=>by
   have:s=sv0 6:=by simpa using hs
   subst this;exact ⟨⟨⟨by decide,by decide⟩,fun p hp=>(by cases hp),fun p hp=>(by cases hp),W6 _,fun p hp=>(by cases hp),W6 _⟩,fun p hp=>(by cases hp)⟩⟩ hn)
 rw [hB];exact e
def ve9 (x) (C: ∀t∈x,TOk t) (F:x.length<=1000): ∀(m i n o a b c d e f g),i+m=x.length->WOk o [a,b,c,d,e,f,g] i->m+1<=n->jm7 n x ((x.length:Nat):Int) ((i:Nat):Int) o a.ap a.wk a.la b.ap b.wk b.la c.ap c.wk c.la d.ap d.wk d.la e.ap e.wk e.la f.ap f.wk f.la g.ap g.wk g.la a.m.sv a.m.act a.m.bef a.m.roll a.m.no b.m.sv b.m.act b.m.bef b.m.roll b.m.no c.m.sv c.m.act c.m.bef c.m.roll c.m.no d.m.sv d.m.act d.m.bef d.m.roll d.m.no e.m.sv e.m.act e.m.bef e.m.roll e.m.no f.m.sv f.m.act f.m.bef f.m.roll f.m.no g.m.sv g.m.act g.m.bef g.m.roll g.m.no a.m.held a.m.yes b.m.held b.m.yes c.m.held c.m.yes d.m.held d.m.yes e.m.held e.m.yes f.m.held f.m.yes g.m.held g.m.yes=some ((),(zb3 (x.drop i) o [a,b,c,d,e,f,g],()))
 |0,i,n,o,a,b,c,d,e,f,g,z,A,B=>by
  obtain ⟨n,rfl⟩:=up B;rw [yw4,W5 (by omega),j6,V6 (by omega)];rfl
 |m+1,i,n,o,a,b,c,d,e,f,g,z,A,B=>by
  obtain ⟨n,rfl⟩:=up B;have w:i<x.length:=by omega
  have D:x.getD i v6=x[i]:=by rw [Y2,Y0 w];rfl
  have E:TOk (x.getD i v6):=by rw [D];exact C _ (J8 w)
  have G:zb3 (x.drop i) o [a,b,c,d,e,f,g]=if (zb5 o [a,b,c,d,e,f,g] (x.getD i v6)).2.2=0 then zb3 (x.drop (i+1)) (zb5 o [a,b,c,d,e,f,g] (x.getD i v6)).1 (zb5 o [a,b,c,d,e,f,g] (x.getD i v6)).2.1 else (zb5 o [a,b,c,d,e,f,g] (x.getD i v6)).2.2:=by rw [U4 w,<-D];rfl
  rw [show n+(m+1+1)=(n+(m+1))+1 from rfl,yw4,W4 (by omega),j8,if_pos (by omega),Z1,wb5 A (by omega) E,j4,G];obtain ⟨j,h⟩:=yd8 A E;obtain ⟨k,l,p,r,s,u,v,H⟩: ∃k l p r s u v,(zb5 o [a,b,c,d,e,f,g] (x.getD i v6)).2.1= [k,l,p,r,s,u,v]:=by
   revert h
   generalize (zb5 o [a,b,c,d,e,f,g] (x.getD i v6)).2.1=q;intro h
   match q,h with
   | [k,l,p,r,s,u,v],_=>exact ⟨k,l,p,r,s,u,v,rfl⟩
  dsimp only;by_cases y:(zb5 o [a,b,c,d,e,f,g] (x.getD i v6)).2.2=0
  ·rw [show ((zb5 o [a,b,c,d,e,f,g] (x.getD i v6)).2.2 != 0)=false by simpa using y,j6,if_pos y,nx w (by omega)];rw [H] at j⊢;exact ve9 x C F m (i+1) (n+(m+1)) _ k l p r s u v (by omega) j (by omega)
  ·rw [show ((zb5 o [a,b,c,d,e,f,g] (x.getD i v6)).2.2 != 0)=true by simpa using y,j8,if_neg y]
def ka3 (n s34 s35 s36 F G H I J K L M N O P Q R S T U V W X Y Z b9_0 b9_2 b9_3 b9_4 b9_6 a b c d e f g h i j k l m o p q r s t u v w x y z A B C D E t16 t17 t18 t19 t20 t21 t22 t23 t24 t25 t26 t27 t28 t29 r30):kw2 (n+1) s34 s35 s36 F G H I J K L M N O P Q R S T U V W X Y Z b9_0 b9_2 b9_3 b9_4 b9_6 a b c d e f g h i j k l m o p q r s t u v w x y z A B C D E t16 t17 t18 t19 t20 t21 t22 t23 t24 t25 t26 t27 t28 t29 r30=jm7 (n+1) s34 s35 s36 r30 F G H I J K L M N O P Q R S T U V W X Y Z b9_0 b9_2 b9_3 b9_4 b9_6 a b c d e f g h i j k l m o p q r s t u v w x y z A B C D E t16 t17 t18 t19 t20 t21 t22 t23 t24 t25 t26 t27 t28 t29:=by rw [ke0,yw4]
def wz8 (x:List Tale) (hx: ∀t∈x,TOk t) (hl:x.length<=1000):qr v8 x=some ((),(zb3 x [] [sv0 7,sv0 7,sv0 7,sv0 7,sv0 7,sv0 7,sv0 7],())):=by
 obtain ⟨n,hB⟩: ∃n,v8=n+9:=⟨999999991,rfl⟩;have hn:x.length+1<=n+1:=by (have:(1000000000:Nat)=n+9:=hB);omega
 have e:qr (n+1+8) x=some ((),(zb3 x [] [sv0 7,sv0 7,sv0 7,sv0 7,sv0 7,sv0 7,sv0 7],())):=by
  rw [ug9,un2,j4,j4,j4,j4,j4,j4,j4];dsimp only;rw [ka3];exact (ve9 x hx hl x.length 0 (n+1) [] (sv0 7) (sv0 7) (sv0 7) (sv0 7) (sv0 7) (sv0 7) (sv0 7) (W7 _) ⟨W6 _,fun s hs=>by
   have:s=sv0 7:=by simpa using hs
   subst this;exact ⟨⟨⟨by decide,by decide⟩,fun p hp=>(by cases hp),fun p hp=>(by cases hp),W6 _,fun p hp=>(by cases hp),W6 _⟩,fun p hp=>(by cases hp)⟩⟩ hn)
 rw [hB];exact e
end Go.Y
