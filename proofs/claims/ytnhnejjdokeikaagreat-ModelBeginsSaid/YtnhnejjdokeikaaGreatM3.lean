import Derived.Test.YtnhnejjdokeikaaGreatM2
import Derived.Test.YtnhnejjdokeikaaGreatM1
import Derived.Test.YtnhnejjdokeikaaGreatIf
set_option linter.defProp false
namespace Go.Y
open Go.RowKit Go.V Go.X Go.Proofs
structure Sv where
 m:Mc
 ap:Int
 wk:Int
 la:Int
def dSv:Sv:=⟨⟨0,[],0,0,0,[],false⟩,0,0,0⟩
abbrev zs3 (t:Tale):Entry:=⟨t.Entry_Term,t.Entry_Kind,t.Entry_Version,t.Entry_Server,t.Entry_Good,t.Entry_Data⟩
def vw4 (a b:Entry):Bool:=(a.Term==b.Term)&&((a.Kind==b.Kind)&&((a.Version==b.Version)&&((a.Server==b.Server)&&((a.Good==b.Good)&&decide (a.Data=b.Data)))))
def kq0 (a b) (h:b.Data.length<=1000000):qco v7 a b=some (vw4 a b):=by
 rw [wn2,je3 _ _ h,j4];unfold vw4;simp only [q7];cases a.Term==b.Term<;>cases a.Kind==b.Kind<;>cases a.Version==b.Version<;>cases a.Server==b.Server<;>cases a.Good==b.Good<;>rfl
def zc1 (o:List Entry) (a:Int) (e:Entry):List Entry×Bool:=
 if a<1\/a>(o.length:Int)+1 then (o,false) else if a<=(o.length:Int) then (o,vw4 (o.getD (a-1).toNat ye4) e) else (o++ [e],true)
def yd0 {o a e} (h:a<1\/a>(o.length:Int)+1):zc1 o a e=(o,false):=if_pos h
def jw4 {o a e} (h:1<=a/\a<=(o.length:Int)):zc1 o a e=(o,vw4 (o.getD (a-1).toNat ye4) e):=by
 unfold zc1;rw [if_neg (by omega),if_pos h.2]
def jw3 {o a e} (h:a=(o.length:Int)+1):zc1 o a e=(o++ [e],true):=by
 unfold zc1;rw [if_neg (by omega),if_neg (by omega)]
def vr8 (o a e) (i:o.length<=1000000) (h:e.Data.length<=1000000):qav v7 o a e=some ((((zc1 o a e).1,(),()),(),(),()),((zc1 o a e).2,())):=by
 obtain ⟨n,b⟩: ∃n,v7=n+1:=⟨999999999,rfl⟩;rw [wi1,zb7 (by omega)];by_cases d:a<1
 ·rw [W4 d,j9,b,yw1,j9,yd0 (.inl d)]
 ·rw [W5 d,j6];by_cases f:a>(o.length:Int)+1
  ·rw [W4 f,b,yw1,j9,yd0 (.inr f)]
  ·rw [W5 f,b,yw1,j6];by_cases g:a<=(o.length:Int)
   ·rw [W4 g,j9,zb7 (by omega),if_pos (by omega),kq0 _ e h,j4,jw4 ⟨by omega,g⟩]
   ·rw [W5 g,j6,yt0 _ h,j4,if_pos (by omega),jw3 (by omega)]
def jw2 (o a e) (i:o.length<=1000000) (h:e.Data.length<=1000000):qap v7 o a e=some ((((zc1 o a e).1,()),(),()),((zc1 o a e).2,())):=by
 obtain ⟨n,b⟩: ∃n,v7=n+1:=⟨999999999,rfl⟩;rw [wh3,zb7 (by omega)];by_cases d:a<1
 ·rw [W4 d,j9,b,yw0,j9,yd0 (.inl d)]
 ·rw [W5 d,j6];by_cases f:a>(o.length:Int)+1
  ·rw [W4 f,b,yw0,j9,yd0 (.inr f)]
  ·rw [W5 f,b,yw0,j6];by_cases g:a<=(o.length:Int)
   ·rw [W4 g,j9,zb7 (by omega),if_pos (by omega),kq0 _ e h,j4,jw4 ⟨by omega,g⟩]
   ·rw [W5 g,j6,yt0 _ h,j4,if_pos (by omega),jw3 (by omega)]
def nxt (x:Int):Int:=IntKind.i64.wrap (x+1)
def apM (o:List Entry) (s:Sv) (t:Tale):List Entry×Sv×Int:=
 if t.Index=nxt s.ap then
  (if (zc1 o t.Index (zs3 t)).2=true then ((zc1 o t.Index (zs3 t)).1,⟨(jq5 s.m (zs3 t)).1,nxt s.ap,s.wk,s.la⟩,if (jq5 s.m (zs3 t)).2=t.Err then 0 else 4) else ((zc1 o t.Index (zs3 t)).1,s,8))
 else (o,s,8)
def acM (s:Sv) (t:Tale):Sv×Int:=
 if s.la=2/\t.Version≠s.wk/\(t.Version=0\/t.Version=s.m.act) then (⟨s.m,s.ap,t.Version,s.la⟩,0) else (s,4)
def jb5 (s:Sv) (b:List Int):Int×Bool:=
 if s.wk=0 then (1,true) else if b.length>65535 then (0,true) else
  let l:=jl9 s.m.held s.wk
  let c:=if okG (zv4 l)=true then (zv4 l).c else []
  let o:=E.runAll (C.getsP c).1 b
  (o.Verdict,okG (zv4 l)&&(((C.getsP c).2==0)&&(o.Err==0)))
def veM (s:Sv) (t:Tale):Int:=if t.Version=s.wk/\(jb5 s t.Bytes).2=true/\(jb5 s t.Bytes).1=t.Verdict then 0 else 11
abbrev psv (s:Sv):Unit×Int×Int×Int×Unit:=((),s.ap,s.wk,s.la,())
abbrev pmm (m:Mc):Int×Unit×Int×Int×Int×Unit×Bool×Unit:=(m.sv,(),m.act,m.bef,m.roll,(),m.no,())
structure TOk (t:Tale):Prop where
 dl:t.Entry_Data.length<=9000
 db: ∀x∈t.Entry_Data,0<=x/\x<=255
 bl:t.Bytes.length<=9000
 bb: ∀x∈t.Bytes,0<=x/\x<=255
structure SvOk (s:Sv) (c:Nat):Prop where
 m:okM s.m c
 hb: ∀p∈s.m.held,∀x∈p.2,0<=x/\x<=255
section
variable {s:Sv} {c:Nat} {t:Tale} {o:List Entry}
def kk0:qb v7 o s.m.sv s.m.held s.m.act s.m.bef s.m.roll s.m.yes s.m.no s.ap s.wk s.la t=some ((((),(),()),o,(),psv s,pmm s.m,s.m.held,s.m.yes,()),((0:Int),())):=uh8 ..
def vk5 (h:SvOk s c) (e:TOk t) (f:o.length<=1000000):qe v7 o s.m.sv s.m.held s.m.act s.m.bef s.m.roll s.m.yes s.m.no s.ap s.wk s.la t=
  some ((((apM o s t).1,(),()),(),(),psv (apM o s t).2.1,pmm (apM o s t).2.1.m,(apM o s t).2.1.m.held,(apM o s t).2.1.m.yes,()),((apM o s t).2.2,())):=by
 obtain ⟨n,d⟩: ∃n,v7=n+1:=⟨999999999,rfl⟩;have i:=e.dl;rw [ui3,show IntKind.i64.wrap (s.ap+1)=nxt s.ap from rfl];unfold apM;by_cases a:t.Index=nxt s.ap
 ·rw [show (t.Index != nxt s.ap)=false by simpa using a,j6,vr8 o t.Index (zs3 t) f (by show t.Entry_Data.length<=_;omega),j4,if_pos a];dsimp only;cases h2:(zc1 o t.Index (zs3 t)).2 with
  |false=>
   rw [show (!false)=true from rfl,d,jv1,j9,if_neg (by simp)]
  |true=>
   have g:=uf5 s.m (zs3 t) (by have:=h.m.sv;omega) (by show t.Entry_Data.length<=_;omega);rw [show (!true)=false from rfl,d,jv1,j6,g,j4,if_pos rfl];dsimp only;by_cases b:(jq5 s.m (zs3 t)).2=t.Err
   ·rw [show ((jq5 s.m (zs3 t)).2 != t.Err)=false by simpa using b,j6,if_pos b];rfl
   ·rw [show ((jq5 s.m (zs3 t)).2 != t.Err)=true by simpa using b,j9,if_neg b];rfl
 ·rw [show (t.Index != nxt s.ap)=true by simpa using a,j9,d,ke0,j9,if_neg a]
def vy7 (h:SvOk s c) (g:c<=1000):qf v7 o s.m.sv s.m.held s.m.act s.m.bef s.m.roll s.m.yes s.m.no s.ap s.wk s.la t=
  some ((((),(),()),o,(),psv (acM s t).1,pmm (acM s t).1.m,(acM s t).1.m.held,(acM s t).1.m.yes,()),((acM s t).2,())):=by
 obtain ⟨n,a⟩: ∃n,v7=n+1:=⟨999999999,rfl⟩;rw [ui4];unfold acM;by_cases b:s.la=2
 ·rw [show (s.la != 2)=false by simpa using b,j6];by_cases d:t.Version=s.wk
  ·rw [show (t.Version==s.wk)=true by simpa using d,j9,a,yg5,j9,if_neg (by simp [d])]
  ·rw [show (t.Version==s.wk)=false by simpa using d,j6];by_cases e:t.Version=0
   ·rw [show (t.Version != 0)=false by simpa using e,j6,a,yg5,j6,if_pos ⟨b,d,.inl e⟩]
   ·rw [show (t.Version != 0)=true by simpa using e,j9,gg8 s.m h.m g,j4];dsimp only;rw [show (vc8 s.m).Active=s.m.act from rfl];by_cases f:t.Version=s.m.act
    ·rw [show (t.Version != s.m.act)=false by simpa using f,a,yg5,j6,if_pos ⟨b,d,.inr f⟩]
    ·rw [show (t.Version != s.m.act)=true by simpa using f,a,yg5,j9,if_neg (by simp [e,f])]
 ·rw [show (s.la != 2)=true by simpa using b,j9,a,yg5,j9,if_neg (by simp [b])]
end
def wc1 (l) (g:l.length<=1000000):qdn v7 l=some ((l,()),(if okG (zv4 l)=true then ((⟨(zv4 l).v,(zv4 l).c,(zv4 l).d,(zv4 l).t⟩:Bundle),0,()) else ((⟨0,[],[],[]⟩:Bundle),4,()))):=by
 have p:okR l ⟨0,l.length,false⟩:=W7 _;have k:=qo4 p;have m:=yc8 k;have q:=yc8 m;have r:=yp1 l g;have u:=zn2 l _ k g;have w:=zn2 l _ m g;have x:=zn2 l _ q g;rw [show zv4 l=⟨(zp7 l ⟨0,l.length,false⟩).1,(zb3 l (zp7 l ⟨0,l.length,false⟩).2).1,(zb3 l (zb3 l (zp7 l ⟨0,l.length,false⟩).2).2).1,(zb3 l (zb3 l (zb3 l (zp7 l ⟨0,l.length,false⟩).2).2).2).1,(zb3 l (zb3 l (zb3 l (zp7 l ⟨0,l.length,false⟩).2).2).2).2⟩ from rfl];generalize zp7 l ⟨0,l.length,false⟩=a at *;generalize zb3 l a.2=b at *;generalize zb3 l b.2=c at *;generalize zb3 l c.2=d at *;have y: ∃z,qcv v7 l=some ((((),()),l,()),z)/\((okG ⟨a.1,b.1,c.1,d.1,d.2⟩=true/\z=.inl ((a.1,b.1,c.1,d.1,()),()))\/(okG ⟨a.1,b.1,c.1,d.1,d.2⟩=false/\ ∃e:Int,z=.inr (e,())/\e≠0)):=by
  rw [wn9,ub6,if_pos (by omega),j4];dsimp only;rw [J8,r,j4];dsimp only;rw [u,j4];dsimp only;rw [w,j4];dsimp only;rw [x,j4];dsimp only;rw [ki2,j4];dsimp only;rw [ye1,j4];unfold okG;dsimp only;cases hd:(!d.2.bad&&(d.2.n==0)) with
  |false=>
   rw [show (!false)=true from rfl,if_pos rfl];exact ⟨_,rfl,.inr ⟨by simp,4,rfl,by decide⟩⟩
  |true=>
   rw [show (!true)=false from rfl,if_neg (by simp)];dsimp only;obtain ⟨z,i,f⟩:=je1 a.1 b.1 c.1 d.1;rw [i,j4];rcases f with ⟨rfl,h⟩|⟨e,rfl,j,h⟩
   ·exact ⟨_,rfl,.inl ⟨by rw [M4];exact h,rfl⟩⟩
   ·exact ⟨_,rfl,.inr ⟨by rw [M4];exact h,e,rfl,j⟩⟩
 obtain ⟨z,i,f⟩:=y;rw [wr5,wi7,i,j4];rcases f with ⟨h,rfl⟩|⟨h,e,rfl,j⟩
 ·rw [h,if_pos rfl];dsimp only;rw [km2,j4,j4];rfl
 ·rw [h,if_neg (by simp)];dsimp only;rw [km3,j4,j4];dsimp only;rw [show (e != 0)=true by simpa using j,j9]
def qh5 {l s x} (h:x∈(zb3 l s).1):x∈l:=by
 unfold zb3 at h;split at h
 ·cases h
 ·split at h
  ·split at h
   ·exact List.mem_of_mem_drop (J3 h)
   ·cases h
  ·cases h
section
variable {s:Sv} {c:Nat} {t:Tale} {o:List Entry}
def uc8 (h:SvOk s c) (b) (j: ∀x∈b,0<=x/\x<=255):qdt v7 s.m.sv s.m.held s.m.act s.m.bef s.m.roll s.m.yes s.m.no s.ap s.wk s.la b=some ((psv s,pmm s.m,s.m.held,s.m.yes,()),((jb5 s b).1,(jb5 s b).2,())):=by
 rw [ws7];unfold jb5;by_cases e:s.wk=0
 ·rw [show (s.wk==0)=true by simpa using e,j9,if_pos e]
 ·rw [show (s.wk==0)=false by simpa using e,j6,if_neg e];by_cases k:b.length>65535
  ·rw [W4 (by omega),j9,if_pos k]
  ·rw [W5 (by omega),j6,if_neg k,wb6 s.m s.wk h.m,j4];dsimp only;have n:(jl9 s.m.held s.wk).length<=1000000:=yf9 (P:=fun l=>l.length<=1000000) (by simp) s.wk fun p f=>by have:=h.m.dl p f;omega
   have g: ∀x∈jl9 s.m.held s.wk,0<=x/\x<=255:=yf9 (P:=fun l=> ∀x∈l,0<=x/\x<=255) (by simp) s.wk fun p f=>h.hb p f;generalize jl9 s.m.held s.wk=l at *;rw [wc1 l n,j4];dsimp only;have a: ∀(d:List Int),(∀x∈d,0<=x/\x<=255)->qal v7 d=some (C.getsP d):=fun d i=>C.get_p d i;cases hk:okG (zv4 l) with
   |true=>
    simp only [if_true];rw [a (zv4 l).c (fun x q=>g x (qh5 (s:=(zp7 l ⟨0,l.length,false⟩).2) q)),j4,E.run_p _ b j,j4];rw [show ((0:Int)==0)=true from rfl,j9];cases hg:((C.getsP (zv4 l).c).2==0) with
    |true=>rw [j9];rfl
    |false=>rw [j6];rfl
   |false=>
    simp only [N5,if_false];rw [a [] (by simp),j4,E.run_p _ b j,j4];rfl
def vs8 (h:SvOk s c) (d:TOk t):qk v7 o s.m.sv s.m.held s.m.act s.m.bef s.m.roll s.m.yes s.m.no s.ap s.wk s.la t=
  some ((((),(),()),o,(),psv s,pmm s.m,s.m.held,s.m.yes,()),(veM s t,())):=by
 rw [ui9,uc8 h t.Bytes d.bb,j4];dsimp only;unfold veM;by_cases a:t.Version=s.wk
 ·rw [show (t.Version != s.wk)=false by simpa using a,j6];cases h2:(jb5 s t.Bytes).2 with
  |false=>rw [show (!false)=true from rfl,j9,if_neg (by simp)]
  |true=>
   rw [show (!true)=false from rfl,j6];by_cases b:(jb5 s t.Bytes).1=t.Verdict
   ·rw [show ((jb5 s t.Bytes).1 != t.Verdict)=false by simpa using b,j6,if_pos ⟨a,rfl,b⟩]
   ·rw [show ((jb5 s t.Bytes).1 != t.Verdict)=true by simpa using b,j9,if_neg (by simp [b])]
 ·rw [show (t.Version != s.wk)=true by simpa using a,j9,if_neg (by simp [a])]
end
def zh5 (k:Int):Bool:=decide (1<=k)&&decide (k<=5)
def onS (o:List Entry) (s:Sv) (t:Tale):List Entry×Sv×Int:=
 if t.Kind=2 then apM o s t else if t.Kind=3 then (o,(acM s t).1,(acM s t).2) else if t.Kind=4 then (o,s,veM s t) else (o,s,0)
def qe9 (s:Sv) (k:Int):Sv:=⟨s.m,s.ap,s.wk,k⟩
def zb5 (o:List Entry) (l:List Sv) (t:Tale):List Entry×List Sv×Int:=
 if 1<=t.Server/\t.Server<=(l.length:Int)/\zh5 t.Kind=true then
  ((onS o (l.getD (t.Server-1).toNat dSv) t).1,l.set (t.Server-1).toNat (qe9 (onS o (l.getD (t.Server-1).toNat dSv) t).2.1 t.Kind),(onS o (l.getD (t.Server-1).toNat dSv) t).2.2)
 else (o,l,2)
def za7 {o l t} (h: ¬(1<=t.Server/\t.Server<=(l.length:Int))\/zh5 t.Kind=false):zb5 o l t=(o,l,2):=by
 unfold zb5;rw [if_neg];rintro ⟨b,d,a⟩;rcases h with h|h
 ·exact h ⟨b,d⟩
 ·rw [h] at a;cases a
def ze0 {o l t} (j s) (a:l[j]?=some s) (h:t.Server=((j+1:Nat):Int)) (b:zh5 t.Kind=true):
  zb5 o l t=((onS o s t).1,l.set j (qe9 (onS o s t).2.1 t.Kind),(onS o s t).2.2):=by
 obtain ⟨d,f⟩:=X2.1 a;have e:(t.Server-1).toNat=j:=by omega
 unfold zb5;rw [if_pos ⟨by omega,by omega,b⟩,e,Y2,a];rfl
def za5:List Tale->List Entry->List Sv->Int
 | [],_,_=>0
 |t::r,o,l=>if (zb5 o l t).2.2=0 then za5 r (zb5 o l t).1 (zb5 o l t).2.1 else (zb5 o l t).2.2
structure WOk (o:List Entry) (l:List Sv) (c:Nat):Prop where
 o:o.length<=c
 s: ∀s∈l,SvOk s c
def SvOk.more {s c} (h:SvOk s c):SvOk s (c+1):=⟨h.m.more,h.hb⟩
def zu4 (o a e):(zc1 o a e).1.length<=o.length+1:=by
 unfold zc1;split
 ·exact Nat.le_succ _
 ·split
  ·exact Nat.le_succ _
  ·simp
def vy9 (m e): ∀p∈(jq5 m e).1.held,p∈m.held\/p.2=e.Data:=by
 have d: ∀(b:Mc),b.held=m.held-> ∀p∈(yo3 b).held,p∈m.held\/p.2=e.Data:=fun b h p a=>.inl (by rw [<-h];exact a);intro p a;unfold jq5 at a;split at a
 ·exact .inl a
 ·split at a
  ·unfold vx9 at a;split at a
   ·exact .inl a
   ·split at a
    ·exact .inl a
    ·split at a
     ·exact .inl a
     ·rcases yg3 a with rfl|a
      ·exact .inr rfl
      ·exact .inl a
  ·split at a
   ·unfold kk2 at a;split at a
    ·exact .inl a
    ·split at a
     ·exact .inl a
     ·split at a<;>exact .inl a
   ·split at a
    ·unfold vd2 at a;split at a
     ·exact .inl a
     ·split at a
      ·exact .inl a
      ·split at a<;>exact .inl a
    ·split at a
     ·unfold vd3 at a;split at a
      ·exact .inl a
      ·split at a<;>exact .inl a
     ·split at a
      ·unfold qp4 at a;split at a
       ·exact .inl a
       ·split at a
        ·split at a<;>exact .inl a
        ·exact .inl a
      ·exact .inl a
def wd2 {o s t c} (h:SvOk s c) (d:TOk t):SvOk (onS o s t).2.1 (c+1)/\(onS o s t).1.length<=o.length+1:=by
 unfold onS;split
 ·unfold apM;split
  ·split
   ·refine ⟨⟨h.m.app (by have:=d.dl;show t.Entry_Data.length<=_;omega),fun p a x b=>?_⟩,zu4 _ _ _⟩;rcases vy9 s.m (zs3 t) p a with a|a
    ·exact h.hb p a x b
    ·rw [a] at b;exact d.db x b
   ·exact ⟨h.more,zu4 _ _ _⟩
  ·exact ⟨h.more,Nat.le_succ _⟩
 ·split
  ·refine ⟨?_,Nat.le_succ _⟩;show SvOk (acM s t).1 _;unfold acM;split
   ·exact ⟨h.m.more,h.hb⟩
   ·exact h.more
  ·split
   ·exact ⟨h.more,Nat.le_succ _⟩
   ·exact ⟨h.more,Nat.le_succ _⟩
def yd9 {o l t c} (h:WOk o l c) (e:TOk t):WOk (zb5 o l t).1 (zb5 o l t).2.1 (c+1)/\(zb5 o l t).2.1.length=l.length:=by
 unfold zb5;split
 ·rename_i g;have a:(t.Server-1).toNat<l.length:=by omega
  have f:SvOk (l.getD (t.Server-1).toNat dSv) c:=by
   rw [Y2,Y0 a];exact h.s _ (J0 a)
  obtain ⟨d,i⟩:=wd2 (o:=o) f e;refine ⟨⟨?_,fun s b=>?_⟩,by simp⟩
  ·have:=h.o;show (onS _ _ _).1.length<=_;omega
  ·rcases K3 b with b|rfl
   ·exact (h.s s b).more
   ·exact ⟨d.m,d.hb⟩
 ·exact ⟨⟨J6 h.o,fun s b=>(h.s s b).more⟩,rfl⟩
end Go.Y
namespace Go.Y
open Go.RowKit Go.V Go.X Go.Proofs
def zj5 {i} (G:List Entry->Sv->Int->i) (a:Option i) {s c t o} (f:SvOk s c) (k:c<=1000) (j:TOk t) (l:o.length<=1000000):
  (if t.Kind=(1:Int) then (j7 (qb v7 o s.m.sv s.m.held s.m.act s.m.bef s.m.roll s.m.yes s.m.no s.ap s.wk s.la t) fun y=>some (G y.1.2.1 ⟨⟨y.1.2.2.2.2.1.1,y.1.2.2.2.2.2.1,y.1.2.2.2.2.1.2.2.1,y.1.2.2.2.2.1.2.2.2.1,y.1.2.2.2.2.1.2.2.2.2.1,y.1.2.2.2.2.2.2.1,y.1.2.2.2.2.1.2.2.2.2.2.2.1⟩,y.1.2.2.2.1.2.1,y.1.2.2.2.1.2.2.1,t.Kind⟩ y.2.1))
  else if t.Kind=(5:Int) then (j7 (qb v7 o s.m.sv s.m.held s.m.act s.m.bef s.m.roll s.m.yes s.m.no s.ap s.wk s.la t) fun y=>some (G y.1.2.1 ⟨⟨y.1.2.2.2.2.1.1,y.1.2.2.2.2.2.1,y.1.2.2.2.2.1.2.2.1,y.1.2.2.2.2.1.2.2.2.1,y.1.2.2.2.2.1.2.2.2.2.1,y.1.2.2.2.2.2.2.1,y.1.2.2.2.2.1.2.2.2.2.2.2.1⟩,y.1.2.2.2.1.2.1,y.1.2.2.2.1.2.2.1,t.Kind⟩ y.2.1))
  else if t.Kind=(2:Int) then (j7 (qe v7 o s.m.sv s.m.held s.m.act s.m.bef s.m.roll s.m.yes s.m.no s.ap s.wk s.la t) fun y=>some (G y.1.1.1 ⟨⟨y.1.2.2.2.2.1.1,y.1.2.2.2.2.2.1,y.1.2.2.2.2.1.2.2.1,y.1.2.2.2.2.1.2.2.2.1,y.1.2.2.2.2.1.2.2.2.2.1,y.1.2.2.2.2.2.2.1,y.1.2.2.2.2.1.2.2.2.2.2.2.1⟩,y.1.2.2.2.1.2.1,y.1.2.2.2.1.2.2.1,t.Kind⟩ y.2.1))
  else if t.Kind=(3:Int) then (j7 (qf v7 o s.m.sv s.m.held s.m.act s.m.bef s.m.roll s.m.yes s.m.no s.ap s.wk s.la t) fun y=>some (G y.1.2.1 ⟨⟨y.1.2.2.2.2.1.1,y.1.2.2.2.2.2.1,y.1.2.2.2.2.1.2.2.1,y.1.2.2.2.2.1.2.2.2.1,y.1.2.2.2.2.1.2.2.2.2.1,y.1.2.2.2.2.2.2.1,y.1.2.2.2.2.1.2.2.2.2.2.2.1⟩,y.1.2.2.2.1.2.1,y.1.2.2.2.1.2.2.1,t.Kind⟩ y.2.1))
  else if t.Kind=(4:Int) then (j7 (qk v7 o s.m.sv s.m.held s.m.act s.m.bef s.m.roll s.m.yes s.m.no s.ap s.wk s.la t) fun y=>some (G y.1.2.1 ⟨⟨y.1.2.2.2.2.1.1,y.1.2.2.2.2.2.1,y.1.2.2.2.2.1.2.2.1,y.1.2.2.2.2.1.2.2.2.1,y.1.2.2.2.2.1.2.2.2.2.1,y.1.2.2.2.2.2.2.1,y.1.2.2.2.2.1.2.2.2.2.2.2.1⟩,y.1.2.2.2.1.2.1,y.1.2.2.2.1.2.2.1,t.Kind⟩ y.2.1))
  else a)=if zh5 t.Kind=true then some (G (onS o s t).1 (qe9 (onS o s t).2.1 t.Kind) (onS o s t).2.2) else a:=by
 by_cases g:t.Kind=1
 ·rw [if_pos g,kk0,j4,if_pos (by rw [g];rfl),show onS o s t=(o,s,0) by unfold onS;rw [if_neg (by omega),if_neg (by omega),if_neg (by omega)]];rfl
 rw [if_neg g];by_cases h:t.Kind=5
 ·rw [if_pos h,kk0,j4,if_pos (by rw [h];rfl),show onS o s t=(o,s,0) by unfold onS;rw [if_neg (by omega),if_neg (by omega),if_neg (by omega)]];rfl
 rw [if_neg h];by_cases b:t.Kind=2
 ·rw [if_pos b,vk5 f j l,j4,if_pos (by rw [b];rfl),show onS o s t=apM o s t by unfold onS;rw [if_pos b]];rfl
 rw [if_neg b];by_cases d:t.Kind=3
 ·rw [if_pos d,vy7 f k,j4,if_pos (by rw [d];rfl),show onS o s t=(o,(acM s t).1,(acM s t).2) by unfold onS;rw [if_neg (by omega),if_pos d]];rfl
 rw [if_neg d];by_cases e:t.Kind=4
 ·rw [if_pos e,vs8 f j,j4,if_pos (by rw [e];rfl),show onS o s t=(o,s,veM s t) by unfold onS;rw [if_neg (by omega),if_neg (by omega),if_pos e]];rfl
 rw [if_neg e,if_neg];unfold zh5;rw [X3,decide_eq_true_eq,decide_eq_true_eq];omega
def sv0 (k:Int):Sv:=⟨⟨k,[],0,0,0,[],false⟩,0,0,0⟩
def rp1 (o:List Entry) (l:List Sv):(List Entry×Unit×Unit)×Unit×(Unit×Unit)×(Unit×Int×Int×Int×Unit)×(Int×Unit×Int×Int×Int×Unit×Bool×Unit)×List (Int×List Int)×List (Int×Bool)×Unit:=((o,(),()),(),((),()),psv (l.getD 0 dSv),pmm (l.getD 0 dSv).m,(l.getD 0 dSv).m.held,(l.getD 0 dSv).m.yes,())
def wd3 {o a c t} (h:WOk o [a] c) (d:c<=1000) (f:TOk t):qbr v7 o a.m.sv a.m.held a.m.act a.m.bef a.m.roll a.m.yes a.m.no a.ap a.wk a.la t=some (rp1 (zb5 o [a] t).1 (zb5 o [a] t).2.1,((zb5 o [a] t).2.2,())):=by
 have g:o.length<=1000000:=by have:=h.o;omega
 rw [wl4];by_cases b:t.Server=(1:Int)
 ·rw [if_pos b];refine (zj5 (fun i j e=>(rp1 i [j],(e,()))) _ (h.s a (by simp)) d f g).trans ?_;cases hk:zh5 t.Kind with
  |true=>rw [if_pos rfl,ze0 0 a rfl (by omega) hk];rfl
  |false=>rw [if_neg (by simp),za7 (.inr hk)];rfl
 rw [if_neg b];rw [za7 (.inl (by show ¬(1<=t.Server/\t.Server<=((1:Nat):Int));omega))];simp only [ite_self];rfl
def rp2 (o:List Entry) (l:List Sv):(List Entry×Unit×Unit)×Unit×(Unit×Unit×Unit)×(Unit×Int×Int×Int×Unit)×(Int×Unit×Int×Int×Int×Unit×Bool×Unit)×List (Int×List Int)×List (Int×Bool)×(Unit×Int×Int×Int×Unit)×(Int×Unit×Int×Int×Int×Unit×Bool×Unit)×List (Int×List Int)×List (Int×Bool)×Unit:=((o,(),()),(),((),(),()),psv (l.getD 0 dSv),pmm (l.getD 0 dSv).m,(l.getD 0 dSv).m.held,(l.getD 0 dSv).m.yes,psv (l.getD 1 dSv),pmm (l.getD 1 dSv).m,(l.getD 1 dSv).m.held,(l.getD 1 dSv).m.yes,())
def wd4 {o a b c t} (h:WOk o [a,b] c) (g:c<=1000) (i:TOk t):qbt v7 o a.m.sv a.m.held a.m.act a.m.bef a.m.roll a.m.yes a.m.no a.ap a.wk a.la b.m.sv b.m.held b.m.act b.m.bef b.m.roll b.m.yes b.m.no b.ap b.wk b.la t=some (rp2 (zb5 o [a,b] t).1 (zb5 o [a,b] t).2.1,((zb5 o [a,b] t).2.2,())):=by
 have j:o.length<=1000000:=by have:=h.o;omega
 rw [wl5];by_cases k:t.Server=(1:Int)
 ·rw [if_pos k];refine (zj5 (fun d f e=>(rp2 d [f,b],(e,()))) _ (h.s a (by simp)) g i j).trans ?_;cases hk:zh5 t.Kind with
  |true=>rw [if_pos rfl,ze0 0 a rfl (by omega) hk];rfl
  |false=>rw [if_neg (by simp),za7 (.inr hk)];rfl
 rw [if_neg k];by_cases l:t.Server=(2:Int)
 ·rw [if_pos l];refine (zj5 (fun d f e=>(rp2 d [a,f],(e,()))) _ (h.s b (by simp)) g i j).trans ?_;cases hk:zh5 t.Kind with
  |true=>rw [if_pos rfl,ze0 1 b rfl (by omega) hk];rfl
  |false=>rw [if_neg (by simp),za7 (.inr hk)];rfl
 rw [if_neg l];rw [za7 (.inl (by show ¬(1<=t.Server/\t.Server<=((2:Nat):Int));omega))];simp only [ite_self];rfl
def rp3 (o:List Entry) (l:List Sv):(List Entry×Unit×Unit)×Unit×(Unit×Unit×Unit×Unit)×(Unit×Int×Int×Int×Unit)×(Int×Unit×Int×Int×Int×Unit×Bool×Unit)×List (Int×List Int)×List (Int×Bool)×(Unit×Int×Int×Int×Unit)×(Int×Unit×Int×Int×Int×Unit×Bool×Unit)×List (Int×List Int)×List (Int×Bool)×(Unit×Int×Int×Int×Unit)×(Int×Unit×Int×Int×Int×Unit×Bool×Unit)×List (Int×List Int)×List (Int×Bool)×Unit:=((o,(),()),(),((),(),(),()),psv (l.getD 0 dSv),pmm (l.getD 0 dSv).m,(l.getD 0 dSv).m.held,(l.getD 0 dSv).m.yes,psv (l.getD 1 dSv),pmm (l.getD 1 dSv).m,(l.getD 1 dSv).m.held,(l.getD 1 dSv).m.yes,psv (l.getD 2 dSv),pmm (l.getD 2 dSv).m,(l.getD 2 dSv).m.held,(l.getD 2 dSv).m.yes,())
def wd5 {o a b d c t} (h:WOk o [a,b,d] c) (i:c<=1000) (j:TOk t):qbz v7 o a.m.sv a.m.held a.m.act a.m.bef a.m.roll a.m.yes a.m.no a.ap a.wk a.la b.m.sv b.m.held b.m.act b.m.bef b.m.roll b.m.yes b.m.no b.ap b.wk b.la d.m.sv d.m.held d.m.act d.m.bef d.m.roll d.m.yes d.m.no d.ap d.wk d.la t=some (rp3 (zb5 o [a,b,d] t).1 (zb5 o [a,b,d] t).2.1,((zb5 o [a,b,d] t).2.2,())):=by
 have k:o.length<=1000000:=by have:=h.o;omega
 rw [wm1];by_cases l:t.Server=(1:Int)
 ·rw [if_pos l];refine (zj5 (fun f g e=>(rp3 f [g,b,d],(e,()))) _ (h.s a (by simp)) i j k).trans ?_;cases hk:zh5 t.Kind with
  |true=>rw [if_pos rfl,ze0 0 a rfl (by omega) hk];rfl
  |false=>rw [if_neg (by simp),za7 (.inr hk)];rfl
 rw [if_neg l];by_cases n:t.Server=(2:Int)
 ·rw [if_pos n];refine (zj5 (fun f g e=>(rp3 f [a,g,d],(e,()))) _ (h.s b (by simp)) i j k).trans ?_;cases hk:zh5 t.Kind with
  |true=>rw [if_pos rfl,ze0 1 b rfl (by omega) hk];rfl
  |false=>rw [if_neg (by simp),za7 (.inr hk)];rfl
 rw [if_neg n];by_cases p:t.Server=(3:Int)
 ·rw [if_pos p];refine (zj5 (fun f g e=>(rp3 f [a,b,g],(e,()))) _ (h.s d (by simp)) i j k).trans ?_;cases hk:zh5 t.Kind with
  |true=>rw [if_pos rfl,ze0 2 d rfl (by omega) hk];rfl
  |false=>rw [if_neg (by simp),za7 (.inr hk)];rfl
 rw [if_neg p];rw [za7 (.inl (by show ¬(1<=t.Server/\t.Server<=((3:Nat):Int));omega))];simp only [ite_self];rfl
def rp4 (o:List Entry) (l:List Sv):(List Entry×Unit×Unit)×Unit×(Unit×Unit×Unit×Unit×Unit)×(Unit×Int×Int×Int×Unit)×(Int×Unit×Int×Int×Int×Unit×Bool×Unit)×List (Int×List Int)×List (Int×Bool)×(Unit×Int×Int×Int×Unit)×(Int×Unit×Int×Int×Int×Unit×Bool×Unit)×List (Int×List Int)×List (Int×Bool)×(Unit×Int×Int×Int×Unit)×(Int×Unit×Int×Int×Int×Unit×Bool×Unit)×List (Int×List Int)×List (Int×Bool)×(Unit×Int×Int×Int×Unit)×(Int×Unit×Int×Int×Int×Unit×Bool×Unit)×List (Int×List Int)×List (Int×Bool)×Unit:=((o,(),()),(),((),(),(),(),()),psv (l.getD 0 dSv),pmm (l.getD 0 dSv).m,(l.getD 0 dSv).m.held,(l.getD 0 dSv).m.yes,psv (l.getD 1 dSv),pmm (l.getD 1 dSv).m,(l.getD 1 dSv).m.held,(l.getD 1 dSv).m.yes,psv (l.getD 2 dSv),pmm (l.getD 2 dSv).m,(l.getD 2 dSv).m.held,(l.getD 2 dSv).m.yes,psv (l.getD 3 dSv),pmm (l.getD 3 dSv).m,(l.getD 3 dSv).m.held,(l.getD 3 dSv).m.yes,())
def wd6 {o a b d f c t} (h:WOk o [a,b,d,f] c) (j:c<=1000) (k:TOk t):qcd v7 o a.m.sv a.m.held a.m.act a.m.bef a.m.roll a.m.yes a.m.no a.ap a.wk a.la b.m.sv b.m.held b.m.act b.m.bef b.m.roll b.m.yes b.m.no b.ap b.wk b.la d.m.sv d.m.held d.m.act d.m.bef d.m.roll d.m.yes d.m.no d.ap d.wk d.la f.m.sv f.m.held f.m.act f.m.bef f.m.roll f.m.yes f.m.no f.ap f.wk f.la t=some (rp4 (zb5 o [a,b,d,f] t).1 (zb5 o [a,b,d,f] t).2.1,((zb5 o [a,b,d,f] t).2.2,())):=by
 have l:o.length<=1000000:=by have:=h.o;omega
 rw [wm4];by_cases n:t.Server=(1:Int)
 ·rw [if_pos n];refine (zj5 (fun g i e=>(rp4 g [i,b,d,f],(e,()))) _ (h.s a (by simp)) j k l).trans ?_;cases hk:zh5 t.Kind with
  |true=>rw [if_pos rfl,ze0 0 a rfl (by omega) hk];rfl
  |false=>rw [if_neg (by simp),za7 (.inr hk)];rfl
 rw [if_neg n];by_cases p:t.Server=(2:Int)
 ·rw [if_pos p];refine (zj5 (fun g i e=>(rp4 g [a,i,d,f],(e,()))) _ (h.s b (by simp)) j k l).trans ?_;cases hk:zh5 t.Kind with
  |true=>rw [if_pos rfl,ze0 1 b rfl (by omega) hk];rfl
  |false=>rw [if_neg (by simp),za7 (.inr hk)];rfl
 rw [if_neg p];by_cases q:t.Server=(3:Int)
 ·rw [if_pos q];refine (zj5 (fun g i e=>(rp4 g [a,b,i,f],(e,()))) _ (h.s d (by simp)) j k l).trans ?_;cases hk:zh5 t.Kind with
  |true=>rw [if_pos rfl,ze0 2 d rfl (by omega) hk];rfl
  |false=>rw [if_neg (by simp),za7 (.inr hk)];rfl
 rw [if_neg q];by_cases r:t.Server=(4:Int)
 ·rw [if_pos r];refine (zj5 (fun g i e=>(rp4 g [a,b,d,i],(e,()))) _ (h.s f (by simp)) j k l).trans ?_;cases hk:zh5 t.Kind with
  |true=>rw [if_pos rfl,ze0 3 f rfl (by omega) hk];rfl
  |false=>rw [if_neg (by simp),za7 (.inr hk)];rfl
 rw [if_neg r];rw [za7 (.inl (by show ¬(1<=t.Server/\t.Server<=((4:Nat):Int));omega))];simp only [ite_self];rfl
def rp5 (o:List Entry) (l:List Sv):(List Entry×Unit×Unit)×Unit×(Unit×Unit×Unit×Unit×Unit×Unit)×(Unit×Int×Int×Int×Unit)×(Int×Unit×Int×Int×Int×Unit×Bool×Unit)×List (Int×List Int)×List (Int×Bool)×(Unit×Int×Int×Int×Unit)×(Int×Unit×Int×Int×Int×Unit×Bool×Unit)×List (Int×List Int)×List (Int×Bool)×(Unit×Int×Int×Int×Unit)×(Int×Unit×Int×Int×Int×Unit×Bool×Unit)×List (Int×List Int)×List (Int×Bool)×(Unit×Int×Int×Int×Unit)×(Int×Unit×Int×Int×Int×Unit×Bool×Unit)×List (Int×List Int)×List (Int×Bool)×(Unit×Int×Int×Int×Unit)×(Int×Unit×Int×Int×Int×Unit×Bool×Unit)×List (Int×List Int)×List (Int×Bool)×Unit:=((o,(),()),(),((),(),(),(),(),()),psv (l.getD 0 dSv),pmm (l.getD 0 dSv).m,(l.getD 0 dSv).m.held,(l.getD 0 dSv).m.yes,psv (l.getD 1 dSv),pmm (l.getD 1 dSv).m,(l.getD 1 dSv).m.held,(l.getD 1 dSv).m.yes,psv (l.getD 2 dSv),pmm (l.getD 2 dSv).m,(l.getD 2 dSv).m.held,(l.getD 2 dSv).m.yes,psv (l.getD 3 dSv),pmm (l.getD 3 dSv).m,(l.getD 3 dSv).m.held,(l.getD 3 dSv).m.yes,psv (l.getD 4 dSv),pmm (l.getD 4 dSv).m,(l.getD 4 dSv).m.held,(l.getD 4 dSv).m.yes,())
def wd7 {o a b d f g c t} (h:WOk o [a,b,d,f,g] c) (k:c<=1000) (l:TOk t):qci v7 o a.m.sv a.m.held a.m.act a.m.bef a.m.roll a.m.yes a.m.no a.ap a.wk a.la b.m.sv b.m.held b.m.act b.m.bef b.m.roll b.m.yes b.m.no b.ap b.wk b.la d.m.sv d.m.held d.m.act d.m.bef d.m.roll d.m.yes d.m.no d.ap d.wk d.la f.m.sv f.m.held f.m.act f.m.bef f.m.roll f.m.yes f.m.no f.ap f.wk f.la g.m.sv g.m.held g.m.act g.m.bef g.m.roll g.m.yes g.m.no g.ap g.wk g.la t=some (rp5 (zb5 o [a,b,d,f,g] t).1 (zb5 o [a,b,d,f,g] t).2.1,((zb5 o [a,b,d,f,g] t).2.2,())):=by
 have n:o.length<=1000000:=by have:=h.o;omega
 rw [wm7];by_cases p:t.Server=(1:Int)
 ·rw [if_pos p];refine (zj5 (fun i j e=>(rp5 i [j,b,d,f,g],(e,()))) _ (h.s a (by simp)) k l n).trans ?_;cases hk:zh5 t.Kind with
  |true=>rw [if_pos rfl,ze0 0 a rfl (by omega) hk];rfl
  |false=>rw [if_neg (by simp),za7 (.inr hk)];rfl
 rw [if_neg p];by_cases q:t.Server=(2:Int)
 ·rw [if_pos q];refine (zj5 (fun i j e=>(rp5 i [a,j,d,f,g],(e,()))) _ (h.s b (by simp)) k l n).trans ?_;cases hk:zh5 t.Kind with
  |true=>rw [if_pos rfl,ze0 1 b rfl (by omega) hk];rfl
  |false=>rw [if_neg (by simp),za7 (.inr hk)];rfl
 rw [if_neg q];by_cases r:t.Server=(3:Int)
 ·rw [if_pos r];refine (zj5 (fun i j e=>(rp5 i [a,b,j,f,g],(e,()))) _ (h.s d (by simp)) k l n).trans ?_;cases hk:zh5 t.Kind with
  |true=>rw [if_pos rfl,ze0 2 d rfl (by omega) hk];rfl
  |false=>rw [if_neg (by simp),za7 (.inr hk)];rfl
 rw [if_neg r];by_cases u:t.Server=(4:Int)
 ·rw [if_pos u];refine (zj5 (fun i j e=>(rp5 i [a,b,d,j,g],(e,()))) _ (h.s f (by simp)) k l n).trans ?_;cases hk:zh5 t.Kind with
  |true=>rw [if_pos rfl,ze0 3 f rfl (by omega) hk];rfl
  |false=>rw [if_neg (by simp),za7 (.inr hk)];rfl
 rw [if_neg u];by_cases v:t.Server=(5:Int)
 ·rw [if_pos v];refine (zj5 (fun i j e=>(rp5 i [a,b,d,f,j],(e,()))) _ (h.s g (by simp)) k l n).trans ?_;cases hk:zh5 t.Kind with
  |true=>rw [if_pos rfl,ze0 4 g rfl (by omega) hk];rfl
  |false=>rw [if_neg (by simp),za7 (.inr hk)];rfl
 rw [if_neg v];rw [za7 (.inl (by show ¬(1<=t.Server/\t.Server<=((5:Nat):Int));omega))];simp only [ite_self];rfl
def rp6 (o:List Entry) (l:List Sv):(List Entry×Unit×Unit)×Unit×(Unit×Unit×Unit×Unit×Unit×Unit×Unit)×(Unit×Int×Int×Int×Unit)×(Int×Unit×Int×Int×Int×Unit×Bool×Unit)×List (Int×List Int)×List (Int×Bool)×(Unit×Int×Int×Int×Unit)×(Int×Unit×Int×Int×Int×Unit×Bool×Unit)×List (Int×List Int)×List (Int×Bool)×(Unit×Int×Int×Int×Unit)×(Int×Unit×Int×Int×Int×Unit×Bool×Unit)×List (Int×List Int)×List (Int×Bool)×(Unit×Int×Int×Int×Unit)×(Int×Unit×Int×Int×Int×Unit×Bool×Unit)×List (Int×List Int)×List (Int×Bool)×(Unit×Int×Int×Int×Unit)×(Int×Unit×Int×Int×Int×Unit×Bool×Unit)×List (Int×List Int)×List (Int×Bool)×(Unit×Int×Int×Int×Unit)×(Int×Unit×Int×Int×Int×Unit×Bool×Unit)×List (Int×List Int)×List (Int×Bool)×Unit:=((o,(),()),(),((),(),(),(),(),(),()),psv (l.getD 0 dSv),pmm (l.getD 0 dSv).m,(l.getD 0 dSv).m.held,(l.getD 0 dSv).m.yes,psv (l.getD 1 dSv),pmm (l.getD 1 dSv).m,(l.getD 1 dSv).m.held,(l.getD 1 dSv).m.yes,psv (l.getD 2 dSv),pmm (l.getD 2 dSv).m,(l.getD 2 dSv).m.held,(l.getD 2 dSv).m.yes,psv (l.getD 3 dSv),pmm (l.getD 3 dSv).m,(l.getD 3 dSv).m.held,(l.getD 3 dSv).m.yes,psv (l.getD 4 dSv),pmm (l.getD 4 dSv).m,(l.getD 4 dSv).m.held,(l.getD 4 dSv).m.yes,psv (l.getD 5 dSv),pmm (l.getD 5 dSv).m,(l.getD 5 dSv).m.held,(l.getD 5 dSv).m.yes,())
def wd8 {o a b d f g i c t} (h:WOk o [a,b,d,f,g,i] c) (l:c<=1000) (n:TOk t):qcp v7 o a.m.sv a.m.held a.m.act a.m.bef a.m.roll a.m.yes a.m.no a.ap a.wk a.la b.m.sv b.m.held b.m.act b.m.bef b.m.roll b.m.yes b.m.no b.ap b.wk b.la d.m.sv d.m.held d.m.act d.m.bef d.m.roll d.m.yes d.m.no d.ap d.wk d.la f.m.sv f.m.held f.m.act f.m.bef f.m.roll f.m.yes f.m.no f.ap f.wk f.la g.m.sv g.m.held g.m.act g.m.bef g.m.roll g.m.yes g.m.no g.ap g.wk g.la i.m.sv i.m.held i.m.act i.m.bef i.m.roll i.m.yes i.m.no i.ap i.wk i.la t=some (rp6 (zb5 o [a,b,d,f,g,i] t).1 (zb5 o [a,b,d,f,g,i] t).2.1,((zb5 o [a,b,d,f,g,i] t).2.2,())):=by
 have p:o.length<=1000000:=by have:=h.o;omega
 rw [wn3];by_cases q:t.Server=(1:Int)
 ·rw [if_pos q];refine (zj5 (fun j k e=>(rp6 j [k,b,d,f,g,i],(e,()))) _ (h.s a (by simp)) l n p).trans ?_;cases hk:zh5 t.Kind with
  |true=>rw [if_pos rfl,ze0 0 a rfl (by omega) hk];rfl
  |false=>rw [if_neg (by simp),za7 (.inr hk)];rfl
 rw [if_neg q];by_cases r:t.Server=(2:Int)
 ·rw [if_pos r];refine (zj5 (fun j k e=>(rp6 j [a,k,d,f,g,i],(e,()))) _ (h.s b (by simp)) l n p).trans ?_;cases hk:zh5 t.Kind with
  |true=>rw [if_pos rfl,ze0 1 b rfl (by omega) hk];rfl
  |false=>rw [if_neg (by simp),za7 (.inr hk)];rfl
 rw [if_neg r];by_cases u:t.Server=(3:Int)
 ·rw [if_pos u];refine (zj5 (fun j k e=>(rp6 j [a,b,k,f,g,i],(e,()))) _ (h.s d (by simp)) l n p).trans ?_;cases hk:zh5 t.Kind with
  |true=>rw [if_pos rfl,ze0 2 d rfl (by omega) hk];rfl
  |false=>rw [if_neg (by simp),za7 (.inr hk)];rfl
 rw [if_neg u];by_cases v:t.Server=(4:Int)
 ·rw [if_pos v];refine (zj5 (fun j k e=>(rp6 j [a,b,d,k,g,i],(e,()))) _ (h.s f (by simp)) l n p).trans ?_;cases hk:zh5 t.Kind with
  |true=>rw [if_pos rfl,ze0 3 f rfl (by omega) hk];rfl
  |false=>rw [if_neg (by simp),za7 (.inr hk)];rfl
 rw [if_neg v];by_cases w:t.Server=(5:Int)
 ·rw [if_pos w];refine (zj5 (fun j k e=>(rp6 j [a,b,d,f,k,i],(e,()))) _ (h.s g (by simp)) l n p).trans ?_;cases hk:zh5 t.Kind with
  |true=>rw [if_pos rfl,ze0 4 g rfl (by omega) hk];rfl
  |false=>rw [if_neg (by simp),za7 (.inr hk)];rfl
 rw [if_neg w];by_cases x:t.Server=(6:Int)
 ·rw [if_pos x];refine (zj5 (fun j k e=>(rp6 j [a,b,d,f,g,k],(e,()))) _ (h.s i (by simp)) l n p).trans ?_;cases hk:zh5 t.Kind with
  |true=>rw [if_pos rfl,ze0 5 i rfl (by omega) hk];rfl
  |false=>rw [if_neg (by simp),za7 (.inr hk)];rfl
 rw [if_neg x];rw [za7 (.inl (by show ¬(1<=t.Server/\t.Server<=((6:Nat):Int));omega))];simp only [ite_self];rfl
def rp7 (o:List Entry) (l:List Sv):(List Entry×Unit×Unit)×Unit×(Unit×Unit×Unit×Unit×Unit×Unit×Unit×Unit)×(Unit×Int×Int×Int×Unit)×(Int×Unit×Int×Int×Int×Unit×Bool×Unit)×List (Int×List Int)×List (Int×Bool)×(Unit×Int×Int×Int×Unit)×(Int×Unit×Int×Int×Int×Unit×Bool×Unit)×List (Int×List Int)×List (Int×Bool)×(Unit×Int×Int×Int×Unit)×(Int×Unit×Int×Int×Int×Unit×Bool×Unit)×List (Int×List Int)×List (Int×Bool)×(Unit×Int×Int×Int×Unit)×(Int×Unit×Int×Int×Int×Unit×Bool×Unit)×List (Int×List Int)×List (Int×Bool)×(Unit×Int×Int×Int×Unit)×(Int×Unit×Int×Int×Int×Unit×Bool×Unit)×List (Int×List Int)×List (Int×Bool)×(Unit×Int×Int×Int×Unit)×(Int×Unit×Int×Int×Int×Unit×Bool×Unit)×List (Int×List Int)×List (Int×Bool)×(Unit×Int×Int×Int×Unit)×(Int×Unit×Int×Int×Int×Unit×Bool×Unit)×List (Int×List Int)×List (Int×Bool)×Unit:=((o,(),()),(),((),(),(),(),(),(),(),()),psv (l.getD 0 dSv),pmm (l.getD 0 dSv).m,(l.getD 0 dSv).m.held,(l.getD 0 dSv).m.yes,psv (l.getD 1 dSv),pmm (l.getD 1 dSv).m,(l.getD 1 dSv).m.held,(l.getD 1 dSv).m.yes,psv (l.getD 2 dSv),pmm (l.getD 2 dSv).m,(l.getD 2 dSv).m.held,(l.getD 2 dSv).m.yes,psv (l.getD 3 dSv),pmm (l.getD 3 dSv).m,(l.getD 3 dSv).m.held,(l.getD 3 dSv).m.yes,psv (l.getD 4 dSv),pmm (l.getD 4 dSv).m,(l.getD 4 dSv).m.held,(l.getD 4 dSv).m.yes,psv (l.getD 5 dSv),pmm (l.getD 5 dSv).m,(l.getD 5 dSv).m.held,(l.getD 5 dSv).m.yes,psv (l.getD 6 dSv),pmm (l.getD 6 dSv).m,(l.getD 6 dSv).m.held,(l.getD 6 dSv).m.yes,())
def wd9 {o a b d f g i j c t} (h:WOk o [a,b,d,f,g,i,j] c) (n:c<=1000) (p:TOk t):qdi v7 o a.m.sv a.m.held a.m.act a.m.bef a.m.roll a.m.yes a.m.no a.ap a.wk a.la b.m.sv b.m.held b.m.act b.m.bef b.m.roll b.m.yes b.m.no b.ap b.wk b.la d.m.sv d.m.held d.m.act d.m.bef d.m.roll d.m.yes d.m.no d.ap d.wk d.la f.m.sv f.m.held f.m.act f.m.bef f.m.roll f.m.yes f.m.no f.ap f.wk f.la g.m.sv g.m.held g.m.act g.m.bef g.m.roll g.m.yes g.m.no g.ap g.wk g.la i.m.sv i.m.held i.m.act i.m.bef i.m.roll i.m.yes i.m.no i.ap i.wk i.la j.m.sv j.m.held j.m.act j.m.bef j.m.roll j.m.yes j.m.no j.ap j.wk j.la t=some (rp7 (zb5 o [a,b,d,f,g,i,j] t).1 (zb5 o [a,b,d,f,g,i,j] t).2.1,((zb5 o [a,b,d,f,g,i,j] t).2.2,())):=by
 have q:o.length<=1000000:=by have:=h.o;omega
 rw [wq5];by_cases r:t.Server=(1:Int)
 ·rw [if_pos r];refine (zj5 (fun k l e=>(rp7 k [l,b,d,f,g,i,j],(e,()))) _ (h.s a (by simp)) n p q).trans ?_;cases hk:zh5 t.Kind with
  |true=>rw [if_pos rfl,ze0 0 a rfl (by omega) hk];rfl
  |false=>rw [if_neg (by simp),za7 (.inr hk)];rfl
 rw [if_neg r];by_cases u:t.Server=(2:Int)
 ·rw [if_pos u];refine (zj5 (fun k l e=>(rp7 k [a,l,d,f,g,i,j],(e,()))) _ (h.s b (by simp)) n p q).trans ?_;cases hk:zh5 t.Kind with
  |true=>rw [if_pos rfl,ze0 1 b rfl (by omega) hk];rfl
  |false=>rw [if_neg (by simp),za7 (.inr hk)];rfl
 rw [if_neg u];by_cases v:t.Server=(3:Int)
 ·rw [if_pos v];refine (zj5 (fun k l e=>(rp7 k [a,b,l,f,g,i,j],(e,()))) _ (h.s d (by simp)) n p q).trans ?_;cases hk:zh5 t.Kind with
  |true=>rw [if_pos rfl,ze0 2 d rfl (by omega) hk];rfl
  |false=>rw [if_neg (by simp),za7 (.inr hk)];rfl
 rw [if_neg v];by_cases w:t.Server=(4:Int)
 ·rw [if_pos w];refine (zj5 (fun k l e=>(rp7 k [a,b,d,l,g,i,j],(e,()))) _ (h.s f (by simp)) n p q).trans ?_;cases hk:zh5 t.Kind with
  |true=>rw [if_pos rfl,ze0 3 f rfl (by omega) hk];rfl
  |false=>rw [if_neg (by simp),za7 (.inr hk)];rfl
 rw [if_neg w];by_cases x:t.Server=(5:Int)
 ·rw [if_pos x];refine (zj5 (fun k l e=>(rp7 k [a,b,d,f,l,i,j],(e,()))) _ (h.s g (by simp)) n p q).trans ?_;cases hk:zh5 t.Kind with
  |true=>rw [if_pos rfl,ze0 4 g rfl (by omega) hk];rfl
  |false=>rw [if_neg (by simp),za7 (.inr hk)];rfl
 rw [if_neg x];by_cases y:t.Server=(6:Int)
 ·rw [if_pos y];refine (zj5 (fun k l e=>(rp7 k [a,b,d,f,g,l,j],(e,()))) _ (h.s i (by simp)) n p q).trans ?_;cases hk:zh5 t.Kind with
  |true=>rw [if_pos rfl,ze0 5 i rfl (by omega) hk];rfl
  |false=>rw [if_neg (by simp),za7 (.inr hk)];rfl
 rw [if_neg y];by_cases z:t.Server=(7:Int)
 ·rw [if_pos z];refine (zj5 (fun k l e=>(rp7 k [a,b,d,f,g,i,l],(e,()))) _ (h.s j (by simp)) n p q).trans ?_;cases hk:zh5 t.Kind with
  |true=>rw [if_pos rfl,ze0 6 j rfl (by omega) hk];rfl
  |false=>rw [if_neg (by simp),za7 (.inr hk)];rfl
 rw [if_neg z];rw [za7 (.inl (by show ¬(1<=t.Server/\t.Server<=((7:Nat):Int));omega))];simp only [ite_self];rfl
def up1:qg v7 (1:Int)=some ((),(((1:Int),([]:List (Int×List Int)),(0:Int),(0:Int),(0:Int),([]:List (Int×Bool)),false,()),())):=by kernel_rfl
def up2:qg v7 (2:Int)=some ((),(((2:Int),([]:List (Int×List Int)),(0:Int),(0:Int),(0:Int),([]:List (Int×Bool)),false,()),())):=by kernel_rfl
def up3:qg v7 (3:Int)=some ((),(((3:Int),([]:List (Int×List Int)),(0:Int),(0:Int),(0:Int),([]:List (Int×Bool)),false,()),())):=by kernel_rfl
def up4:qg v7 (4:Int)=some ((),(((4:Int),([]:List (Int×List Int)),(0:Int),(0:Int),(0:Int),([]:List (Int×Bool)),false,()),())):=by kernel_rfl
def up5:qg v7 (5:Int)=some ((),(((5:Int),([]:List (Int×List Int)),(0:Int),(0:Int),(0:Int),([]:List (Int×Bool)),false,()),())):=by kernel_rfl
def up6:qg v7 (6:Int)=some ((),(((6:Int),([]:List (Int×List Int)),(0:Int),(0:Int),(0:Int),([]:List (Int×Bool)),false,()),())):=by kernel_rfl
def up7:qg v7 (7:Int)=some ((),(((7:Int),([]:List (Int×List Int)),(0:Int),(0:Int),(0:Int),([]:List (Int×Bool)),false,()),())):=by kernel_rfl
def vf6 (x) (k: ∀t∈x,TOk t) (r:x.length<=1000): ∀(m i n o a),i+m=x.length->WOk o [a] i->m+1<=n->jn3 n x ((x.length:Nat):Int) ((i:Nat):Int) o a.ap a.wk a.la a.m.sv a.m.act a.m.bef a.m.roll a.m.no a.m.held a.m.yes=some ((),(za5 (x.drop i) o [a],()))
 |0,i,n,o,a,g,h,j=>by
  obtain ⟨n,rfl⟩:=up j;rw [yw5,W5 (by omega),j6,V4 (by omega)];rfl
 |m+1,i,n,o,a,g,h,j=>by
  obtain ⟨n,rfl⟩:=up j;have e:i<x.length:=by omega
  have l:x.getD i v6=x[i]:=by rw [Y2,Y0 e];rfl
  have p:TOk (x.getD i v6):=by rw [l];exact k _ (J0 e)
  have s:za5 (x.drop i) o [a]=if (zb5 o [a] (x.getD i v6)).2.2=0 then za5 (x.drop (i+1)) (zb5 o [a] (x.getD i v6)).1 (zb5 o [a] (x.getD i v6)).2.1 else (zb5 o [a] (x.getD i v6)).2.2:=by rw [U3 e,<-l];rfl
  rw [show n+(m+1+1)=(n+(m+1))+1 from rfl,yw5,W4 (by omega),j9,if_pos (by omega),Z1,wd3 h (by omega) p,j4,s];obtain ⟨c,b⟩:=yd9 h p;obtain ⟨d,u⟩: ∃d,(zb5 o [a] (x.getD i v6)).2.1= [d]:=by
   revert b
   generalize (zb5 o [a] (x.getD i v6)).2.1=q;intro b
   match q,b with
   | [d],_=>exact ⟨d,rfl⟩
  dsimp only;by_cases f:(zb5 o [a] (x.getD i v6)).2.2=0
  ·rw [show ((zb5 o [a] (x.getD i v6)).2.2 != 0)=false by simpa using f,j6,if_pos f,nx e (by omega)];rw [u] at c⊢;exact vf6 x k r m (i+1) (n+(m+1)) _ d (by omega) c (by omega)
  ·rw [show ((zb5 o [a] (x.getD i v6)).2.2 != 0)=true by simpa using f,j9,if_neg f]
def kb2 (n i j k a b c d e f g h l m o):kw4 (n+1) i j k a b c d e f g h l m o=jn3 (n+1) i j k o a b c d e f g h l m:=by rw [ke4,yw5]
def jo4 (x:List Tale) (hx: ∀t∈x,TOk t) (hl:x.length<=1000):qj v7 x=some ((),(za5 x [] [sv0 1],())):=by
 obtain ⟨n,hB⟩: ∃n,v7=n+3:=⟨999999997,rfl⟩;have hn:x.length+1<=n+1:=by (have:(1000000000:Nat)=n+3:=hB);omega
 have e:qj (n+1+2) x=some ((),(za5 x [] [sv0 1],())):=by
  rw [ui8,up1,j4];dsimp only;rw [kb2];exact (vf6 x hx hl x.length 0 (n+1) [] (sv0 1) (W7 _) ⟨W6 _,fun s hs=>by
   have:s=sv0 1:=by simpa using hs
   subst this;exact ⟨⟨⟨by decide,by decide⟩,fun p hp=>(by cases hp),fun p hp=>(by cases hp),W6 _,fun p hp=>(by cases hp),W6 _⟩,fun p hp=>(by cases hp)⟩⟩ hn)
 rw [hB];exact e
def vf7 (x) (p: ∀t∈x,TOk t) (u:x.length<=1000): ∀(m i n o a b),i+m=x.length->WOk o [a,b] i->m+1<=n->jn4 n x ((x.length:Nat):Int) ((i:Nat):Int) o a.ap a.wk a.la b.ap b.wk b.la a.m.sv a.m.act a.m.bef a.m.roll a.m.no b.m.sv b.m.act b.m.bef b.m.roll b.m.no a.m.held a.m.yes b.m.held b.m.yes=some ((),(za5 (x.drop i) o [a,b],()))
 |0,i,n,o,a,b,j,k,l=>by
  obtain ⟨n,rfl⟩:=up l;rw [yw6,W5 (by omega),j6,V4 (by omega)];rfl
 |m+1,i,n,o,a,b,j,k,l=>by
  obtain ⟨n,rfl⟩:=up l;have g:i<x.length:=by omega
  have r:x.getD i v6=x[i]:=by rw [Y2,Y0 g];rfl
  have s:TOk (x.getD i v6):=by rw [r];exact p _ (J0 g)
  have v:za5 (x.drop i) o [a,b]=if (zb5 o [a,b] (x.getD i v6)).2.2=0 then za5 (x.drop (i+1)) (zb5 o [a,b] (x.getD i v6)).1 (zb5 o [a,b] (x.getD i v6)).2.1 else (zb5 o [a,b] (x.getD i v6)).2.2:=by rw [U3 g,<-r];rfl
  rw [show n+(m+1+1)=(n+(m+1))+1 from rfl,yw6,W4 (by omega),j9,if_pos (by omega),Z1,wd4 k (by omega) s,j4,v];obtain ⟨d,c⟩:=yd9 k s;obtain ⟨e,f,w⟩: ∃e f,(zb5 o [a,b] (x.getD i v6)).2.1= [e,f]:=by
   revert c
   generalize (zb5 o [a,b] (x.getD i v6)).2.1=q;intro c
   match q,c with
   | [e,f],_=>exact ⟨e,f,rfl⟩
  dsimp only;by_cases h:(zb5 o [a,b] (x.getD i v6)).2.2=0
  ·rw [show ((zb5 o [a,b] (x.getD i v6)).2.2 != 0)=false by simpa using h,j6,if_pos h,nx g (by omega)];rw [w] at d⊢;exact vf7 x p u m (i+1) (n+(m+1)) _ e f (by omega) d (by omega)
  ·rw [show ((zb5 o [a,b] (x.getD i v6)).2.2 != 0)=true by simpa using h,j9,if_neg h]
def kb3 (n r s t a b c d e f g h i j k l m o p q v w x y u):kw6 (n+1) r s t a b c d e f g h i j k l m o p q v w x y u=jn4 (n+1) r s t u a b c d e f g h i j k l m o p q v w x y:=by rw [ke5,yw6]
def kq3 (x:List Tale) (hx: ∀t∈x,TOk t) (hl:x.length<=1000):ql v7 x=some ((),(za5 x [] [sv0 2,sv0 2],())):=by
 obtain ⟨n,hB⟩: ∃n,v7=n+4:=⟨999999996,rfl⟩;have hn:x.length+1<=n+1:=by (have:(1000000000:Nat)=n+4:=hB);omega
 have e:ql (n+1+3) x=some ((),(za5 x [] [sv0 2,sv0 2],())):=by
  rw [uj0,up2,j4,j4];dsimp only;rw [kb3];exact (vf7 x hx hl x.length 0 (n+1) [] (sv0 2) (sv0 2) (W7 _) ⟨W6 _,fun s hs=>by
   have:s=sv0 2:=by simpa using hs
   subst this;exact ⟨⟨⟨by decide,by decide⟩,fun p hp=>(by cases hp),fun p hp=>(by cases hp),W6 _,fun p hp=>(by cases hp),W6 _⟩,fun p hp=>(by cases hp)⟩⟩ hn)
 rw [hB];exact e
def vf8 (x) (s: ∀t∈x,TOk t) (w:x.length<=1000): ∀(m i n o a b c),i+m=x.length->WOk o [a,b,c] i->m+1<=n->jn5 n x ((x.length:Nat):Int) ((i:Nat):Int) o a.ap a.wk a.la b.ap b.wk b.la c.ap c.wk c.la a.m.sv a.m.act a.m.bef a.m.roll a.m.no b.m.sv b.m.act b.m.bef b.m.roll b.m.no c.m.sv c.m.act c.m.bef c.m.roll c.m.no a.m.held a.m.yes b.m.held b.m.yes c.m.held c.m.yes=some ((),(za5 (x.drop i) o [a,b,c],()))
 |0,i,n,o,a,b,c,l,p,r=>by
  obtain ⟨n,rfl⟩:=up r;rw [yw7,W5 (by omega),j6,V4 (by omega)];rfl
 |m+1,i,n,o,a,b,c,l,p,r=>by
  obtain ⟨n,rfl⟩:=up r;have j:i<x.length:=by omega
  have u:x.getD i v6=x[i]:=by rw [Y2,Y0 j];rfl
  have v:TOk (x.getD i v6):=by rw [u];exact s _ (J0 j)
  have y:za5 (x.drop i) o [a,b,c]=if (zb5 o [a,b,c] (x.getD i v6)).2.2=0 then za5 (x.drop (i+1)) (zb5 o [a,b,c] (x.getD i v6)).1 (zb5 o [a,b,c] (x.getD i v6)).2.1 else (zb5 o [a,b,c] (x.getD i v6)).2.2:=by rw [U3 j,<-u];rfl
  rw [show n+(m+1+1)=(n+(m+1))+1 from rfl,yw7,W4 (by omega),j9,if_pos (by omega),Z1,wd5 p (by omega) v,j4,y];obtain ⟨e,d⟩:=yd9 p v;obtain ⟨f,g,h,z⟩: ∃f g h,(zb5 o [a,b,c] (x.getD i v6)).2.1= [f,g,h]:=by
   revert d
   generalize (zb5 o [a,b,c] (x.getD i v6)).2.1=q;intro d
   match q,d with
   | [f,g,h],_=>exact ⟨f,g,h,rfl⟩
  dsimp only;by_cases k:(zb5 o [a,b,c] (x.getD i v6)).2.2=0
  ·rw [show ((zb5 o [a,b,c] (x.getD i v6)).2.2 != 0)=false by simpa using k,j6,if_pos k,nx j (by omega)];rw [z] at e⊢;exact vf8 x s w m (i+1) (n+(m+1)) _ f g h (by omega) e (by omega)
  ·rw [show ((zb5 o [a,b,c] (x.getD i v6)).2.2 != 0)=true by simpa using k,j9,if_neg k]
def kb4 (n z A B a b c d e f g h i j k l m o p q r s t u v w x y H I C D E F G):kw8 (n+1) z A B a b c d e f g h i j k l m o p q r s t u v w x y H I C D E F G=jn5 (n+1) z A B G a b c d e f g h i j k l m o p q r s t u v w x y H I C D E F:=by rw [ke6,yw7]
def kq4 (x:List Tale) (hx: ∀t∈x,TOk t) (hl:x.length<=1000):qm v7 x=some ((),(za5 x [] [sv0 3,sv0 3,sv0 3],())):=by
 obtain ⟨n,hB⟩: ∃n,v7=n+5:=⟨999999995,rfl⟩;have hn:x.length+1<=n+1:=by (have:(1000000000:Nat)=n+5:=hB);omega
 have e:qm (n+1+4) x=some ((),(za5 x [] [sv0 3,sv0 3,sv0 3],())):=by
  rw [uj1,up3,j4,j4,j4];dsimp only;rw [kb4];exact (vf8 x hx hl x.length 0 (n+1) [] (sv0 3) (sv0 3) (sv0 3) (W7 _) ⟨W6 _,fun s hs=>by
   have:s=sv0 3:=by simpa using hs
   subst this;exact ⟨⟨⟨by decide,by decide⟩,fun p hp=>(by cases hp),fun p hp=>(by cases hp),W6 _,fun p hp=>(by cases hp),W6 _⟩,fun p hp=>(by cases hp)⟩⟩ hn)
 rw [hB];exact e
def vf9 (x) (v: ∀t∈x,TOk t) (z:x.length<=1000): ∀(m i n o a b c d),i+m=x.length->WOk o [a,b,c,d] i->m+1<=n->jn6 n x ((x.length:Nat):Int) ((i:Nat):Int) o a.ap a.wk a.la b.ap b.wk b.la c.ap c.wk c.la d.ap d.wk d.la a.m.sv a.m.act a.m.bef a.m.roll a.m.no b.m.sv b.m.act b.m.bef b.m.roll b.m.no c.m.sv c.m.act c.m.bef c.m.roll c.m.no d.m.sv d.m.act d.m.bef d.m.roll d.m.no a.m.held a.m.yes b.m.held b.m.yes c.m.held c.m.yes d.m.held d.m.yes=some ((),(za5 (x.drop i) o [a,b,c,d],()))
 |0,i,n,o,a,b,c,d,r,s,u=>by
  obtain ⟨n,rfl⟩:=up u;rw [yw8,W5 (by omega),j6,V4 (by omega)];rfl
 |m+1,i,n,o,a,b,c,d,r,s,u=>by
  obtain ⟨n,rfl⟩:=up u;have l:i<x.length:=by omega
  have w:x.getD i v6=x[i]:=by rw [Y2,Y0 l];rfl
  have y:TOk (x.getD i v6):=by rw [w];exact v _ (J0 l)
  have A:za5 (x.drop i) o [a,b,c,d]=if (zb5 o [a,b,c,d] (x.getD i v6)).2.2=0 then za5 (x.drop (i+1)) (zb5 o [a,b,c,d] (x.getD i v6)).1 (zb5 o [a,b,c,d] (x.getD i v6)).2.1 else (zb5 o [a,b,c,d] (x.getD i v6)).2.2:=by rw [U3 l,<-w];rfl
  rw [show n+(m+1+1)=(n+(m+1))+1 from rfl,yw8,W4 (by omega),j9,if_pos (by omega),Z1,wd6 s (by omega) y,j4,A];obtain ⟨f,e⟩:=yd9 s y;obtain ⟨g,h,j,k,B⟩: ∃g h j k,(zb5 o [a,b,c,d] (x.getD i v6)).2.1= [g,h,j,k]:=by
   revert e
   generalize (zb5 o [a,b,c,d] (x.getD i v6)).2.1=q;intro e
   match q,e with
   | [g,h,j,k],_=>exact ⟨g,h,j,k,rfl⟩
  dsimp only;by_cases p:(zb5 o [a,b,c,d] (x.getD i v6)).2.2=0
  ·rw [show ((zb5 o [a,b,c,d] (x.getD i v6)).2.2 != 0)=false by simpa using p,j6,if_pos p,nx l (by omega)];rw [B] at f⊢;exact vf9 x v z m (i+1) (n+(m+1)) _ g h j k (by omega) f (by omega)
  ·rw [show ((zb5 o [a,b,c,d] (x.getD i v6)).2.2 != 0)=true by simpa using p,j9,if_neg p]
def kb5 (n H I J a b c d e f g h i j k l m o p q r s t u v w x y z A B C D E F G K L M N O P Q R S):kx0 (n+1) H I J a b c d e f g h i j k l m o p q r s t u v w x y z A B C D E F G K L M N O P Q R S=jn6 (n+1) H I J S a b c d e f g h i j k l m o p q r s t u v w x y z A B C D E F G K L M N O P Q R:=by rw [ke7,yw8]
def kq5 (x:List Tale) (hx: ∀t∈x,TOk t) (hl:x.length<=1000):qn v7 x=some ((),(za5 x [] [sv0 4,sv0 4,sv0 4,sv0 4],())):=by
 obtain ⟨n,hB⟩: ∃n,v7=n+6:=⟨999999994,rfl⟩;have hn:x.length+1<=n+1:=by (have:(1000000000:Nat)=n+6:=hB);omega
 have e:qn (n+1+5) x=some ((),(za5 x [] [sv0 4,sv0 4,sv0 4,sv0 4],())):=by
  rw [uj2,up4,j4,j4,j4,j4];dsimp only;rw [kb5];exact (vf9 x hx hl x.length 0 (n+1) [] (sv0 4) (sv0 4) (sv0 4) (sv0 4) (W7 _) ⟨W6 _,fun s hs=>by
   have:s=sv0 4:=by simpa using hs
   subst this;exact ⟨⟨⟨by decide,by decide⟩,fun p hp=>(by cases hp),fun p hp=>(by cases hp),W6 _,fun p hp=>(by cases hp),W6 _⟩,fun p hp=>(by cases hp)⟩⟩ hn)
 rw [hB];exact e
def vg0 (x) (y: ∀t∈x,TOk t) (B:x.length<=1000): ∀(m i n o a b c d e),i+m=x.length->WOk o [a,b,c,d,e] i->m+1<=n->jn7 n x ((x.length:Nat):Int) ((i:Nat):Int) o a.ap a.wk a.la b.ap b.wk b.la c.ap c.wk c.la d.ap d.wk d.la e.ap e.wk e.la a.m.sv a.m.act a.m.bef a.m.roll a.m.no b.m.sv b.m.act b.m.bef b.m.roll b.m.no c.m.sv c.m.act c.m.bef c.m.roll c.m.no d.m.sv d.m.act d.m.bef d.m.roll d.m.no e.m.sv e.m.act e.m.bef e.m.roll e.m.no a.m.held a.m.yes b.m.held b.m.yes c.m.held c.m.yes d.m.held d.m.yes e.m.held e.m.yes=some ((),(za5 (x.drop i) o [a,b,c,d,e],()))
 |0,i,n,o,a,b,c,d,e,u,v,w=>by
  obtain ⟨n,rfl⟩:=up w;rw [yw9,W5 (by omega),j6,V4 (by omega)];rfl
 |m+1,i,n,o,a,b,c,d,e,u,v,w=>by
  obtain ⟨n,rfl⟩:=up w;have r:i<x.length:=by omega
  have z:x.getD i v6=x[i]:=by rw [Y2,Y0 r];rfl
  have A:TOk (x.getD i v6):=by rw [z];exact y _ (J0 r)
  have C:za5 (x.drop i) o [a,b,c,d,e]=if (zb5 o [a,b,c,d,e] (x.getD i v6)).2.2=0 then za5 (x.drop (i+1)) (zb5 o [a,b,c,d,e] (x.getD i v6)).1 (zb5 o [a,b,c,d,e] (x.getD i v6)).2.1 else (zb5 o [a,b,c,d,e] (x.getD i v6)).2.2:=by rw [U3 r,<-z];rfl
  rw [show n+(m+1+1)=(n+(m+1))+1 from rfl,yw9,W4 (by omega),j9,if_pos (by omega),Z1,wd7 v (by omega) A,j4,C];obtain ⟨g,f⟩:=yd9 v A;obtain ⟨h,j,k,l,p,D⟩: ∃h j k l p,(zb5 o [a,b,c,d,e] (x.getD i v6)).2.1= [h,j,k,l,p]:=by
   revert f
   generalize (zb5 o [a,b,c,d,e] (x.getD i v6)).2.1=q;intro f
   match q,f with
   | [h,j,k,l,p],_=>exact ⟨h,j,k,l,p,rfl⟩
  dsimp only;by_cases s:(zb5 o [a,b,c,d,e] (x.getD i v6)).2.2=0
  ·rw [show ((zb5 o [a,b,c,d,e] (x.getD i v6)).2.2 != 0)=false by simpa using s,j6,if_pos s,nx r (by omega)];rw [D] at g⊢;exact vg0 x y B m (i+1) (n+(m+1)) _ h j k l p (by omega) g (by omega)
  ·rw [show ((zb5 o [a,b,c,d,e] (x.getD i v6)).2.2 != 0)=true by simpa using s,j9,if_neg s]
def kb6 (n P Q R k l m o p q r s t u v w x y z A B C D E F G H I J K L M N O a b c d e f g h i j S T U V W X Y Z t20 t21 r22):kx2 (n+1) P Q R k l m o p q r s t u v w x y z A B C D E F G H I J K L M N O a b c d e f g h i j S T U V W X Y Z t20 t21 r22=jn7 (n+1) P Q R r22 k l m o p q r s t u v w x y z A B C D E F G H I J K L M N O a b c d e f g h i j S T U V W X Y Z t20 t21:=by rw [ke8,yw9]
def kq6 (x:List Tale) (hx: ∀t∈x,TOk t) (hl:x.length<=1000):qo v7 x=some ((),(za5 x [] [sv0 5,sv0 5,sv0 5,sv0 5,sv0 5],())):=by
 obtain ⟨n,hB⟩: ∃n,v7=n+7:=⟨999999993,rfl⟩;have hn:x.length+1<=n+1:=by (have:(1000000000:Nat)=n+7:=hB);omega
 have e:qo (n+1+6) x=some ((),(za5 x [] [sv0 5,sv0 5,sv0 5,sv0 5,sv0 5],())):=by
  rw [uj3,up5,j4,j4,j4,j4,j4];dsimp only;rw [kb6];exact (vg0 x hx hl x.length 0 (n+1) [] (sv0 5) (sv0 5) (sv0 5) (sv0 5) (sv0 5) (W7 _) ⟨W6 _,fun s hs=>by
   have:s=sv0 5:=by simpa using hs
   subst this;exact ⟨⟨⟨by decide,by decide⟩,fun p hp=>(by cases hp),fun p hp=>(by cases hp),W6 _,fun p hp=>(by cases hp),W6 _⟩,fun p hp=>(by cases hp)⟩⟩ hn)
 rw [hB];exact e
def vg1 (x) (A: ∀t∈x,TOk t) (D:x.length<=1000): ∀(m i n o a b c d e f),i+m=x.length->WOk o [a,b,c,d,e,f] i->m+1<=n->jn8 n x ((x.length:Nat):Int) ((i:Nat):Int) o a.ap a.wk a.la b.ap b.wk b.la c.ap c.wk c.la d.ap d.wk d.la e.ap e.wk e.la f.ap f.wk f.la a.m.sv a.m.act a.m.bef a.m.roll a.m.no b.m.sv b.m.act b.m.bef b.m.roll b.m.no c.m.sv c.m.act c.m.bef c.m.roll c.m.no d.m.sv d.m.act d.m.bef d.m.roll d.m.no e.m.sv e.m.act e.m.bef e.m.roll e.m.no f.m.sv f.m.act f.m.bef f.m.roll f.m.no a.m.held a.m.yes b.m.held b.m.yes c.m.held c.m.yes d.m.held d.m.yes e.m.held e.m.yes f.m.held f.m.yes=some ((),(za5 (x.drop i) o [a,b,c,d,e,f],()))
 |0,i,n,o,a,b,c,d,e,f,w,y,z=>by
  obtain ⟨n,rfl⟩:=up z;rw [yx0,W5 (by omega),j6,V4 (by omega)];rfl
 |m+1,i,n,o,a,b,c,d,e,f,w,y,z=>by
  obtain ⟨n,rfl⟩:=up z;have u:i<x.length:=by omega
  have B:x.getD i v6=x[i]:=by rw [Y2,Y0 u];rfl
  have C:TOk (x.getD i v6):=by rw [B];exact A _ (J0 u)
  have E:za5 (x.drop i) o [a,b,c,d,e,f]=if (zb5 o [a,b,c,d,e,f] (x.getD i v6)).2.2=0 then za5 (x.drop (i+1)) (zb5 o [a,b,c,d,e,f] (x.getD i v6)).1 (zb5 o [a,b,c,d,e,f] (x.getD i v6)).2.1 else (zb5 o [a,b,c,d,e,f] (x.getD i v6)).2.2:=by rw [U3 u,<-B];rfl
  rw [show n+(m+1+1)=(n+(m+1))+1 from rfl,yx0,W4 (by omega),j9,if_pos (by omega),Z1,wd8 y (by omega) C,j4,E];obtain ⟨h,g⟩:=yd9 y C;obtain ⟨j,k,l,p,r,s,F⟩: ∃j k l p r s,(zb5 o [a,b,c,d,e,f] (x.getD i v6)).2.1= [j,k,l,p,r,s]:=by
   revert g
   generalize (zb5 o [a,b,c,d,e,f] (x.getD i v6)).2.1=q;intro g
   match q,g with
   | [j,k,l,p,r,s],_=>exact ⟨j,k,l,p,r,s,rfl⟩
  dsimp only;by_cases v:(zb5 o [a,b,c,d,e,f] (x.getD i v6)).2.2=0
  ·rw [show ((zb5 o [a,b,c,d,e,f] (x.getD i v6)).2.2 != 0)=false by simpa using v,j6,if_pos v,nx u (by omega)];rw [F] at h⊢;exact vg1 x A D m (i+1) (n+(m+1)) _ j k l p r s (by omega) h (by omega)
  ·rw [show ((zb5 o [a,b,c,d,e,f] (x.getD i v6)).2.2 != 0)=true by simpa using v,j9,if_neg v]
def kb7 (n X Y Z v w x y z A B C D E F G H I J K L M N O P Q R S T U V W a b c d e f g h i j k l m o p q r s t u t14 t15 t16 t17 t18 t19 t20 t21 t22 t23 t24 t25 r26):kx4 (n+1) X Y Z v w x y z A B C D E F G H I J K L M N O P Q R S T U V W a b c d e f g h i j k l m o p q r s t u t14 t15 t16 t17 t18 t19 t20 t21 t22 t23 t24 t25 r26=jn8 (n+1) X Y Z r26 v w x y z A B C D E F G H I J K L M N O P Q R S T U V W a b c d e f g h i j k l m o p q r s t u t14 t15 t16 t17 t18 t19 t20 t21 t22 t23 t24 t25:=by rw [ke9,yx0]
def kq7 (x:List Tale) (hx: ∀t∈x,TOk t) (hl:x.length<=1000):qp v7 x=some ((),(za5 x [] [sv0 6,sv0 6,sv0 6,sv0 6,sv0 6,sv0 6],())):=by
 obtain ⟨n,hB⟩: ∃n,v7=n+8:=⟨999999992,rfl⟩;have hn:x.length+1<=n+1:=by (have:(1000000000:Nat)=n+8:=hB);omega
 have e:qp (n+1+7) x=some ((),(za5 x [] [sv0 6,sv0 6,sv0 6,sv0 6,sv0 6,sv0 6],())):=by
  rw [uj4,up6,j4,j4,j4,j4,j4,j4];dsimp only;rw [kb7];exact (vg1 x hx hl x.length 0 (n+1) [] (sv0 6) (sv0 6) (sv0 6) (sv0 6) (sv0 6) (sv0 6) (W7 _) ⟨W6 _,fun s hs=>by
   have:s=sv0 6:=by simpa using hs
   subst this;exact ⟨⟨⟨by decide,by decide⟩,fun p hp=>(by cases hp),fun p hp=>(by cases hp),W6 _,fun p hp=>(by cases hp),W6 _⟩,fun p hp=>(by cases hp)⟩⟩ hn)
 rw [hB];exact e
def vg2 (x) (C: ∀t∈x,TOk t) (F:x.length<=1000): ∀(m i n o a b c d e f g),i+m=x.length->WOk o [a,b,c,d,e,f,g] i->m+1<=n->jn9 n x ((x.length:Nat):Int) ((i:Nat):Int) o a.ap a.wk a.la b.ap b.wk b.la c.ap c.wk c.la d.ap d.wk d.la e.ap e.wk e.la f.ap f.wk f.la g.ap g.wk g.la a.m.sv a.m.act a.m.bef a.m.roll a.m.no b.m.sv b.m.act b.m.bef b.m.roll b.m.no c.m.sv c.m.act c.m.bef c.m.roll c.m.no d.m.sv d.m.act d.m.bef d.m.roll d.m.no e.m.sv e.m.act e.m.bef e.m.roll e.m.no f.m.sv f.m.act f.m.bef f.m.roll f.m.no g.m.sv g.m.act g.m.bef g.m.roll g.m.no a.m.held a.m.yes b.m.held b.m.yes c.m.held c.m.yes d.m.held d.m.yes e.m.held e.m.yes f.m.held f.m.yes g.m.held g.m.yes=some ((),(za5 (x.drop i) o [a,b,c,d,e,f,g],()))
 |0,i,n,o,a,b,c,d,e,f,g,z,A,B=>by
  obtain ⟨n,rfl⟩:=up B;rw [yx1,W5 (by omega),j6,V4 (by omega)];rfl
 |m+1,i,n,o,a,b,c,d,e,f,g,z,A,B=>by
  obtain ⟨n,rfl⟩:=up B;have w:i<x.length:=by omega
  have D:x.getD i v6=x[i]:=by rw [Y2,Y0 w];rfl
  have E:TOk (x.getD i v6):=by rw [D];exact C _ (J0 w)
  have G:za5 (x.drop i) o [a,b,c,d,e,f,g]=if (zb5 o [a,b,c,d,e,f,g] (x.getD i v6)).2.2=0 then za5 (x.drop (i+1)) (zb5 o [a,b,c,d,e,f,g] (x.getD i v6)).1 (zb5 o [a,b,c,d,e,f,g] (x.getD i v6)).2.1 else (zb5 o [a,b,c,d,e,f,g] (x.getD i v6)).2.2:=by rw [U3 w,<-D];rfl
  rw [show n+(m+1+1)=(n+(m+1))+1 from rfl,yx1,W4 (by omega),j9,if_pos (by omega),Z1,wd9 A (by omega) E,j4,G];obtain ⟨j,h⟩:=yd9 A E;obtain ⟨k,l,p,r,s,u,v,H⟩: ∃k l p r s u v,(zb5 o [a,b,c,d,e,f,g] (x.getD i v6)).2.1= [k,l,p,r,s,u,v]:=by
   revert h
   generalize (zb5 o [a,b,c,d,e,f,g] (x.getD i v6)).2.1=q;intro h
   match q,h with
   | [k,l,p,r,s,u,v],_=>exact ⟨k,l,p,r,s,u,v,rfl⟩
  dsimp only;by_cases y:(zb5 o [a,b,c,d,e,f,g] (x.getD i v6)).2.2=0
  ·rw [show ((zb5 o [a,b,c,d,e,f,g] (x.getD i v6)).2.2 != 0)=false by simpa using y,j6,if_pos y,nx w (by omega)];rw [H] at j⊢;exact vg2 x C F m (i+1) (n+(m+1)) _ k l p r s u v (by omega) j (by omega)
  ·rw [show ((zb5 o [a,b,c,d,e,f,g] (x.getD i v6)).2.2 != 0)=true by simpa using y,j9,if_neg y]
def kb8 (n s34 s35 s36 F G H I J K L M N O P Q R S T U V W X Y Z b9_0 b9_2 b9_3 b9_4 b9_6 a b c d e f g h i j k l m o p q r s t u v w x y z A B C D E t16 t17 t18 t19 t20 t21 t22 t23 t24 t25 t26 t27 t28 t29 r30):kx6 (n+1) s34 s35 s36 F G H I J K L M N O P Q R S T U V W X Y Z b9_0 b9_2 b9_3 b9_4 b9_6 a b c d e f g h i j k l m o p q r s t u v w x y z A B C D E t16 t17 t18 t19 t20 t21 t22 t23 t24 t25 t26 t27 t28 t29 r30=jn9 (n+1) s34 s35 s36 r30 F G H I J K L M N O P Q R S T U V W X Y Z b9_0 b9_2 b9_3 b9_4 b9_6 a b c d e f g h i j k l m o p q r s t u v w x y z A B C D E t16 t17 t18 t19 t20 t21 t22 t23 t24 t25 t26 t27 t28 t29:=by rw [kf0,yx1]
def kq8 (x:List Tale) (hx: ∀t∈x,TOk t) (hl:x.length<=1000):qq v7 x=some ((),(za5 x [] [sv0 7,sv0 7,sv0 7,sv0 7,sv0 7,sv0 7,sv0 7],())):=by
 obtain ⟨n,hB⟩: ∃n,v7=n+9:=⟨999999991,rfl⟩;have hn:x.length+1<=n+1:=by (have:(1000000000:Nat)=n+9:=hB);omega
 have e:qq (n+1+8) x=some ((),(za5 x [] [sv0 7,sv0 7,sv0 7,sv0 7,sv0 7,sv0 7,sv0 7],())):=by
  rw [uj5,up7,j4,j4,j4,j4,j4,j4,j4];dsimp only;rw [kb8];exact (vg2 x hx hl x.length 0 (n+1) [] (sv0 7) (sv0 7) (sv0 7) (sv0 7) (sv0 7) (sv0 7) (sv0 7) (W7 _) ⟨W6 _,fun s hs=>by
   have:s=sv0 7:=by simpa using hs
   subst this;exact ⟨⟨⟨by decide,by decide⟩,fun p hp=>(by cases hp),fun p hp=>(by cases hp),W6 _,fun p hp=>(by cases hp),W6 _⟩,fun p hp=>(by cases hp)⟩⟩ hn)
 rw [hB];exact e
end Go.Y
