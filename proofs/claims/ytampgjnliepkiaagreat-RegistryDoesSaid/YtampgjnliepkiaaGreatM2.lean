import Derived.Test.YtampgjnliepkiaaGreatM1
import Derived.Test.YtampgjnliepkiaaGreatIb
import Derived.Test.YtampgjnliepkiaaGreatId
set_option linter.defProp false
namespace Go.Y
open Go.RowKit Go.V Go.X Go.Proofs
def zr5 (l:List Int) (o:Nat):Int:=IntKind.i64.wrap ((List.range 8).foldl (fun a i=>bOr .u64 (yg4 .u64 a 8) (IntKind.u64.wrap (l.getD (o+i) 0))) 0)
structure RS where
 o:Nat
 n:Nat
 bad:Bool
abbrev stR (l:List Int) (s:RS):((Nat×Nat)×Bool×Bool×Unit)×List Int×Unit:=(((s.o,s.n),true,s.bad,()),l,())
def gz3 (l o n b k) (h:o+n=l.length):
  qv BIG l o n true b k=some (if 0<=k/\k<=(n:Int) then (stR l ⟨o+k.toNat,n-k.toNat,b⟩,.inl ((o,k.toNat),())) else (stR l ⟨o,n,b⟩,.inr ((),()))):=by
 rw [ue0,show BIG=999999998+1+1 from rfl];have a: ∀c,ka5 (999999998+1+1) k c o n true b l=if c=true then some (stR l ⟨o,n,b⟩,.inr ((),())) else ky8 (999999998+1) k o n true b l:=by
  intro c;rw [kk7,za1]
 rw [a,a,za1];by_cases d:k<0
 ·rw [if_pos (W4 d),if_pos rfl,if_neg (by omega)]
 ·rw [if_neg (by simpa using d)];by_cases e:k>(n:Int)
  ·rw [if_pos (W4 e),if_neg (by omega)]
  ·rw [if_neg (by simpa using e),kk6,if_pos (by omega),if_pos (by omega),if_pos (by omega)];have f:((n:Nat):Int).toNat=n:=by omega
   rw [f,J5,M3]
def uf5 (l b k):
  qr BIG l true b k=some (if 0<=k/\k<=(l.length:Int) then (stR l ⟨0+k.toNat,l.length-k.toNat,b⟩,.inl ((0,k.toNat),())) else (stR l ⟨0,l.length,b⟩,.inr ((),()))):=by
 rw [ud5,show BIG=999999998+1+1 from rfl];have a: ∀c,ka1 (999999998+1+1) k c true b l=if c=true then some (stR l ⟨0,l.length,b⟩,.inr ((),())) else ky4 (999999998+1) k true b l:=by
  intro c;rw [kk5,za1]
 rw [a,a,za1];by_cases d:k<0
 ·rw [if_pos (W4 d),if_pos rfl,if_neg (by omega)]
 ·rw [if_neg (by simpa using d)];by_cases e:k>(l.length:Int)
  ·rw [if_pos (W4 e),if_neg (by omega)]
  ·rw [if_neg (by simpa using e),kk4,if_pos (by omega),if_pos (by omega),if_pos (by omega)];have f:((l.length:Nat):Int).toNat=l.length:=by omega
   rw [f,J5,W8]
def zr2 {b} (f:b->Nat->b) (a:b) (n:Nat):(List.range (n+1)).foldl f a=f ((List.range n).foldl f a) n:=by
 rw [List.range_succ,List.foldl_append];rfl
def ws6 (l o s) (h:o+8<=l.length) (c:l.length<=1000000):yo9 BIG 0 o 8 8 0 s.o s.n true s.bad l=some (stR l s,.inl (zr5 l o,())):=by
 refine jq9 (fun n k=>yo9 n ((List.range k).foldl (fun a i=>bOr .u64 (yg4 .u64 a 8) (IntKind.u64.wrap (l.getD (o+i) 0))) 0) o 8 8 (k:Int) s.o s.n true s.bad l) 1 8 _ (fun n k b=>?_) (fun n=>?_) BIG (by decide)
 ·show yo9 (n+1) _ o 8 8 (k:Int) s.o s.n true s.bad l=yo9 n _ o 8 8 ((k+1:Nat):Int) s.o s.n true s.bad l;rw [jv3,W4 (by omega),j7,if_pos (by omega),if_pos (by omega),nx (len:=8) b (by omega),zr2,show (k:Int).toNat=k by omega]
 ·show yo9 (n+1) _ o 8 8 ((8:Nat):Int) s.o s.n true s.bad l=_;rw [jv3,W5 (by omega),z6];rfl
def ws5 (l o s) (h:o+8<=l.length) (c:l.length<=1000000):yo8 BIG 0 o 8 8 0 s.o s.n true s.bad l=some (stR l s,.inl (zr5 l o,())):=by
 refine jq9 (fun n k=>yo8 n ((List.range k).foldl (fun a i=>bOr .u64 (yg4 .u64 a 8) (IntKind.u64.wrap (l.getD (o+i) 0))) 0) o 8 8 (k:Int) s.o s.n true s.bad l) 1 8 _ (fun n k b=>?_) (fun n=>?_) BIG (by decide)
 ·show yo8 (n+1) _ o 8 8 (k:Int) s.o s.n true s.bad l=yo8 n _ o 8 8 ((k+1:Nat):Int) s.o s.n true s.bad l;rw [jv1,W4 (by omega),j7,if_pos (by omega),if_pos (by omega),nx (len:=8) b (by omega),zr2,show (k:Int).toNat=k by omega]
 ·show yo8 (n+1) _ o 8 8 ((8:Nat):Int) s.o s.n true s.bad l=_;rw [jv1,W5 (by omega),z6];rfl
def gf3 (l s) (h:s.o+s.n=l.length) (b:l.length<=1000000):
  qad BIG l s.o s.n true s.bad=some (if 8<=s.n then (stR l ⟨s.o+8,s.n-8,s.bad⟩,.inl (zr5 l s.o,())) else (stR l s,.inr ((),()))):=by
 rw [wd1,gz3 l s.o s.n s.bad 8 h];by_cases a:8<=s.n
 ·rw [if_pos a,if_pos (by omega),j6];exact ws6 l s.o ⟨s.o+8,s.n-8,s.bad⟩ (by omega) b
 ·rw [if_neg a,if_neg (by omega),j6]
def gf2 (l b) (c:l.length<=1000000):
  qab BIG l true b=some (if 8<=l.length then (stR l ⟨0+8,l.length-8,b⟩,.inl (zr5 l 0,())) else (stR l ⟨0,l.length,b⟩,.inr ((),()))):=by
 rw [wc8,uf5 l b 8];by_cases a:8<=l.length
 ·rw [if_pos a,if_pos (by omega),j6];exact ws5 l 0 ⟨0+8,l.length-8,b⟩ (by omega) c
 ·rw [if_neg a,if_neg (by omega),j6]
def zo1 (l:List Int) (s:RS):Int×RS:=if s.bad=true then (0,s) else if 8<=s.n then (zr5 l s.o,⟨s.o+8,s.n-8,false⟩) else (0,⟨s.o,s.n,true⟩)
def zb0 (l:List Int) (s:RS):List Int×RS:=if s.bad=true then ([],s) else if 8<=s.n then
  (if 0<=zr5 l s.o/\zr5 l s.o<=((s.n-8:Nat):Int) then ((l.drop (s.o+8)).take (zr5 l s.o).toNat,⟨s.o+8+(zr5 l s.o).toNat,s.n-8-(zr5 l s.o).toNat,false⟩) else ([],⟨s.o+8,s.n-8,true⟩))
 else ([],⟨s.o,s.n,true⟩)
def okR (l:List Int) (s:RS):Prop:=s.o+s.n=l.length
def qr7 {l s} (h:okR l s):okR l (zo1 l s).2:=by
 unfold zo1 okR at *;split
 ·exact h
 ·split
  ·show s.o+8+(s.n-8)=_;omega
  ·exact h
def zy5 {l s} (h:okR l s):okR l (zb0 l s).2:=by
 unfold zb0 okR at *;split
 ·exact h
 ·split
  ·split
   ·show s.o+8+(zr5 l s.o).toNat+(s.n-8-(zr5 l s.o).toNat)=_;omega
   ·show s.o+8+(s.n-8)=_;omega
  ·exact h
def jx8 (l) (b:l.length<=1000000):qch BIG l true false=some (stR l (zo1 l ⟨0,l.length,false⟩).2,((zo1 l ⟨0,l.length,false⟩).1,())):=by
 rw [wk9,wh1,wg3,show (!true)=false from rfl,z6,j6];show q9 (j9 false _ (q9 (qcg BIG l true false) _)) _=_;rw [z6,wk7,gf2 l false b,j6];rw [show zo1 l ⟨0,l.length,false⟩=if 8<=l.length then (zr5 l 0,⟨0+8,l.length-8,false⟩) else (0,⟨0,l.length,true⟩) from if_neg (by simp)];by_cases a:8<=l.length
 ·rw [if_pos a,if_pos a];dsimp only;rw [j6];dsimp only;rw [wn3,j6,j6]
 ·rw [if_neg a,if_neg a];dsimp only;rw [j6];dsimp only;rw [wn4,j6,j6]
def wb1 (l s) (h:okR l s) (c:l.length<=1000000):
  qci BIG l s.o s.n true s.bad=some (if 8<=s.n then (if 0<=zr5 l s.o/\zr5 l s.o<=((s.n-8:Nat):Int) then (stR l ⟨s.o+8+(zr5 l s.o).toNat,s.n-8-(zr5 l s.o).toNat,s.bad⟩,.inl ((l.drop (s.o+8)).take (zr5 l s.o).toNat,())) else (stR l ⟨s.o+8,s.n-8,s.bad⟩,.inr ((),()))) else (stR l s,.inr ((),()))):=by
 unfold okR at h;rw [wl1,gf3 l s h c,j6];by_cases a:8<=s.n
 ·rw [if_pos a,if_pos a];dsimp only;rw [gz3 l (s.o+8) (s.n-8) s.bad _ (by omega),j6];by_cases b:0<=zr5 l s.o/\zr5 l s.o<=((s.n-8:Nat):Int)
  ·rw [if_pos b,if_pos b];dsimp only;rw [if_pos (by omega),if_pos (by rw [Y6];omega),U6]
  ·rw [if_neg b,if_neg b]
 ·rw [if_neg a,if_neg a]
def yj6 (l s) (h:okR l s) (d:l.length<=1000000):qbn BIG l s.o s.n true s.bad=some (stR l (zb0 l s).2,((zb0 l s).1,())):=by
 rw [wg9,wh3,kt7,show (!true)=false from rfl,z6,j6];obtain ⟨o,n,b⟩:=s;cases b with
 |true=>rfl
 |false=>
  rw [show zb0 l ⟨o,n,false⟩=if 8<=n then (if 0<=zr5 l o/\zr5 l o<=((n-8:Nat):Int) then ((l.drop (o+8)).take (zr5 l o).toNat,⟨o+8+(zr5 l o).toNat,n-8-(zr5 l o).toNat,false⟩) else ([],⟨o+8,n-8,true⟩)) else ([],⟨o,n,true⟩) from if_neg (by simp)];dsimp only;rw [z6,wm5];have:=wb1 l ⟨o,n,false⟩ h d;dsimp only at this;rw [this,j6];by_cases a:8<=n
  ·rw [if_pos a,if_pos a];by_cases c:0<=zr5 l o/\zr5 l o<=((n-8:Nat):Int)
   ·rw [if_pos c,if_pos c];dsimp only;rw [j6];dsimp only;rw [wn5,j6,j6]
   ·rw [if_neg c,if_neg c];dsimp only;rw [j6];dsimp only;rw [kv1,j6,j6]
  ·rw [if_neg a,if_neg a];dsimp only;rw [j6];dsimp only;rw [kv1,j6,j6]
end Go.Y
namespace Go.Y
open Go.RowKit Go.V Go.X Go.Proofs
structure Gt where
 v:Int
 c:List Int
 d:List Int
 t:List Int
 s:RS
def jb1 (l:List Int):Gt:=
 let a:=zo1 l ⟨0,l.length,false⟩
 let b:=zb0 l a.2
 let c:=zb0 l b.2
 let d:=zb0 l c.2
 ⟨a.1,b.1,c.1,d.1,d.2⟩
def okG (g:Gt):Bool:= !g.s.bad&&(g.s.n==0)&&(decide (1<=g.v)&&decide (g.v<=1073741824))&&decide (g.c.length<=32768)&&(decide (g.d.length=32)&&decide (g.t.length=32))
def yp3 (b e):qay BIG b e=some ((),if b=true then .inr (e,()) else .inl ()):=by
 rw [wf7,za1];cases b<;>rfl
def ga8 (v c d t): ∃z,qau BIG v c d t=some ((c,d,t,()),z)/\((z=.inl ()/\((decide (1<=v)&&decide (v<=1073741824))&&decide (c.length<=32768)&&(decide (d.length=32)&&decide (t.length=32)))=true)\/ ∃e:Int,z=.inr (e,())/\e≠0/\((decide (1<=v)&&decide (v<=1073741824))&&decide (c.length<=32768)&&(decide (d.length=32)&&decide (t.length=32)))=false):=by
 rw [wf4];by_cases a:v<1
 ·rw [W4 a,j7,yp3,j6];exact ⟨_,rfl,.inr ⟨2,rfl,by decide,by rw [W5 (by omega: ¬1<=v)];rfl⟩⟩
 ·rw [W5 a,z6,yp3,j6];by_cases b:v>1073741824
  ·rw [W4 b,if_pos rfl];exact ⟨_,rfl,.inr ⟨2,rfl,by decide,by rw [W5 (by omega: ¬v<=1073741824),Bool.and_false];rfl⟩⟩
  ·rw [W5 b,if_neg (by simp)];dsimp only;rw [show BIG=999999999+1 from rfl,vs8,yp3,j6,W4 (by omega:1<=v),W4 (by omega:v<=1073741824)];by_cases f:((c.length:Nat):Int)>32768
   ·rw [W4 f,if_pos rfl];exact ⟨_,rfl,.inr ⟨3,rfl,by decide,by rw [W5 (by omega: ¬c.length<=32768)];rfl⟩⟩
   ·rw [W5 f,if_neg (by simp),W4 (by omega:c.length<=32768)];dsimp only;by_cases g:d.length=32
    ·rw [g,show (((32:Nat):Int) != 32)=false from rfl,z6,yp3,j6,W4 rfl];by_cases h:t.length=32
     ·rw [h,show (((32:Nat):Int) != 32)=false from rfl,if_neg (by simp)];exact ⟨_,rfl,.inl ⟨rfl,rfl⟩⟩
     ·rw [show (((t.length:Nat):Int) != 32)=true by simp;omega,if_pos rfl,W5 h];exact ⟨_,rfl,.inr ⟨4,rfl,by decide,rfl⟩⟩
    ·rw [show (((d.length:Nat):Int) != 32)=true by simp;omega,j7,yp3,j6,if_pos rfl,W5 g];exact ⟨_,rfl,.inr ⟨4,rfl,by decide,rfl⟩⟩
def wb5 (l s):qcf BIG l s.o s.n true s.bad=some (stR l s,((!s.bad&&(s.n==0)),())):=by
 rw [wk5,kt7,show (!true)=false from rfl,z6,j6];obtain ⟨o,n,b⟩:=s;cases b with
 |true=>rfl
 |false=>
  show j9 (!false) (some (_,(((n:Nat):Int)==0),())) _=some (_,(n==0),());rw [show (!false)=true from rfl,j7];have:(((n:Nat):Int)==0)=(n==0):=by
   cases n with
   |zero=>rfl
   |succ n=>simp;omega
  rw [this]
def wr8 (l) (g:l.length<=1000000):qbt BIG l=some (if okG (jb1 l)=true then ((⟨(jb1 l).v,(jb1 l).c,(jb1 l).d,(jb1 l).t⟩:Bundle),0) else ((⟨0,[],[],[]⟩:Bundle),4)):=by
 have o:okR l ⟨0,l.length,false⟩:=W8 _;have k:=qr7 o;have m:=zy5 k;have p:=zy5 m;have q:=jx8 l g;have r:=yj6 l _ k g;have s:=yj6 l _ m g;have u:=yj6 l _ p g;rw [show jb1 l=⟨(zo1 l ⟨0,l.length,false⟩).1,(zb0 l (zo1 l ⟨0,l.length,false⟩).2).1,(zb0 l (zb0 l (zo1 l ⟨0,l.length,false⟩).2).2).1,(zb0 l (zb0 l (zb0 l (zo1 l ⟨0,l.length,false⟩).2).2).2).1,(zb0 l (zb0 l (zb0 l (zo1 l ⟨0,l.length,false⟩).2).2).2).2⟩ from rfl];generalize zo1 l ⟨0,l.length,false⟩=a at *;generalize zb0 l a.2=b at *;generalize zb0 l b.2=c at *;generalize zb0 l c.2=d at *;have w: ∃z,qbu BIG l=some (((l,()),()),z)/\((okG ⟨a.1,b.1,c.1,d.1,d.2⟩=true/\z=.inl ((a.1,b.1,c.1,d.1,()),()))\/(okG ⟨a.1,b.1,c.1,d.1,d.2⟩=false/\ ∃e:Int,z=.inr (e,())/\e≠0)):=by
  rw [wi2,wm3,if_pos (by omega),j6];dsimp only;rw [U6,q,j6];dsimp only;rw [r,j6];dsimp only;rw [s,j6];dsimp only;rw [u,j6];dsimp only;rw [wb5,j6];dsimp only;rw [yp3,j6];unfold okG;dsimp only;cases hd:(!d.2.bad&&(d.2.n==0)) with
  |false=>
   rw [show (!false)=true from rfl,if_pos rfl];exact ⟨_,rfl,.inr ⟨by simp,4,rfl,by decide⟩⟩
  |true=>
   rw [show (!true)=false from rfl,if_neg (by simp)];dsimp only;obtain ⟨z,i,f⟩:=ga8 a.1 b.1 c.1 d.1;rw [i,j6];rcases f with ⟨rfl,h⟩|⟨e,rfl,j,h⟩
   ·exact ⟨_,rfl,.inl ⟨by rw [N6];exact h,rfl⟩⟩
   ·exact ⟨_,rfl,.inr ⟨by rw [N6];exact h,e,rfl,j⟩⟩
 obtain ⟨z,i,f⟩:=w;rw [wi0,wg4,i,j6];rcases f with ⟨h,rfl⟩|⟨h,e,rfl,j⟩
 ·rw [h,if_pos rfl];dsimp only;rw [wn1,j6,j6];rfl
 ·rw [h,if_neg (by simp)];dsimp only;rw [wn2,j6,j6];dsimp only;rw [show (e != 0)=true by simpa using j,j7]
def bdP (v:Int) (l:List Int):Bool:=okG (jb1 l)&&((jb1 l).v==v)
def vn5 (v l) (a:l.length<=1000000):qbd BIG v l=some (bdP v l):=by
 rw [wf9,wr8 l a,j6];unfold bdP;cases okG (jb1 l) with
 |true=>rw [if_pos rfl];rfl
 |false=>rw [if_neg (by simp)];rfl
end Go.Y
namespace Go.Y
open Go.RowKit Go.V Go.X Go.Proofs
structure Mc where
 sv:Int
 held:List (Int×List Int)
 act:Int
 bef:Int
 roll:Int
 yes:List (Int×Bool)
 no:Bool
abbrev zx7 (m:List (Int×List Int)) (v:Int):List Int:=jb8 TT (.list (.int .u8)) m v
abbrev pmc (m:Mc):(Int×Unit×Int×Int×Int×Unit×Bool×Unit)×List (Int×List Int)×List (Int×Bool)×Unit:=((m.sv,(),m.act,m.bef,m.roll,(),m.no,()),m.held,m.yes,())
def inB (v:Int) (k:Int):Bool:=decide (1<=v)&&decide (v<=k)
def qa8 (m:Mc) (e:Entry):Mc×Int:=
 if inB e.Version 1073741824=false then (m,2) else if bdP e.Version e.Data=false then (m,4) else
 if zq2 m.held e.Version=true/\zx7 m.held e.Version≠e.Data then (m,7) else ({m with held:=zh5 m.held e.Version e.Data},0)
def kc4 (m:Mc) (e:Entry):Mc×Int:=
 if zq2 m.held e.Version=false then (m,6) else if m.roll≠0 then (m,8) else if e.Version=m.act then (m,7) else ({m with roll:=e.Version},0)
def yr8 (m:Mc) (e:Entry):Mc×Int:=
 if e.Version<1\/e.Version≠m.roll then (m,6) else if inB e.Server m.sv=false then (m,2) else
 if e.Good=true then ({m with yes:=zh5 m.yes e.Server true},0) else ({m with no:=true},0)
def yg6 (m:Mc):Mc:= {m with roll:=0,no:=false,yes:= []}
def jy3 (m:Mc) (e:Entry):Mc×Int:=
 if e.Version<1\/e.Version≠m.roll then (m,6) else if m.no=true\/(m.yes.length:Int)<m.sv then (m,8) else (yg6 {m with bef:=m.act,act:=e.Version},0)
def ji3 (m:Mc) (e:Entry):Mc×Int:=
 if e.Version<1\/(e.Version≠m.roll/\e.Version≠m.act) then (m,6) else
 if e.Version=m.act then (if m.roll=m.bef then (yg6 {m with act:=m.bef,bef:=0},0) else ({m with act:=m.bef,bef:=0},0)) else (yg6 m,0)
def yb7 (m:Mc) (e:Entry):Mc×Int:=
 if e.Kind=1 then (m,0) else if e.Kind=2 then qa8 m e else if e.Kind=3 then kc4 m e else if e.Kind=4 then yr8 m e else if e.Kind=5 then jy3 m e else if e.Kind=6 then ji3 m e else (m,2)
def yl0 (v k):qaa BIG v k=some (inB v k):=by
 rw [wc7,za1];unfold inB;by_cases h:1<=v
 ·rw [W4 h,if_pos rfl,N6]
 ·rw [W5 h,if_neg (by simp),Bool.false_and]
def jy6 (x) (h:x.length<=1000000):qaj BIG x=some x:=by
 rw [wd7,if_pos (by omega),U6];cases x with
 |nil=>exact vr1 _ _
 |cons a r=>rfl
def gb6 (a b) (h:b.length<=1000000):qu BIG a b=some (decide (a=b)):=by
 rw [ud9];by_cases g:a.length=b.length
 ·rw [show (((a.length:Nat):Int) != ((b.length:Nat):Int))=false by simp;omega,z6];have d:=kx4 (fun n k=>jh7 n a b ((a.length:Nat):Int) (k:Int)) 1 a.length (fun k=>some (decide (a.drop k=b.drop k))) (fun n k f=>?_) (fun n=>?_) a.length 0 BIG (by omega) (by show 1*a.length+1<=1000000000;omega)
  ·simpa using d
  ·show jh7 (n+1) a b ((a.length:Nat):Int) (k:Int)=_\/(jh7 (n+1) a b ((a.length:Nat):Int) (k:Int)=jh7 n a b ((a.length:Nat):Int) ((k+1:Nat):Int)/\_);rw [qq8,W4 (by omega),j7,if_pos (by omega),if_pos (by omega),nx f (by omega)];have i:a.drop k=a[k]::a.drop (k+1):=V8 f;have j:b.drop k=b[k]::b.drop (k+1):=V8 (by omega);have o:a.getD (k:Int).toNat 0=a[k]:=by rw [Y2,show (k:Int).toNat=k by omega,Y0 f];rfl
   have p:b.getD (k:Int).toNat 0=b[k]:=by rw [Y2,show (k:Int).toNat=k by omega,Y0 (by omega)];rfl
   rw [o,p,i,j];by_cases c:a[k]=b[k]
   ·right;rw [show (a[k] != b[k])=false by simpa using c,z6];refine ⟨rfl,?_⟩;congr 1;rw [decide_eq_decide,c];exact ⟨fun h=>(List.cons.inj h).2,fun h=>by rw [h]⟩
   ·left;rw [show (a[k] != b[k])=true by simpa using c,j7];congr 1
    symm
    rw [decide_eq_false_iff_not];exact fun h=>c (List.cons.inj h).1
  ·show jh7 (n+1) a b ((a.length:Nat):Int) ((a.length:Nat):Int)=_;rw [qq8,W5 (by omega),z6,M4 (W6 _),M4 (by omega)];rfl
 ·rw [show (((a.length:Nat):Int) != ((b.length:Nat):Int))=true by simp;omega,j7,W5 (fun e=>g (by rw [e]))]
end Go.Y
namespace Go.Y
open Go.RowKit Go.V Go.X Go.Proofs
def Byt (l:List Int):Prop:= ∀x∈l,0<=x/\x<=255
def ws7 (k m x y) (i:m<=k.bits) (j:x%2^m=0) (a:0<=y/\y<2^m):bOr k x y=k.wrap (x%2^k.bits+y):=by
 unfold bOr;congr 1;rw [BitVec.toNat_or,BitVec.toNat_ofInt,BitVec.toNat_ofInt];have s:(2:Int)^m<=2^k.bits:=by exact_mod_cast Nat.pow_le_pow_right (by decide) i
 have n:(0:Int)<2^k.bits:=Int.pow_pos (by decide);have o:y%((2^k.bits:Nat):Int)=y:=by push_cast;exact Int.emod_eq_of_lt a.1 (by omega)
 have b:(x%((2^k.bits:Nat):Int))%2^m=0:=by
  push_cast
  rw [Int.emod_emod_of_dvd _ ⟨2^(k.bits-m),by rw [<-Int.pow_add];congr 1;omega⟩];exact j
 have f:0<=x%((2^k.bits:Nat):Int):=Int.emod_nonneg _ (by push_cast;omega);rw [o]
 push_cast at b f⊢
 generalize x%2^k.bits=X at b f⊢;obtain ⟨q,g⟩:=Int.dvd_of_emod_eq_zero b;have e:0<=q:=by
  have:(0:Int)<2^m:=Int.pow_pos (by decide);rcases Int.lt_or_le q 0 with h|h
  ·have:=Int.mul_neg_of_pos_of_neg this h;omega
  ·exact h
 obtain ⟨c,rfl⟩:=Int.eq_ofNat_of_zero_le e;obtain ⟨d,rfl⟩:=Int.eq_ofNat_of_zero_le a.1;have p:d<2^m:=by have:=a.2;exact_mod_cast this
 have r:X.toNat=2^m*c:=by rw [g];exact_mod_cast Z1 (2^m*c)
 rw [r,Z1,<-Nat.two_pow_add_eq_or_of_lt p c,g]
 push_cast;rfl
def kn8 (x:Int):0<=IntKind.u64.wrap x/\IntKind.u64.wrap x<=18446744073709551615:=by
 unfold IntKind.wrap;simp [IntKind.bits,IntKind.signed];omega
def uf2 (a b:Int) (hb:0<=b/\b<=255):IntKind.u64.wrap (IntKind.u64.wrap (256*a)+IntKind.u64.wrap b)=bOr .u64 (yg4 .u64 a 8) (IntKind.u64.wrap b):=by
 rw [show IntKind.u64.wrap b=b from yh6 (by omega)];have e:yg4 .u64 a 8=IntKind.u64.wrap (256*a):=by
  show IntKind.u64.wrap (a*256)=_;rw [Int.mul_comm]
 rw [e];have hx:IntKind.u64.wrap (256*a)%256=0:=by unfold IntKind.wrap;simp [IntKind.bits,IntKind.signed]
 rw [ws7 .u64 8 _ _ (by decide) (by simpa using hx) (by omega)];have h1:=kn8 (256*a);generalize IntKind.u64.wrap (256*a)=y at *;rw [show y%2^IntKind.u64.bits=y from Int.emod_eq_of_lt h1.1 (by show y<18446744073709551616;omega)]
def ke1 {l:List Int} (h:Byt l) (i:Nat):0<=l.getD i 0/\l.getD i 0<=255:=by
 rw [Y2];by_cases hi:i<l.length
 ·rw [Y0 hi];exact h _ (N1 hi)
 ·rw [Y5 (by omega)];exact ⟨by decide,by decide⟩
abbrev stF (l:List Int) (s:RS):(Unit×Int×Bool×Unit)×List Int×Unit:=(((),(s.o:Int),s.bad,()),l,())
def kv4 (l:List Int) (s:RS) (h:okR l s) (hl:l.length<=1000000) (hb:Byt l):qh BIG l s.o s.bad=some (stF l (zo1 l s).2,((zo1 l s).1,())):=by
 unfold okR at h;rw [uc0,za1];obtain ⟨o,n,b⟩:=s;dsimp only at h⊢;have hJ: ∀c,vz1 BIG c o b l=if c=true then some ((((),(o:Int),true,()),l,()),((0:Int),())) else jh4 999999999 0 0 o b l:=by
  intro c;rw [show BIG=999999999+1 from rfl,kj9,za1]
 rw [hJ,hJ];cases b with
 |true=>rw [if_pos rfl,if_pos rfl];rfl
 |false=>
  rw [if_neg (by simp),zb6 (by omega),show zo1 l ⟨o,n,false⟩=if 8<=n then (zr5 l o,⟨o+8,n-8,false⟩) else (0,⟨o,n,true⟩) from if_neg (by simp)];by_cases h8:8<=n
  ·rw [W5 (by omega),if_neg (by simp),if_pos h8];refine jq9 (fun n k=>jh4 n ((List.range k).foldl (fun a i=>bOr .u64 (yg4 .u64 a 8) (IntKind.u64.wrap (l.getD (o+i) 0))) 0) (k:Int) o false l) 1 8 _ (fun n k hk=>?_) (fun n=>?_) 999999999 (by decide)
   ·show jh4 (n+1) _ (k:Int) o false l=jh4 n _ ((k+1:Nat):Int) o false l;rw [qp3,W4 (by omega),j7,zb6 (x:=(o:Int)+k) (by omega),if_pos (by omega),nx (len:=8) hk (by omega),zr2,show ((o:Int)+(k:Int)).toNat=o+k by omega,uf2 _ _ (ke1 hb _)]
   ·show jh4 (n+1) _ ((8:Nat):Int) o false l=_;rw [qp3,W5 (by omega),z6,zb6 (x:=(o:Int)+8) (by omega)];rfl
  ·rw [W4 (by omega),if_pos rfl,if_neg h8]
def jm7 (l:List Int) (s:RS) (h:okR l s) (hl:l.length<=1000000) (hb:Byt l):qac BIG l s.o s.bad=some (stF l (zb0 l s).2,((zb0 l s).1,())):=by
 rw [wc9,kv4 l s h hl hb,j6];unfold okR at h;obtain ⟨o,n,b⟩:=s;dsimp only at h;have hw:IntKind.i64.wrap (((l.length:Nat):Int)-((o+8:Nat):Int))=((l.length:Nat):Int)-((o+8:Nat):Int):=zb6 (by omega);have hJ: ∀k c (o':Nat) b',jd6 BIG k c (o':Int) b' l=if c=true then some ((((),(o':Int),true,()),l,()),(([]:List Int),())) else jd6 BIG k false (o':Int) b' l:=by
  intro k c o' b';cases c with
  |false=>rw [if_neg (by simp)]
  |true=>rw [if_pos rfl,show BIG=999999999+1 from rfl,jv2,j7]
 cases b with
 |true=>
  rw [show zo1 l ⟨o,n,true⟩=(0,⟨o,n,true⟩) from if_pos rfl,show zb0 l ⟨o,n,true⟩=([],⟨o,n,true⟩) from if_pos rfl];dsimp only;rw [j7,hJ,if_pos rfl]
 |false=>
  rw [show zb0 l ⟨o,n,false⟩=if 8<=n then (if 0<=zr5 l o/\zr5 l o<=((n-8:Nat):Int) then ((l.drop (o+8)).take (zr5 l o).toNat,⟨o+8+(zr5 l o).toNat,n-8-(zr5 l o).toNat,false⟩) else ([],⟨o+8,n-8,true⟩)) else ([],⟨o,n,true⟩) from if_neg (by simp)];rw [show zo1 l ⟨o,n,false⟩=if 8<=n then (zr5 l o,⟨o+8,n-8,false⟩) else (0,⟨o,n,true⟩) from if_neg (by simp)];by_cases h8:8<=n
  ·rw [if_pos h8,if_pos h8];dsimp only;generalize zr5 l o=k;rw [z6,za1,hw];by_cases h1:k<0
   ·rw [if_pos (W4 h1),if_neg (by omega)];rw [hJ,if_pos rfl]
   ·rw [if_neg (by simpa using h1)];by_cases h2:k>((l.length:Nat):Int)-((o+8:Nat):Int)
    ·rw [W4 h2,if_neg (by omega)];rw [hJ,if_pos rfl]
    ·rw [W5 h2,if_pos (by omega),show BIG=999999999+1 from rfl,jv2,z6,zb6 (x:=((o+8:Nat):Int)+k) (by omega),zb6 (x:=((o+8:Nat):Int)+k-k) (by omega),if_pos (by omega),if_pos (by omega)];have e1:(((o+8:Nat):Int)+k-k).toNat=o+8:=by omega
     have e2:(((o+8:Nat):Int)+k).toNat-(o+8)=k.toNat:=by omega
     rw [e1,e2,if_pos (by rw [Y6];omega),U6];have e3:((o+8:Nat):Int)+k=((o+8+k.toNat:Nat):Int):=by omega
     rw [e3]
  ·rw [if_neg h8,if_neg h8];dsimp only;rw [j7];rw [hJ,if_pos rfl]
def gj6 (l:List Int) (s:RS) (h:okR l s):qbz BIG l s.o s.bad=some (stF l s,((!s.bad&&(s.n==0)),())):=by
 unfold okR at h;obtain ⟨o,n,b⟩:=s;dsimp only at h⊢;rw [wj3];cases b with
 |true=>rfl
 |false=>
  rw [show (!false)=true from rfl,j7];have:((o:Int)==((l.length:Nat):Int))=(n==0):=by
   cases n with
   |zero=>simp;omega
   |succ n=>simp;omega
  rw [this];rfl
def gl3 (v:Int) (c d t:List Int): ∃e,qo BIG ⟨v,c,d,t⟩=some e/\(e=0↔((decide (1<=v)&&decide (v<=1073741824))&&decide (c.length<=32768)&&(decide (d.length=32)&&decide (t.length=32)))=true):=by
 rw [ky3,za1];dsimp only;have hJ: ∀b,vz6 BIG b v c d t=if b=true then some 2 else j9 (decide (((c.length:Nat):Int)>32768)) (some 3) (j9 (((d.length:Nat):Int) != 32) (some 4) (j9 (((t.length:Nat):Int) != 32) (some 4) (some 0))):=by
  intro b;rw [show BIG=999999999+1 from rfl,jm3,za1]
 rw [hJ,hJ];by_cases h1:v<1
 ·rw [if_pos (W4 h1),if_pos rfl];exact ⟨_,rfl,by rw [W5 (by omega: ¬1<=v)];simp⟩
 ·rw [if_neg (by simpa using h1)];by_cases h2:v>1073741824
  ·rw [if_pos (W4 h2)];exact ⟨_,rfl,by rw [W5 (by omega: ¬v<=1073741824)];simp⟩
  ·rw [if_neg (by simpa using h2),W4 (by omega:1<=v),W4 (by omega:v<=1073741824)];by_cases h3:((c.length:Nat):Int)>32768
   ·rw [W4 h3,j7];exact ⟨_,rfl,by rw [W5 (by omega: ¬c.length<=32768)];simp⟩
   ·rw [W5 h3,z6,W4 (by omega:c.length<=32768)];by_cases h4:d.length=32
    ·rw [h4,show (((32:Nat):Int) != 32)=false from rfl,z6];by_cases h5:t.length=32
     ·rw [h5,show (((32:Nat):Int) != 32)=false from rfl,z6];exact ⟨_,rfl,by simp⟩
     ·rw [show (((t.length:Nat):Int) != 32)=true by simp;omega,j7,W5 h5];exact ⟨_,rfl,by simp⟩
    ·rw [show (((d.length:Nat):Int) != 32)=true by simp;omega,j7,W5 h4];exact ⟨_,rfl,by simp⟩
def wn8 (l:List Int) (hl:l.length<=1000000) (hb:Byt l):qca BIG l=some (if okG (jb1 l)=true then ((⟨(jb1 l).v,(jb1 l).c,(jb1 l).d,(jb1 l).t⟩:Bundle),0) else ((⟨0,[],[],[]⟩:Bundle),4)):=by
 have h1:okR l ⟨0,l.length,false⟩:=W8 _;have h2:=qr7 h1;have h3:=zy5 h2;have h4:=zy5 h3;have h5:=zy5 h4;have e1:=kv4 l _ h1 hl hb;have e2:=jm7 l _ h2 hl hb;have e3:=jm7 l _ h3 hl hb;have e4:=jm7 l _ h4 hl hb;rw [show jb1 l=⟨(zo1 l ⟨0,l.length,false⟩).1,(zb0 l (zo1 l ⟨0,l.length,false⟩).2).1,(zb0 l (zb0 l (zo1 l ⟨0,l.length,false⟩).2).2).1,(zb0 l (zb0 l (zb0 l (zo1 l ⟨0,l.length,false⟩).2).2).2).1,(zb0 l (zb0 l (zb0 l (zo1 l ⟨0,l.length,false⟩).2).2).2).2⟩ from rfl];generalize zo1 l ⟨0,l.length,false⟩=a at *;generalize zb0 l a.2=b at *;generalize zb0 l b.2=c at *;generalize zb0 l c.2=d at *;have e0:qby BIG l=some ((),((l,(0:Int),false,()),())):=by rw [wj1,if_pos (by omega),U6]
 rw [wj5,e0,j6];have e1':qh BIG l 0 false=some (stF l a.2,(a.1,())):=e1;show q9 (qh BIG l 0 false) _=_;rw [e1',j6];dsimp only;rw [e2,j6];dsimp only;rw [e3,j6];dsimp only;rw [e4,j6];dsimp only;rw [gj6 l d.2 h5,j6];dsimp only;obtain ⟨e,he,he2⟩:=gl3 a.1 b.1 c.1 d.1;rw [he,j6];unfold okG;dsimp only;cases hd:(!d.2.bad&&(d.2.n==0)) with
 |false=>rw [show (!false)=true from rfl,j7,if_neg (by simp)]
 |true=>
  rw [show (!true)=false from rfl,z6,N6];by_cases h0:e=0
  ·rw [show (e != 0)=false by simpa using h0,z6,if_pos (he2.1 h0)]
  ·rw [show (e != 0)=true by simpa using h0,j7,if_neg (fun h=>h0 (he2.2 h))]
def qy5 (v:Int) (l:List Int) (hl:l.length<=1000000) (hb:Byt l):qcb BIG v l=some (bdP v l):=by
 rw [wj7,wn8 l hl hb,j6];unfold bdP;cases okG (jb1 l) with
 |true=>rw [if_pos rfl];rfl
 |false=>rw [if_neg (by simp)];rfl
end Go.Y
