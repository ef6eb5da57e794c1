import Derived.Test.YtampgjnliepkiaaGreatM2
import Derived.Test.YtampgjnliepkiaaGreatIa
import Derived.Test.YtampgjnliepkiaaGreatM1
import Derived.Test.YtampgjnliepkiaaGreatId
set_option linter.defProp false
namespace Go.Y
open Go.RowKit Go.V Go.X Go.Proofs
def yd9 {c:Type} {x:Int} {a:c}: ∀ {m:List (Int×c)} {p:Int×c},p∈zh5 m x a->p=(x,a)\/p∈m
 | [],p,h=>by simpa [zh5] using h
 |(y,b)::r,p,h=>by
  unfold zh5 at h;split at h
  ·rcases Z0.1 h with h|h
   ·exact .inl h
   ·exact .inr (Z4 _ h)
  ·rcases Z0.1 h with h|h
   ·exact .inr (by rw [h];exact U1 ..)
   ·rcases yd9 h with h|h
    ·exact .inl h
    ·exact .inr (Z4 _ h)
def jl0 {c} (x a): ∀m:List (Int×c),(zh5 m x a).length<=m.length+1
 | []=>by simp [zh5]
 |(y,b)::r=>by
  unfold zh5;split
  ·simp
  ·have:=jl0 x a r;simp;omega
def ym0 (x:Int) (a:List Int): ∀m:List (Int×List Int),zx7 (zh5 m x a) x=a
 | []=>by show (if x=x then a else _)=a;exact if_pos rfl
 |(y,b)::r=>by
  unfold zh5;split
  ·show (if x=x then a else _)=a;exact if_pos rfl
  ·rename_i h;show (if x=y then b else zx7 (zh5 r x a) x)=a;rw [if_neg h];exact ym0 x a r
def yd5 {P:List Int->Prop} (a:P []) (x:Int): ∀ {m:List (Int×List Int)},(∀p∈m,P p.2)->P (zx7 m x)
 | [],_=>a
 |(y,b)::r,h=>by
  show P (if x=y then b else zx7 r x);split
  ·exact h _ (U1 ..)
  ·exact yd5 a x fun p c=>h p (Z4 _ c)
structure okM (m:Mc) (c:Nat):Prop where
 sv:1<=m.sv/\m.sv<=7
 hb: ∀p∈m.held,1<=p.1/\p.1<=1073741824
 dl: ∀p∈m.held,p.2.length<=6000
 hl:m.held.length<=c
 yb: ∀p∈m.yes,1<=p.1/\p.1<=7
 yl:m.yes.length<=c
def zj8 (m:Mc) (v:Int):Held:=⟨v,zx7 m.held v⟩
def v6 (m:Mc):Registry:=⟨(zi1 (m.held.map Prod.fst)).map (zj8 m),m.act,m.bef,m.roll,zi1 (m.yes.map Prod.fst),m.no⟩
def jt7 {a} {m:List (Int×a)} (h: ∀p∈m,1<=p.1/\p.1<=1073741824) (c:m.length<=1000):yt4 m=true:=by
 unfold yt4;rw [X3,Y8];refine ⟨fun p b=>?_,W3 (by omega)⟩;have:=h p b;rw [X3,decide_eq_true_eq,decide_eq_true_eq];omega
def qt0 {a} {m:List (Int×a)} (h:yt4 m=true):zj6 m=some ((((),()),m,()),zi1 (m.map Prod.fst),()):=by unfold zj6;rw [h]
def ja1 (l):(zi1 l).length=l.length:=(zd3 l).length_eq
def okM.more {m c} (h:okM m c):okM m (c+1):=⟨h.sv,h.hb,h.dl,M5 h.hl,h.yb,M5 h.yl⟩
def yk2 {v k} (h:inB v k≠false):1<=v/\v<=k:=by
 unfold inB at h;rw [ne_eq,Bool.not_eq_false,X3,decide_eq_true_eq,decide_eq_true_eq] at h;exact h
def okM.reg {m:Mc} {c:Nat} (h:okM m c) {e:Entry} (hd:e.Data.length<=6000):okM (qa8 m e).1 (c+1):=by
 unfold qa8;split
 ·exact h.more
 ·rename_i h1;split
  ·exact h.more
  ·split
   ·exact h.more
   ·refine ⟨h.sv,fun p hp=>?_,fun p hp=>?_,W7 (jl0 _ _ _) (Nat.succ_le_succ h.hl),h.yb,M5 h.yl⟩
    ·rcases yd9 hp with rfl|hp
     ·exact yk2 h1
     ·exact h.hb p hp
    ·rcases yd9 hp with rfl|hp
     ·exact hd
     ·exact h.dl p hp
def okM.app {m:Mc} {c:Nat} (h:okM m c) {e:Entry} (hd:e.Data.length<=6000):okM (yb7 m e).1 (c+1):=by
 have hstop: ∀m':Mc,m'.sv=m.sv->m'.held=m.held->okM (yg6 m') (c+1):=fun m' h1 h2=>
  ⟨by show 1<=m'.sv/\m'.sv<=7;rw [h1];exact h.sv,by show ∀p∈m'.held,_;rw [h2];exact h.hb,by show ∀p∈m'.held,_;rw [h2];exact h.dl,by show m'.held.length<=_;rw [h2];exact M5 h.hl,fun p hp=>(by cases hp),U3 _⟩
 unfold yb7;split
 ·exact h.more
 ·split
  ·exact h.reg hd
  ·split
   ·unfold kc4;split
    ·exact h.more
    ·split
     ·exact h.more
     ·split
      ·exact h.more
      ·exact ⟨h.sv,h.hb,h.dl,M5 h.hl,h.yb,M5 h.yl⟩
   ·split
    ·unfold yr8;split
     ·exact h.more
     ·split
      ·exact h.more
      ·rename_i h2;split
       ·refine ⟨h.sv,h.hb,h.dl,M5 h.hl,fun p hp=>?_,W7 (jl0 _ _ _) (Nat.succ_le_succ h.yl)⟩;rcases yd9 hp with rfl|hp
        ·have:=yk2 h2;have:=h.sv;exact ⟨by omega,by omega⟩
        ·exact h.yb p hp
       ·exact ⟨h.sv,h.hb,h.dl,M5 h.hl,h.yb,M5 h.yl⟩
    ·split
     ·unfold jy3;split
      ·exact h.more
      ·split
       ·exact h.more
       ·exact hstop _ rfl rfl
     ·split
      ·unfold ji3;split
       ·exact h.more
       ·split
        ·split
         ·exact hstop _ rfl rfl
         ·exact ⟨h.sv,h.hb,h.dl,M5 h.hl,h.yb,M5 h.yl⟩
        ·exact hstop _ rfl rfl
      ·exact h.more
end Go.Y
namespace Go.Y
open Go.RowKit Go.V Go.X Go.Proofs
def yk7 {α:Type} (x:Int): ∀m:List (Int×α),zq2 m x=true↔x∈m.map Prod.fst
 | []=>by simp [zq2]
 |(y,b)::r=>by
  rw [zq2];by_cases h:x=y
  ·rw [if_pos h];simp [h]
  ·rw [if_neg h,yk7 x r,U2,Z0];exact ⟨.inr,fun a=>a.elim (fun a=>absurd a h) id⟩
def zw6 {α:Type} (x:Int) (a:α): ∀m:List (Int×α),(zh5 m x a).map Prod.fst=if x∈m.map Prod.fst then m.map Prod.fst else m.map Prod.fst++ [x]
 | []=>by simp [zh5]
 |(y,b)::r=>by
  unfold zh5;by_cases h:x=y
  ·rw [if_pos h];simp [h]
  ·rw [if_neg h,U2,zw6 x a r,U2];by_cases h2:x∈r.map Prod.fst
   ·rw [if_pos h2,if_pos (Z4 _ h2)]
   ·rw [if_neg h2,if_neg (by rw [Z0,not_or];exact ⟨h,h2⟩)];rfl
def yr2 {α:Type} {x:Int} {a:α} {m:List (Int×α)} (h:(m.map Prod.fst).Nodup):((zh5 m x a).map Prod.fst).Nodup:=by
 rw [zw6];split
 ·exact h
 ·rename_i h2;rw [List.nodup_append];refine ⟨h,by simp,fun b hb c hc=>?_⟩;rw [Q5] at hc
  rintro rfl
  exact h2 (hc▸hb)
def jl3 {α:Type} {x:Int} {a:α} {m:List (Int×α)} {v:Int} (h:v∈m.map Prod.fst):v∈(zh5 m x a).map Prod.fst:=by
 rw [zw6];split
 ·exact h
 ·exact List.mem_append_left _ h
def zv3 (x:Int) (a:List Int) (v:Int) (h:v≠x): ∀m:List (Int×List Int),zx7 (zh5 m x a) v=zx7 m v
 | []=>by show (if v=x then a else zx7 [] v)=zx7 [] v;exact if_neg h
 |(y,b)::r=>by
  unfold zh5;by_cases e:x=y
  ·rw [if_pos e];show (if v=x then a else zx7 r v)=(if v=y then b else zx7 r v);rw [if_neg h,if_neg (e▸h)]
  ·rw [if_neg e];show (if v=y then b else zx7 (zh5 r x a) v)=(if v=y then b else zx7 r v);rw [zv3 x a v h r]
def kr9: ∀(N:Nat) (l:List Int),l.Nodup->(∀x∈l,1<=x/\x<=(N:Int))->l.length<=N
 |0,l,_,h=>by
  cases l with
  |nil=>exact W6 _
  |cons a r=>have:=h a (U1 ..);omega
 |N+1,l,hn,h=>by
  have h1:=kr9 N (l.erase ((N+1:Nat):Int)) (hn.erase _) fun x hx=>by
   rw [hn.mem_erase_iff] at hx;have:=h x hx.2;have:=hx.1;omega
  by_cases hm:((N+1:Nat):Int)∈l
  ·rw [List.length_erase_of_mem hm] at h1;omega
  ·rw [List.erase_of_not_mem hm] at h1;omega
structure inv (m:Mc):Prop where
 kn:(m.held.map Prod.fst).Nodup
 bd: ∀p∈m.held,bdP p.1 p.2=true
 yn:(m.yes.map Prod.fst).Nodup
 yb: ∀p∈m.yes,1<=p.1/\p.1<=m.sv
 ha:m.act=0\/m.act∈m.held.map Prod.fst
 hb:m.bef=0\/m.bef∈m.held.map Prod.fst
 hr:m.roll=0\/m.roll∈m.held.map Prod.fst
 ab:m.act=0->m.bef=0
 an:m.act≠0->m.bef≠m.act
 rn:m.roll≠0->m.roll≠m.act
 rz:m.roll=0->m.yes= []/\m.no=false
def jk9 {m:Mc} (kn:(m.held.map Prod.fst).Nodup) (bd: ∀p∈m.held,bdP p.1 p.2=true) (ha:m.act=0\/m.act∈m.held.map Prod.fst) (hb:m.bef=0\/m.bef∈m.held.map Prod.fst) (ab:m.act=0->m.bef=0) (an:m.act≠0->m.bef≠m.act):inv (yg6 m):=
 ⟨kn,bd,List.nodup_nil,fun _ h=>(by cases h),ha,hb,.inl rfl,ab,an,fun h=>absurd rfl h,fun _=>⟨rfl,rfl⟩⟩
def inv.app {m:Mc} (h:inv m) (e:Entry):inv (yb7 m e).1:=by
 unfold yb7;split
 ·exact h
 ·split
  ·unfold qa8;split
   ·exact h
   ·split
    ·exact h
    ·rename_i h2;split
     ·exact h
     ·refine ⟨yr2 h.kn,fun p hp=>?_,h.yn,h.yb,h.ha.imp id jl3,h.hb.imp id jl3,h.hr.imp id jl3,h.ab,h.an,h.rn,h.rz⟩;rcases yd9 hp with rfl|hp
      ·simpa using h2
      ·exact h.bd p hp
  ·split
   ·unfold kc4;split
    ·exact h
    ·rename_i h1;split
     ·exact h
     ·rename_i h2;split
      ·exact h
      ·rename_i h3;exact ⟨h.kn,h.bd,h.yn,h.yb,h.ha,h.hb,.inr ((yk7 _ _).1 (by simpa using h1)),h.ab,h.an,fun _=>h3,fun _=>h.rz (by simpa using h2)⟩
   ·split
    ·unfold yr8;split
     ·exact h
     ·rename_i h1;rw [not_or] at h1;split
      ·exact h
      ·rename_i h2;have h4:m.roll≠0:=by omega
       split
       ·refine ⟨h.kn,h.bd,yr2 h.yn,fun p hp=>?_,h.ha,h.hb,h.hr,h.ab,h.an,h.rn,fun a=>absurd a h4⟩;rcases yd9 hp with rfl|hp
        ·exact yk2 h2
        ·exact h.yb p hp
       ·exact ⟨h.kn,h.bd,h.yn,h.yb,h.ha,h.hb,h.hr,h.ab,h.an,h.rn,fun a=>absurd a h4⟩
    ·split
     ·unfold jy3;split
      ·exact h
      ·rename_i h1;rw [not_or] at h1;have h4:m.roll≠0:=by omega
       have h5:e.Version=m.roll:=by simpa using h1.2
       split
       ·exact h
       ·refine jk9 h.kn h.bd (.inr ?_) h.ha (fun a=>?_) (fun _=>?_)
        ·show e.Version∈_;rw [h5];exact h.hr.resolve_left h4
        ·exact absurd a (by show e.Version≠0;omega)
        ·show m.act≠e.Version;rw [h5];exact (h.rn h4).symm
     ·split
      ·unfold ji3;split
       ·exact h
       ·split
        ·split
         ·exact jk9 h.kn h.bd h.hb (.inl rfl) (fun _=>rfl) fun a=>a.symm
         ·rename_i h3;exact ⟨h.kn,h.bd,h.yn,h.yb,h.hb,.inl rfl,h.hr,fun _=>rfl,fun a=>a.symm,fun _=>h3,h.rz⟩
        ·exact jk9 h.kn h.bd h.ha h.hb h.ab h.an
      ·exact h
end Go.Y
namespace Go.Y
open Go.RowKit Go.V Go.X Go.Proofs
def ge2 (l:List Entry): ∃b,qs BIG l=some b/\(b=true->l.length<=100/\ ∀e∈l,e.Data.length<6000):=by
 have key: ∀(m n i x:Nat),i<=l.length->6000<=x+m->x<=20000/\i<=x-> ∃b,ka3 (n+2*m+2) l (x:Int) (i:Int)=some b/\(b=true->x<6000/\l.length<=100/\ ∀j (h:j<l.length),i<=j->l[j].Data.length<6000):=by
  have stop: ∀(n i x:Nat),∃b,ka2 (n+1) l (x:Int) (i:Int) false=some b/\(b=true->x<6000/\l.length<=100):=by
   intro n i x;rw [qq5,z6,za1];by_cases h:((l.length:Nat):Int)<=100
   ·rw [if_pos (W4 h)];exact ⟨_,rfl,fun hb=>by rw [decide_eq_true_eq] at hb;omega⟩
   ·rw [if_neg (by simpa using h)];exact ⟨_,rfl,fun hb=>by cases hb⟩
  intro m;induction m with
  |zero=>
   intro n i x hi hx hx2;rw [qq6];obtain ⟨b,h1,h2⟩:=stop n i x;have e:decide ((x:Int)<6000)=false:=W5 (by omega);rw [e,za1,ite_self];exact ⟨b,h1,fun hb=>absurd (h2 hb).1 (by omega)⟩
  |succ m ih=>
   intro n i x hi hx hx2;rw [show n+2*(m+1)+2=(n+2*m+2)+1+1 by omega,qq6,za1];by_cases h1:(i:Int)<((l.length:Nat):Int)
   ·rw [if_pos (W4 h1)];by_cases h2:(x:Int)<6000
    ·rw [W4 h2,qq5,j7,if_pos (by omega)];have hil:i<l.length:=by omega
     have hg:l.getD (i:Int).toNat jd0=l[i]:=by rw [Y2,show (i:Int).toNat=i by omega,Y0 hil];rfl
     have hm:gd5 ((l[i].Data.length:Nat):Int) 6000=((min l[i].Data.length 6000:Nat):Int):=by unfold gd5;split<;>omega
     rw [hg,hm,zb6 (x:=(x:Int)+1) (by omega),zb6 (by omega),zb6 (x:=(i:Int)+1) (by omega)];obtain ⟨b,h3,h4⟩:=ih n (i+1) (x+1+min l[i].Data.length 6000) (by omega) (by omega) (by omega);have e1:(x:Int)+1+((min l[i].Data.length 6000:Nat):Int)=((x+1+min l[i].Data.length 6000:Nat):Int):=by omega
     have e2:(i:Int)+1=((i+1:Nat):Int):=by omega
     rw [e1,e2];refine ⟨b,h3,fun hb=>?_⟩;obtain ⟨k1,k2,k3⟩:=h4 hb;refine ⟨by omega,k2,fun j hj hij=>?_⟩;by_cases he:i=j
     ·subst he;omega
     ·exact k3 j hj (by omega)
    ·rw [W5 h2];obtain ⟨b,h3,h4⟩:=stop (n+2*m+2) i x;exact ⟨b,h3,fun hb=>absurd (h4 hb).1 (by omega)⟩
   ·rw [if_neg (by simpa using h1)];obtain ⟨b,h3,h4⟩:=stop (n+2*m+2) i x;exact ⟨b,h3,fun hb=>⟨(h4 hb).1,(h4 hb).2,fun j hj hij=>by omega⟩⟩
 rw [ud6];obtain ⟨b,h1,h2⟩:=key 6000 (1000000000-12002) 0 0 (U3 _) (by omega) (by omega);refine ⟨b,h1,fun hb=>?_⟩;obtain ⟨_,k2,k3⟩:=h2 hb;refine ⟨k2,fun e he=>?_⟩;obtain ⟨j,hj,rfl⟩:=List.getElem_of_mem he;exact k3 j hj (U3 _)
end Go.Y
namespace Go.Y
open Go.RowKit Go.V Go.X Go.Proofs
abbrev pml (L:List Int) (m:Mc):(Int×Unit×Int×Int×Int×Unit×Bool×Unit)×List (Int×List Int)×List (Int×Bool)×List Int×Unit:=((m.sv,(),m.act,m.bef,m.roll,(),m.no,()),m.held,m.yes,L,())
def ue8 (L:List Int) (m:Mc) (e:Entry) (h:e.Data.length<=1000000) (hL:e.Data.length<=L.length) (hd:List.take e.Data.length (List.drop 0 L)=e.Data):qat BIG m.sv m.held m.act m.bef m.roll m.yes m.no e.Term e.Kind e.Version e.Server e.Good L 0 e.Data.length=some (pml L (qa8 m e).1,((qa8 m e).2,())):=by
 have hJ: ∀c,qf1 BIG c m.sv m.act m.bef m.roll m.no m.held m.yes L e.Term e.Kind e.Version e.Server e.Good 0 e.Data.length=if c=true then some (pml L m,((7:Int),())) else some (pml L {m with held:=zh5 m.held e.Version e.Data},((0:Int),())):=by
  intro c;rw [show BIG=999999999+1 from rfl,vs7,if_pos (by omega),hd,jy6 _ h,j6,za1]
 rw [wf2];simp only [if_pos (show 0+e.Data.length<=L.length by omega),hd];rw [yl0,j6,vn5 _ _ h,j6,(gb6 _ _ h:qu BIG (jb8 TT (.list (.int .u8)) m.held e.Version) e.Data=some (decide (zx7 m.held e.Version=e.Data))),j6,hJ,hJ];unfold qa8;cases inB e.Version 1073741824 with
 |false=>rfl
 |true=>
  cases bdP e.Version e.Data with
  |false=>rfl
  |true=>
   show j9 (zq2 m.held e.Version) _ _=_;have e0: ∀x y:Mc×Int,(if true=false then x else y)=y:=fun x y=>if_neg (by simp);rw [e0,e0];cases zq2 m.held e.Version with
   |false=>rfl
   |true=>
    rw [j7];by_cases hd:zx7 m.held e.Version=e.Data
    ·rw [W4 hd,if_neg (by simp),if_neg (fun hh=>hh.2 hd)]
    ·rw [W5 hd,if_pos (show (!false)=true from rfl),if_pos ⟨rfl,hd⟩]
def wt1 (L:List Int) (m:Mc) (e:Entry):qce BIG m.sv m.held m.act m.bef m.roll m.yes m.no e.Term e.Kind e.Version e.Server e.Good L 0 e.Data.length=some (pml L (kc4 m e).1,((kc4 m e).2,())):=by
 rw [wk3];unfold kc4;cases zq2 m.held e.Version with
 |false=>rfl
 |true=>
  rw [show (!true)=false from rfl,z6,if_neg (by simp)];by_cases h1:m.roll=0
  ·rw [show (m.roll != 0)=false by simpa using h1,z6,if_neg (fun h=>h h1)];by_cases h2:e.Version=m.act
   ·rw [show (e.Version==m.act)=true by simpa using h2,j7,if_pos h2]
   ·rw [show (e.Version==m.act)=false by simpa using h2,z6,if_neg h2]
  ·rw [show (m.roll != 0)=true by simpa using h1,j7,if_pos h1]
def wq7 (L:List Int) (m:Mc) (e:Entry):qas BIG m.sv m.held m.act m.bef m.roll m.yes m.no e.Term e.Kind e.Version e.Server e.Good L 0 e.Data.length=some (pml L (yr8 m e).1,((yr8 m e).2,())):=by
 have hJ: ∀c,qf0 BIG c m.sv m.act m.bef m.roll m.no m.held m.yes L e.Term e.Kind e.Version e.Server e.Good 0 e.Data.length=if c=true then some (pml L m,((6:Int),())) else if inB e.Server m.sv=false then some (pml L m,((2:Int),())) else if e.Good=true then some (pml L {m with yes:=zh5 m.yes e.Server true},((0:Int),())) else some (pml L {m with no:=true},((0:Int),())):=by
  intro c;rw [show BIG=999999999+1 from rfl,vs6,yl0,j6];generalize inB e.Server m.sv=b;generalize e.Good=g;cases c<;>cases b<;>cases g<;>rfl
 rw [wf0,hJ,hJ,za1];by_cases h1:e.Version<1
 ·rw [if_pos (W4 h1),if_pos rfl,show yr8 m e=(m,6) from if_pos (.inl h1)]
 ·rw [if_neg (by simpa using h1)];by_cases h2:e.Version=m.roll
  ·rw [show (e.Version != m.roll)=false by simpa using h2,if_neg (show ¬(false=true) by simp),show yr8 m e=_ from if_neg (by rintro (h|h);exact h1 h;exact h h2)];by_cases hb:inB e.Server m.sv=false
   ·rw [if_pos hb,if_pos hb]
   ·rw [if_neg hb,if_neg hb];by_cases hg:e.Good=true
    ·rw [if_pos hg,if_pos hg]
    ·rw [if_neg hg,if_neg hg]
  ·rw [show (e.Version != m.roll)=true by simpa using h2,if_pos rfl,show yr8 m e=(m,6) from if_pos (.inr h2)]
def wq9 (L:List Int) (m:Mc) (e:Entry):qz BIG m.sv m.held m.act m.bef m.roll m.yes m.no e.Term e.Kind e.Version e.Server e.Good L 0 e.Data.length=some (pml L (jy3 m e).1,((jy3 m e).2,())):=by
 have hJ1: ∀c,ka9 999999999 c m.sv m.act m.bef m.roll m.no m.held m.yes L e.Term e.Kind e.Version e.Server e.Good 0 e.Data.length=if c=true then some (pml L m,((8:Int),())) else some (pml L (yg6 {m with bef:=m.act,act:=e.Version}),((0:Int),())):=by
  intro c;rw [show (999999999:Nat)=999999998+1 from rfl,kl1,za1,vc4];rfl
 have hJ: ∀c,ka8 BIG c m.sv m.act m.bef m.roll m.no m.held m.yes L e.Term e.Kind e.Version e.Server e.Good 0 e.Data.length=if c=true then some (pml L m,((6:Int),())) else if m.no=true\/(m.yes.length:Int)<m.sv then some (pml L m,((8:Int),())) else some (pml L (yg6 {m with bef:=m.act,act:=e.Version}),((0:Int),())):=by
  intro c;rw [show BIG=999999999+1 from rfl,kl0,hJ1,hJ1,za1,za1,if_pos rfl];congr 1;by_cases h1:m.no=true
  ·rw [if_pos h1,if_pos (.inl h1)]
  ·rw [if_neg h1];by_cases h2:(m.yes.length:Int)<m.sv
   ·rw [if_pos (W4 h2),if_pos (.inr h2)]
   ·rw [if_neg (by simpa using h2),if_neg (by rintro (h|h);exact h1 h;exact h2 h)]
 rw [ue6,hJ,hJ,za1];by_cases h1:e.Version<1
 ·rw [if_pos (W4 h1),if_pos rfl,show jy3 m e=(m,6) from if_pos (.inl h1)]
 ·rw [if_neg (by simpa using h1)];by_cases h2:e.Version=m.roll
  ·rw [show (e.Version != m.roll)=false by simpa using h2,if_neg (show ¬(false=true) by simp),show jy3 m e=_ from if_neg (by rintro (h|h);exact h1 h;exact h h2)];by_cases hb:m.no=true\/(m.yes.length:Int)<m.sv
   ·rw [if_pos hb,if_pos hb]
   ·rw [if_neg hb,if_neg hb]
  ·rw [show (e.Version != m.roll)=true by simpa using h2,if_pos rfl,show jy3 m e=(m,6) from if_pos (.inr h2)]
def uf1 (L:List Int) (m:Mc) (e:Entry):qan BIG m.sv m.held m.act m.bef m.roll m.yes m.no e.Term e.Kind e.Version e.Server e.Good L 0 e.Data.length=some (pml L (ji3 m e).1,((ji3 m e).2,())):=by
 have hJ: ∀c,jo9 BIG c m.sv m.act m.bef m.roll m.no m.held m.yes L e.Term e.Kind e.Version e.Server e.Good 0 e.Data.length=if c=true then some (pml L m,((6:Int),())) else
   if e.Version=m.act then (if m.roll=m.bef then some (pml L (yg6 {m with act:=m.bef,bef:=0}),((0:Int),())) else some (pml L {m with act:=m.bef,bef:=0},((0:Int),()))) else some (pml L (yg6 m),((0:Int),())):=by
  intro c;rw [show BIG=999999999+1 from rfl,vs3,vc4,vc4,za1,za1,za1];congr 1;by_cases h1:e.Version=m.act
  ·rw [if_pos (by simpa using h1),if_pos h1];by_cases h2:m.roll=m.bef
   ·rw [if_pos (by simpa using h2),if_pos h2];rfl
   ·rw [if_neg (by simpa using h2),if_neg h2]
  ·rw [if_neg (by simpa using h1),if_neg h1];rfl
 rw [we3,hJ,hJ,hJ,za1,za1];by_cases h1:e.Version<1
 ·rw [if_pos (W4 h1),if_pos rfl,show ji3 m e=(m,6) from if_pos (.inl h1)]
 ·rw [if_neg (by simpa using h1)];have fin: ¬(e.Version<1\/(e.Version≠m.roll/\e.Version≠m.act))->(if e.Version=m.act then (if m.roll=m.bef then some (pml L (yg6 {m with act:=m.bef,bef:=0}),((0:Int),())) else some (pml L {m with act:=m.bef,bef:=0},((0:Int),()))) else some (pml L (yg6 m),((0:Int),())))=some (pml L (ji3 m e).1,((ji3 m e).2,())):=by
   intro hn;rw [show ji3 m e=_ from if_neg hn];by_cases ha:e.Version=m.act
   ·rw [if_pos ha,if_pos ha];by_cases hb:m.roll=m.bef
    ·rw [if_pos hb,if_pos hb]
    ·rw [if_neg hb,if_neg hb]
   ·rw [if_neg ha,if_neg ha]
  have n1: ¬(false=true):=by simp
  by_cases h2:e.Version=m.roll
  ·rw [if_neg (by simpa using h2),if_neg n1];exact fin (by rintro (h|h);exact h1 h;exact h.1 h2)
  ·rw [if_pos (by simpa using h2)];by_cases h3:e.Version=m.act
   ·rw [show (e.Version != m.act)=false by simpa using h3,if_neg n1];exact fin (by rintro (h|h);exact h1 h;exact h.2 h3)
   ·rw [show (e.Version != m.act)=true by simpa using h3,if_pos rfl,show ji3 m e=(m,6) from if_pos (.inr ⟨h2,h3⟩)]
def wr0 (L:List Int) (m:Mc) (e:Entry) (hs:0<m.sv) (h:e.Data.length<=1000000) (hL:e.Data.length<=L.length) (hd:List.take e.Data.length (List.drop 0 L)=e.Data):qcc BIG m.sv m.held m.act m.bef m.roll m.yes m.no e.Term e.Kind e.Version e.Server e.Good L 0 e.Data.length=some (pml L (yb7 m e).1,((yb7 m e).2,())):=by
 rw [wj9,qe7,W4 hs,j6];dsimp only;rw [show (!true)=false from rfl,z6,wm1,ue8 L m e h hL hd,wt1,wq7,wq9,uf1];unfold yb7;split
 ·rfl
 ·split
  ·rfl
  ·split
   ·rfl
   ·split
    ·rfl
    ·split
     ·rfl
     ·split<;>rfl
end Go.Y
namespace Go.Y
open Go.RowKit Go.V Go.X Go.Proofs
def vx8 (k:Nat):Int:=IntKind.u8.wrap (je4 .u64 (IntKind.u64.wrap ((IntKind.u64.wrap (IntKind.i64.wrap (8000024+(k:Int))))*(11400714819323198485:Int))) (56:Int))
def jg5 (k:Nat):qag BIG 1 (k:Int)=some (vx8 k):=by
 rw [vc3,qf2];rfl
def marksB:List Int:=(List.range 12).map vx8
def vp7 (l:List Int) (h:l.length<=1000000):qae BIG l=some ((),((l++marksB,0,l.length),())):=by
 rw [wd3,zb6 (by omega),if_pos (by omega),if_pos (by simp;omega)];have:=jq9 (fun n k=>yt9 n l (k:Int) (l++(List.range k).map vx8)) 1 12 (some ((),((l++marksB,0,l.length),()))) (fun n k hk=>?_) (fun n=>?_) BIG (by decide)
 ·simpa using this
 ·show yt9 (n+1) l (k:Int) _=yt9 n l ((k+1:Nat):Int) _;rw [jv4,W4 (by omega),j7,jg5,j6,if_pos (by simp;omega),nx (len:=12) hk (by omega),Q2,List.range_succ,J3];rfl
 ·show yt9 (n+1) l ((12:Nat):Int) _=_;rw [jv4,W5 (by omega),z6,if_pos ⟨by omega,by omega,by rw [X9];omega⟩];simp [marksB]
def vp1 (l:List Int) (h:l.length<=1000000):qj BIG (l++marksB) 0 l.length l=some ((l++marksB,()),(true,())):=by
 have hm:marksB.length=12:=rfl;rw [uc3,zb6 (by omega),show (((l.length:Nat):Int) != ((l.length:Nat):Int))=false by simp,z6,if_pos (by rw [X9,hm];omega)];rw [show (((l.length:Nat):Int)+12).toNat-0=l.length+12 by omega];refine jq9 (fun n k=>jh5 n l 0 (l.length+12) (k:Int) (l++marksB)) 2 (l.length+12) _ (fun n k hk=>?_) (fun n=>?_) BIG (by unfold BIG;omega)
 ·show jh5 (n+1+1) l 0 (l.length+12) (k:Int) (l++marksB)=jh5 n l 0 (l.length+12) ((k+1:Nat):Int) (l++marksB);have e: ∀b,jr4 (n+1) l 0 (l.length+12) (k:Int) b (l++marksB)=if b=true then some ((l++marksB,()),(false,())) else jh5 n l 0 (l.length+12) ((k+1:Nat):Int) (l++marksB):=by
   intro b;rw [kk2,nx hk (by omega),za1]
  have hk2:0+(k:Int).toNat<(l++marksB).length:=by rw [X9,hm];omega
  rw [qp5,W4 (by omega),j7];by_cases hkl:k<l.length
  ·rw [W4 (by omega),j7,if_pos (by omega),if_pos hk2,if_pos (by omega)];have:(l++marksB).getD (0+(k:Int).toNat) 0=l.getD (k:Int).toNat 0:=by
    rw [W8,Y2,Y2,X8 (by omega)]
   rw [this];simp only [beq_self_eq_true,M8,z6];rw [W5 (by omega),z6,e,if_neg (by simp)]
  ·rw [W5 (by omega),z6,W4 (by omega),j7,if_pos (by omega),if_pos hk2,zb6 (by omega),show ((k:Int)-(l.length:Int))=((k-l.length:Nat):Int) by omega,jg5,j6];have:(l++marksB).getD (0+(k:Int).toNat) 0=vx8 (k-l.length):=by
    rw [W8,Y2,Z2 (by omega),show (k:Int).toNat=k by omega];unfold marksB;rw [W2,List.getElem?_range (by omega)];rfl
   rw [this];simp only [beq_self_eq_true,M8];rw [e,if_neg (by simp)]
 ·show jh5 (n+1) l 0 (l.length+12) ((l.length+12:Nat):Int) (l++marksB)=_;rw [qp5,W5 (by omega),z6]
def kb1 (a b:List Int) (h:b.length<=1000000):ql BIG a b=some (decide (a=b)):=by
 rw [uc6];by_cases hl:a.length=b.length
 ·rw [show (((a.length:Nat):Int) != ((b.length:Nat):Int))=false by simp;omega,z6];have key:=kx4 (fun n k=>jh6 n a b (k:Int)) 1 a.length (fun k=>some (decide (a.drop k=b.drop k))) (fun n k hk=>?_) (fun n=>?_) a.length 0 BIG (by omega) (by show 1*a.length+1<=1000000000;omega)
  ·simpa using key
  ·show jh6 (n+1) a b (k:Int)=_\/(jh6 (n+1) a b (k:Int)=jh6 n a b ((k+1:Nat):Int)/\_);rw [qp7,W4 (by omega),j7,if_pos (by omega),if_pos (by omega),nx hk (by omega)];have ha:a.drop k=a[k]::a.drop (k+1):=V8 hk;have hb:b.drop k=b[k]::b.drop (k+1):=V8 (by omega);have ga:a.getD (k:Int).toNat 0=a[k]:=by rw [Y2,show (k:Int).toNat=k by omega,Y0 hk];rfl
   have gb:b.getD (k:Int).toNat 0=b[k]:=by rw [Y2,show (k:Int).toNat=k by omega,Y0 (by omega)];rfl
   rw [ga,gb,ha,hb];by_cases he:a[k]=b[k]
   ·right;rw [show (a[k] != b[k])=false by simpa using he,z6];refine ⟨rfl,?_⟩;congr 1;rw [decide_eq_decide,he];exact ⟨fun h=>(List.cons.inj h).2,fun h=>by rw [h]⟩
   ·left;rw [show (a[k] != b[k])=true by simpa using he,j7];congr 1
    symm
    rw [decide_eq_false_iff_not];exact fun h=>he (List.cons.inj h).1
  ·show jh6 (n+1) a b ((a.length:Nat):Int)=_;rw [qp7,W5 (by omega),z6,M4 (W6 _),M4 (by omega)];rfl
 ·rw [show (((a.length:Nat):Int) != ((b.length:Nat):Int))=true by simp;omega,j7,W5 (fun e=>hl (by rw [e]))]
def qi5 (l:List Int) (h:l.length<=1000000): ∃y,qak BIG (l++marksB) 0 l.length=some y:=by
 have hm:marksB.length=12:=rfl;rw [wd8,zb6 (by omega),if_pos (by rw [X9,hm];omega),show (((l.length:Nat):Int)+12).toNat-0=l.length+12 by omega];have key: ∀(m k n:Nat) (r:List Int),k+m=l.length+12->r.length=l.length+12-> ∃y,qe8 (n+m+1) 0 (l.length+12) (k:Int) r=some y:=by
  intro m;induction m with
  |zero=>
   intro k n r hk hr;rw [jv6,W5 (by omega),z6];exact ⟨_,rfl⟩
  |succ m ih=>
   intro k n r hk hr;have hmk: ∃x,qag BIG 2 (k:Int)=some x:=by rw [vc3,qf2];exact ⟨_,rfl⟩
   obtain ⟨x,hx⟩:=hmk;rw [show n+(m+1)+1=(n+m+1)+1 by omega,jv6,W4 (by omega),j7,hx,j6,if_pos (by omega),if_pos (by omega),zb6 (x:=(k:Int)+1) (by omega),show (k:Int)+1=((k+1:Nat):Int) by omega];exact ih (k+1) n _ (by omega) (by rw [Q1,hr])
 obtain ⟨y,hy⟩:=key (l.length+12) 0 (999999987-l.length) (l++marksB) (by omega) (by rw [X9,hm]);rw [show (BIG:Nat)=999999987-l.length+(l.length+12)+1 by unfold BIG;omega];exact ⟨y,hy⟩
def yi5:yc7:=(8000024,0,0,0,false,[],8000025,0,0,0,false,[],8000026,0,0,0,false,[],8000027,0,0,0,false,[],8000028,0,0,0,false,[],8000029,0,0,0,false,[],8000030,0,0,0,false,[],8000031,0,0,0,false,[],8000032,0,0,0,false,[],8000033,0,0,0,false,[],8000034,0,0,0,false,[],8000035,0,0,0,false,[],())
def ws8:yc7:=(9000028,0,0,0,false,[],9000029,0,0,0,false,[],9000030,0,0,0,false,[],9000031,0,0,0,false,[],9000032,0,0,0,false,[],9000033,0,0,0,false,[],9000034,0,0,0,false,[],9000035,0,0,0,false,[],9000036,0,0,0,false,[],9000037,0,0,0,false,[],9000038,0,0,0,false,[],9000039,0,0,0,false,[],())
def ge1 (e:Entry):qcy BIG [e]=q9 (qcj BIG e) fun y=>some ((),((y.2.1.1,y.2.1.2.1,y.2.1.2.2.1,y.2.1.2.2.2.1,y.2.1.2.2.2.2.1,y.2.1.2.2.2.2.2.1,yi5),())):=by kernel_rfl
def gd8 (x0 x1 x2 x3:Int) (x4:Bool) (x5:List Int) (x6 x7:Nat) (e:Entry):qcx BIG ((x0,x1,x2,x3,x4,(x5,x6,x7),yi5),[e],())=q9 (qbv BIG x0 x1 x2 x3 x4 x5 x6 x7 e) fun y=>j9 (!y.2.1) (some (((x0,x1,x2,x3,x4,(x6,x7),yi5),y.1.1,()),(false,()))) (some (((x0,x1,x2,x3,x4,(x6,x7),yi5),y.1.1,()),(true,()))):=by kernel_rfl
def gf6 (x0 x1 x2 x3:Int) (x4:Bool) (x5:List Int) (x6 x7:Nat) (p:yc7):qcz BIG ((x0,x1,x2,x3,x4,(x5,x6,x7),p),())=q9 (qck BIG x0 x1 x2 x3 x4 x5 x6 x7) fun y=>some (((9000027,0,0,0,false,[],ws8),y.1.1,()),()):=by kernel_rfl
def gy9 (e:Entry) (h:e.Data.length<=1000000):qbb BIG e e=some true:=by
 rw [wf8];simp only [beq_self_eq_true,j7];rw [kb1 _ _ h,j6,W4 rfl]
def qh8 (e:Entry) (h:e.Data.length<=1000000):zm9 [e]=some ((),((e.Term,e.Kind,e.Version,e.Server,e.Good,(e.Data++marksB,0,e.Data.length),yi5),())):=by
 show qcy BIG [e]=_;rw [ge1,wl3,vp7 _ h,j6,j6]
def vp2 (e:Entry) (h:e.Data.length<=1000000):qbv BIG e.Term e.Kind e.Version e.Server e.Good (e.Data++marksB) 0 e.Data.length e=some ((e.Data++marksB,()),(true,())):=by
 rw [wi4,if_pos (by rw [X9];omega),J9,R8 rfl,gy9 e h,j6,j7,vp1 _ h,j6]
def qh6 (e:Entry) (h:e.Data.length<=1000000):zm8 (e.Term,e.Kind,e.Version,e.Server,e.Good,(e.Data++marksB,0,e.Data.length),yi5) [e]=some (((e.Term,e.Kind,e.Version,e.Server,e.Good,(0,e.Data.length),yi5),e.Data++marksB,()),(true,())):=by
 show qcx BIG ((e.Term,e.Kind,e.Version,e.Server,e.Good,(e.Data++marksB,0,e.Data.length),yi5),[e],())=_;rw [gd8,vp2 e h,j6];rfl
def jo5 (l:List Int) (h:l.length<=1000000) (x0 x1 x2 x3:Int) (x4:Bool) (p:yc7): ∃y,qcz BIG ((x0,x1,x2,x3,x4,(l++marksB,0,l.length),p),())=some y:=by
 obtain ⟨z,hz⟩:=qi5 l h;rw [gf6,wl5,hz,j6,j6];exact ⟨_,rfl⟩
end Go.Y
