import Derived.Test.YthhhfnfgmijggaaGreatX10
namespace Go.X
open Go.RowKit Go.V
section
variable (T:Tab)
def Ent.ren {U:Nat->Type} (ρ:Nat->Nat):Ent U->Ent U
 | .blk e cs=>.blk e (zj5 ρ cs)
 | .row e t xs=>.row e t xs
 | .map k es=>.map k (qd8 ρ es)
 | .tmap k t m=>.tmap k t m
 | .drow e d fe xs op=>.drow e d fe xs (kj8 ρ op)
 | .gone=>.gone
def yb2 (F:AF T):List Nat->AF T
 | []=> []
 |i::r=>match F.get T i with|some a=>(i,a)::yb2 F r|none=>yb2 F r
def ve9:AF T->List Nat
 | []=> []
 |(_,a)::r=>a.ids++ve9 r
def kj3 (H:List (Ent T.U)):List Nat->List Nat
 | []=> []
 |i::r=>match H[i]? with|some e=>e.cellIds++kj3 H r|none=>kj3 H r
def vn1 (H:List (Ent T.U)):Nat->List Nat->List Nat
 |0,l=>l
 |n+1,l=>let l':=vp5 l (kj3 T H l);match Nat.beq l'.length l.length with|true=>l|false=>vn1 H n l'
def ze7 (H:List (Ent T.U)) (ρ:Nat->Nat):List Nat->List (Ent T.U)
 | []=> []
 |i::r=>match H[i]? with|some e=>e.ren ρ::ze7 H ρ r|none=>.gone::ze7 H ρ r
def ga1 (ρ:Nat->Nat):AF T->AF T
 | []=> []
 |(i,a)::r=>(i,a.ren ρ)::ga1 ρ r
def wa4 (l:List Nat):List Nat->Bool| []=>true|i::r=>yb5 i l&&wa4 l r
structure Cut where
 l:List Nat
 nils:List (Nat×TypeId×Ty)
 whole:Bool
 bn:List (Nat×Nat×TypeId×Ty)
 dz:Nat
 inl:Bool
abbrev gy2:Nat:=4000000000
abbrev ke4:Nat:=4000000001
def ze9:List (Nat×Nat×TypeId×Ty)->List (Ent T.U)->List (Ent T.U)
 | [],H=>H
 |(i,c,e,t)::r,H=>match Nat.beq e ke4 with
  |true=>ze9 r (closeL T (List.range H.length) H)
  |false=>match H[i]? with
  |some (.blk e0 cs)=>match cs[c]? with
   |some (.raw (.slice none 0 0))=>ze9 r (H.set i (.blk e0 (cs.set c (.own H.length)))++ [.row e t []])
   |some (.own k)=>match Nat.beq e gy2 with
    |true=>match H[k]? with
     |some (.row _ t' xs)=>ze9 r (H.set i (.blk e0 (cs.set c (.sl k (szT T t') 0 xs.length))))
     |_=>ze9 r H
    |false=>ze9 r H
   |_=>ze9 r H
  |_=>ze9 r H
def yx7:List (Nat×TypeId×Ty)->St T->St T
 | [],st=>st
 |(s,e,t)::r,st=>match st.F.get T s with
  |some (.raw (.slice none 0 0))=>yx7 r ⟨(s,.own st.H.length)::st.F,st.H++ [.row e t []]⟩
  |_=>yx7 r st
def gi2 (m:Nat) (ids:List Nat):Bool:=(List.range m).all fun k=>match ids[k]? with|some j=>Nat.beq j k|none=>false
def wj1 (m:Nat) (l:List Nat) (st:St T):Option (St T):=
 let F1:=yb2 T st.F l
 let ids:=vn1 T st.H (st.H.length+1) (vp5 (List.range m) (ve9 T F1))
 match gi2 m ids&&(zd6 ids&&(ids.all (fun i=>Nat.blt i st.H.length)&&(wa4 ids (ve9 T F1)&&wa4 ids (kj3 T st.H ids)))) with
 |true=>some ⟨ga1 T (fun i=>vg7 i ids) F1,ze7 T st.H (fun i=>vg7 i ids) ids⟩
 |false=>none
end
section
variable {T:Tab}
theorem yz4 {l:List Nat}: ∀ {m:List Nat},wa4 l m=true-> ∀i∈m,i∈l
 | [],_,i,h=>by cases h
 |j::r,h,i,hi=>by
  unfold wa4 at h;simp only [X3] at h;rcases Z0.1 hi with rfl|hi
  ·exact zc5.1 h.1
  ·exact yz4 h.2 i hi
theorem yz6 {F:AF T} {i:Nat} {a:AV T.U}: ∀ {l:List Nat},(yb2 T F l).get T i=some a->F.get T i=some a
 | [],h=>by simp [yb2,AF.get] at h
 |j::r,h=>by
  unfold yb2 at h;split at h
  ·rename_i u hu;simp only [AF.get] at h;split at h
   ·rename_i hb;have:=X1 hb;subst this;rw [hu];exact h
   ·exact yz6 h
  ·exact yz6 h
theorem yv3 {i:Nat} {a:AV T.U}: ∀ {F:AF T},F.get T i=some a-> ∀j∈a.ids,j∈ve9 T F
 | [],h,_,_=>by simp [AF.get] at h
 |(k,b)::r,h,j,hj=>by
  simp only [AF.get] at h;unfold ve9;split at h
  ·simp only [X0] at h;subst h;exact X4.2 (.inl hj)
  ·exact X4.2 (.inr (yv3 h j hj))
theorem jm7 {ρ:Nat->Nat} {i:Nat} {b:AV T.U}: ∀ {F:AF T},(ga1 T ρ F).get T i=some b-> ∃a,F.get T i=some a/\b=a.ren ρ
 | [],h=>by simp [ga1,AF.get] at h
 |(k,c)::r,h=>by
  simp only [ga1,AF.get] at h⊢;split at h
  ·simp only [X0] at h;exact ⟨c,rfl,h.symm⟩
  ·exact jm7 h
theorem zk7 {H:List (Ent T.U)} {ρ:Nat->Nat} {j:Nat} {e:Ent T.U}: ∀ {l:List Nat},(ze7 T H ρ l)[j]?=some e-> ∃i,l[j]?=some i/\((∃e0,H[i]?=some e0/\e=e0.ren ρ)\/e=.gone)
 | [],h=>by simp [ze7] at h
 |i::r,h=>by
  unfold ze7 at h;split at h
  ·rename_i e0 he;cases j with
   |zero=>simp at h;exact ⟨i,rfl,.inl ⟨e0,he,h.symm⟩⟩
   |succ j=>simp at h;simpa using zk7 h
  ·cases j with
   |zero=>simp at h;exact ⟨i,rfl,.inr h.symm⟩
   |succ j=>simp at h;simpa using zk7 h
theorem yf0 {H:List (Ent T.U)} {ρ:Nat->Nat}: ∀(l:List Nat),(ze7 T H ρ l).length=l.length
 | []=>rfl
 |i::r=>by unfold ze7;split<;>simp [yf0 r]
theorem yo4 {H:List (Ent T.U)} {i:Nat} {e:Ent T.U} (he:H[i]?=some e): ∀ {l:List Nat},i∈l-> ∀j∈e.cellIds,j∈kj3 T H l
 | [],h,_,_=>by cases h
 |k::r,h,j,hj=>by
  unfold kj3;rcases Z0.1 h with rfl|h
  ·rw [he];exact X4.2 (.inl hj)
  ·split
   ·exact X4.2 (.inr (yo4 he h j hj))
   ·exact yo4 he h j hj
mutual
theorem jh8 {U:Nat->Type} {ρ:Nat->Nat}: ∀a:AV U,(a.ren ρ).ids=a.ids.map ρ
 | .cell _=>by rw [AV.ren];rfl
 | .ptr _ _=>by rw [AV.ren];rfl
 | .eptr _ _ _ _=>by rw [AV.ren];rfl
 | .lptr _ _ _ _=>by rw [AV.ren];rfl
 | .own _=>by rw [AV.ren];rfl
 | .sl _ _ _ _=>by rw [AV.ren];rfl
 | .agg cs=>by rw [AV.ren,AV.ids,AV.ids,zr4 cs]
 | .tup cs=>by rw [AV.ren,AV.ids,AV.ids,zr4 cs]
 | .fn _ a b=>by rw [AV.ren,AV.ids,AV.ids,zr4 a,zr4 b,List.map_append]
 | .ifc _ a=>by rw [AV.ren,AV.ids,AV.ids,jh8 a]
 | .raw _=>by rw [AV.ren];rfl
 | .arr _ _ _=>by rw [AV.ren];rfl
 | .aptr _ _ _ _ _ _=>by rw [AV.ren];rfl
 | .asl _ _ _ _ _ _=>by rw [AV.ren];rfl
 | .mp _=>by rw [AV.ren];rfl
theorem zr4 {U:Nat->Type} {ρ:Nat->Nat}: ∀l:List (AV U),w9 (zj5 ρ l)=(w9 l).map ρ
 | []=>rfl
 |a::r=>by rw [zj5,w9,w9,jh8 a,zr4 r,List.map_append]
end
theorem qm5 {U:Nat->Type} {ρ:Nat->Nat}: ∀l:List (Int×AV U),idsM (qd8 ρ l)=(idsM l).map ρ
 | []=>rfl
 |(x,a)::r=>by rw [qd8,idsM,idsM,jh8 a,qm5 r,List.map_append]
theorem kq4 {U:Nat->Type} {ρ:Nat->Nat} (op:Option (Nat×List (AV U))):wf3 (kj8 ρ op)=(wf3 op).map ρ:=by
 cases op with
 |none=>rfl
 |some p=>obtain ⟨a,cs⟩:=p;exact zr4 cs
theorem Ent.ren_cellIds {U:Nat->Type} {ρ:Nat->Nat} (e:Ent U):(e.ren ρ).cellIds=e.cellIds.map ρ:=by cases e<;>first|rfl|exact zr4 _|exact qm5 _|exact kq4 _
theorem Ent.ren_live {U:Nat->Type} {ρ:Nat->Nat} (e:Ent U):(e.ren ρ).live=e.live:=by cases e<;>rfl
theorem Sim.renum {w0:World} {S0:Ow} {F F1:AF T} {H:List (Ent T.U)} {F':PF} {w:World} {S:List Nat} {φ:Nat->RA} (h:Sim T w0 S0 ⟨F,H⟩ F' w S φ) (ids:List Nat) (hF: ∀i a,F1.get T i=some a->F.get T i=some a)
  (hn:zd6 ids=true) (hp: ∀k,k<S0.pin.length->ids[k]?=some k) (h1: ∀i∈ve9 T F1,i∈ids) (h2: ∀i∈kj3 T H ids,i∈ids):
  Sim T w0 S0 ⟨ga1 T (fun i=>vg7 i ids) F1,ze7 T H (fun i=>vg7 i ids) ids⟩ F' w S (fun j=>φ (ids.getD j 0)):=by
 have hρ: ∀i∈ids,φ (ids.getD (vg7 i ids) 0)=φ i:=by
  intro i hi;rw [Y2,(yc4 hi).2];rfl
 have hd: ∀ {j i:Nat},ids[j]?=some i->φ (ids.getD j 0)=φ i:=by
  intro j i hj;rw [Y2,hj];rfl
 refine ⟨?_,?_,h.chg,h.own,h.ex,?_,fun k r hk=>?_,?_,?_,?_⟩
 ·intro i b hb;obtain ⟨a,ha,rfl⟩:=jm7 hb;obtain ⟨v,h3,h4⟩:=h.fr i a (hF i a ha);exact ⟨v,h3,h4.ren T fun j hj=>hρ j (h1 j (yv3 ha j hj))⟩
 ·intro i b hb;obtain ⟨a,ha,rfl⟩:=jm7 hb;obtain ⟨h3,h4⟩:=h.ids i a (hF i a ha);have hin:=fun j hj=>h1 j (yv3 ha j hj);refine ⟨?_,?_⟩
  ·intro j hj;rw [jh8] at hj;obtain ⟨k,hk,rfl⟩:=List.mem_map.1 hj;simp only [yf0];exact (yc4 (hin k hk)).1
  ·cases a with
   |eptr j sz k c=>
    rw [AV.ren];intro e t xs hx;obtain ⟨i',h5,h6⟩:=zk7 hx;have hj:=hin j (by simp [AV.ids]);rw [(yc4 hj).2] at h5;simp only [X0] at h5;subst h5;rcases h6 with ⟨e0,h6,h7⟩|h6
    ·cases e0 with
     |row e1 t1 ys=>
      simp only [Ent.ren,Ent.row.injEq] at h7;obtain ⟨rfl,rfl,h7⟩:=h7;have:=eq_of_heq h7;subst this;exact h4 _ _ _ h6
     |blk _ _=>cases h7
     |map _ _=>cases h7
     |tmap _ _ _=>cases h7
     |drow _ _ _ _ _=>cases h7
     |gone=>cases h7
    ·cases h6
   |_=>rw [AV.ren]<;>trivial
 ·intro j e he hl a ha;obtain ⟨i,h5,h6⟩:=zk7 he;rcases h6 with ⟨e0,h6,rfl⟩|rfl
  ·rw [hd h5] at ha;exact h.lives i e0 h6 (by rw [Ent.ren_live] at hl;exact hl) a ha
  ·cases hl
 ·have hk':=hp k (X2.1 hk).1;refine ⟨by rw [hd hk'];exact (h.pins k r hk).1,?_⟩;simp only [yf0];exact (X2.1 hk').1
 ·intro j e he;obtain ⟨i,h5,h6⟩:=zk7 he;rcases h6 with ⟨e0,h6,rfl⟩|rfl
  ·have h3:=h.ents i e0 h6;cases e0 with
   |blk e1 cs=>
    obtain ⟨g,c,a1,a2,a3,a4⟩:=h3;refine ⟨g,c,(congrArg RA.ad (hd h5)).trans a1,a2,a3,a4.ren T fun k hk=>hρ k (h2 k (yo4 h6 (X6 h5) k hk))⟩
   |row e1 t xs=>
    obtain ⟨B,vals,a1,a2,a3,a4,a5⟩:=h3;simp only [EntR,hd h5];exact ⟨B,vals,a1,a2,a3,a4,a5⟩
   |map k es=>
    obtain ⟨g,l,c,a1,a2,a3,a4⟩:=h3;refine ⟨g,l,c,(congrArg RA.ad (hd h5)).trans a1,a2,a3,a4.ren T fun k hk=>hρ k (h2 k (yo4 h6 (X6 h5) k hk))⟩
   |tmap k t m=>
    obtain ⟨g,l,c,a1,a2⟩:=h3;exact ⟨g,l,c,(congrArg RA.ad (hd h5)).trans a1,a2⟩
   |drow e1 d fe xs op=>
    obtain ⟨B,vals,a1,a2,a3,a4,a5⟩:=h3;simp only [Ent.ren,EntR,hd h5];exact ⟨B,vals,a1,a2,a3,a4,a5.renS T fun k hk=>RSame.of (hρ k (h2 k (yo4 h6 (X6 h5) k hk)))⟩
   |gone=>trivial
  ·trivial
 ·intro j e he k hk;obtain ⟨i,h5,h6⟩:=zk7 he;rcases h6 with ⟨e0,h6,rfl⟩|rfl
  ·rw [Ent.ren_cellIds] at hk;obtain ⟨m,hm,rfl⟩:=List.mem_map.1 hk;simp only [yf0];exact (yc4 (h2 m (yo4 h6 (X6 h5) m hm))).1
  ·cases hk
 ·intro j k e e' he he' hl hl' hjk a b ha hb;obtain ⟨i,h5,h6⟩:=zk7 he;obtain ⟨i',h5',h6'⟩:=zk7 he';rcases h6 with ⟨e0,h6,rfl⟩|rfl
  ·rcases h6' with ⟨e0',h6',rfl⟩|rfl
   ·rw [hd h5] at ha;rw [hd h5'] at hb;rw [Ent.ren_live] at hl hl';exact h.apart i i' e0 e0' h6 h6' hl hl' (fun e=>hjk (by subst e;exact yf7 hn h5 h5')) a b ha hb
   ·cases hl'
  ·cases hl
theorem vd7 {m:Nat} {ids:List Nat} (h:gi2 m ids=true) {k:Nat} (hk:k<m):ids[k]?=some k:=by
 unfold gi2 at h;rw [Y8] at h;have:=h k (List.mem_range.2 hk);split at this
 ·rename_i j hj;rw [hj,X1 this]
 ·cases this
theorem jh4 {w0:World} {S0:Ow} {st st':St T} {F':PF} {w:World} {m:Nat} {l:List Nat} (hm:S0.pin.length<=m) (h:zc7 T w0 S0 st F' w) (ht:wj1 T m l st=some st'):zc7 T w0 S0 st' F' w:=by
 obtain ⟨S,φ,h⟩:=h;unfold wj1 at ht;simp only at ht;split at ht
 ·rename_i hb;simp only [X3] at hb;simp only [X0] at ht;subst ht;exact ⟨S,_,h.renum _ (fun i a ha=>yz6 ha) hb.2.1 (fun k hk=>vd7 hb.1 (Nat.lt_of_lt_of_le hk hm)) (yz4 hb.2.2.2.1) (yz4 hb.2.2.2.2)⟩
 ·cases ht
theorem zz1 {w0:World} {S0:Ow} {F':PF} {w:World}: ∀(l:List (Nat×TypeId×Ty)) {st:St T},zc7 T w0 S0 st F' w->zc7 T w0 S0 (yx7 T l st) F' w
 | [],_,h=>h
 |(s,e,t)::r,st,h=>by
  unfold yx7;split
  ·rename_i hs;refine zz1 r ?_;obtain ⟨S,φ,h⟩:=h;obtain ⟨v,h1,h2⟩:=h.fr s _ hs;rw [VR] at h2;subst h2;have hadd:=h.addG (Chg.refl [] w) (by simp) (by simp) (fun _ _ _ _ _ _=>by simp) (S':=S) (fun _ h=>h) (fun _ h=>.inl h) (r:=⟨none,0,0,[]⟩) (fun a h=>by cases ym7 h) (fun a h=>by cases ym7 h) (e:=.row e t [])
    ⟨w.heap.size,[],by rw [za2];exact Own.nil _ _ _ _,by rw [za2];rfl,Nat.le_refl _,⟨rfl,fun j c v h=>by simp at h⟩,fun a ha=>by rw [za2] at ha;cases ha⟩ (fun j hj=>by cases hj)
   exact ⟨S,_,hadd.seen h1 (a:=.own st.H.length) (by rw [VR,za2]) ⟨fun i hi=>by simp [AV.ids] at hi;subst hi;simp,trivial⟩⟩
  ·exact zz1 r h
theorem Sim.addNil {w0:World} {S0:Ow} {F:AF T} {H:List (Ent T.U)} {F':PF} {w:World} {S:List Nat} {φ:Nat->RA} (h:Sim T w0 S0 ⟨F,H⟩ F' w S φ) (e:TypeId) (t:Ty):Sim T w0 S0 ⟨F,H++ [.row e t []]⟩ F' w S (yc6 φ H.length ⟨none,0,0,[]⟩):=
 h.addG (Chg.refl [] w) (by simp) (by simp) (fun _ _ _ _ _ _=>by simp) (S':=S) (fun _ h=>h) (fun _ h=>.inl h) (r:=⟨none,0,0,[]⟩) (fun a h=>by cases ym7 h) (fun a h=>by cases ym7 h) (e:=.row e t [])
  ⟨w.heap.size,[],by rw [za2];exact Own.nil _ _ _ _,by rw [za2];rfl,Nat.le_refl _,⟨rfl,fun j c v h=>by simp at h⟩,fun a ha=>by rw [za2] at ha;cases ha⟩ (fun j hj=>by cases hj)
theorem ub0 {w0:World} {S0:Ow} {F:AF T} {H:List (Ent T.U)} {F':PF} {w:World} {S:List Nat} {φ:Nat->RA} (h:Sim T w0 S0 ⟨F,H⟩ F' w S φ) {i:Nat} {e:TypeId} {t:Ty} {xs:List (den T.U t)} (hi:H[i]?=some (.row e t xs)) {v:Value} (hv:VR T w S φ (.own i) v):VR T w S φ (.sl i (szT T t) 0 xs.length) v:=by
 obtain ⟨B,vals,o1,o2,o3,o4,o5⟩:=h.ents i _ hi;rw [VR] at hv;subst hv;rw [o2] at o1;refine ⟨(φ i).ad,?_,?_,?_,fun hn=>o1.nil0 hn,fun _=>rfl⟩
 ·show Value.slice (φ i).ad (φ i).n (φ i).cap=Value.slice (φ i).ad xs.length ((φ i).cap-0);rw [o2];rfl
 ·show 0+xs.length<=(φ i).cap;rw [Nat.zero_add];exact o1.le.1
 rcases o1.cases with ⟨_,hn,_⟩|⟨c,had,_⟩
 ·exact .inl hn
 ·refine .inr ⟨_,had,had.trans ?_⟩;show some (⟨_,0,none⟩:Addr)=some ⟨_,0+0*_,none⟩;rw [Nat.zero_mul]
theorem Sim.cellSl {w0:World} {S0:Ow} {F:AF T} {H:List (Ent T.U)} {F':PF} {w:World} {S:List Nat} {φ:Nat->RA} (h:Sim T w0 S0 ⟨F,H⟩ F' w S φ) {i c k:Nat} {e0 e:TypeId} {cs:List (AV T.U)} {t:Ty} {xs:List (den T.U t)}
  (hi:H[i]?=some (.blk e0 cs)) (hc:cs[c]?=some (.own k)) (hk:H[k]?=some (.row e t xs)):Sim T w0 S0 ⟨F,H.set i (.blk e0 (cs.set c (.sl k (szT T t) 0 xs.length)))⟩ F' w S φ:=by
 obtain ⟨g,cv,a1,a2,a3,a4⟩:=h.ents i _ hi;refine h.upd (i:=i) (e0:=.blk e0 cs) (e:=.blk e0 (cs.set c (.sl k (szT T t) 0 xs.length))) (Tc:= []) (w':=w) hi rfl (Chg.refl [] w) (by simp)
  ⟨g,cv,a1,a2,a3,BR.swap (b:=.sl k (szT T t) 0 xs.length) rfl rfl (fun v hv=>ub0 h hk hv) a4 hc⟩ ?_ (by intro _ _ _ h;cases h)
 intro j hj;rw [Ent.cellIds] at hj;obtain ⟨b,hb,hjb⟩:=zt0 hj;rcases List.mem_or_eq_of_mem_set hb with hb|hb
 ·exact h.eids i _ hi j (by rw [Ent.cellIds];exact zh1 hb j hjb)
 ·subst hb;have hm:(AV.own k:AV T.U)∈cs:=X6 hc;simp only [AV.ids,Q4] at hjb;subst hjb;exact h.eids i _ hi j (by rw [Ent.cellIds];exact zh1 hm j (by simp [AV.ids]))
theorem ze5 {w0:World} {S0:Ow} {F:AF T} {F':PF} {w:World}: ∀(l:List (Nat×Nat×TypeId×Ty)) {H:List (Ent T.U)},zc7 T w0 S0 ⟨F,H⟩ F' w->zc7 T w0 S0 ⟨F,ze9 T l H⟩ F' w
 | [],_,h=>h
 |(i,c,e,t)::r,H,h=>by
  unfold ze9;split
  ·exact ze5 r (zt9 _ h)
  split
  ·rename_i e0 cs hi;split
   ·rename_i hc;refine ze5 r ?_;obtain ⟨S,φ,h⟩:=h;have h1:=h.addNil e t;have hil:=(X2.1 hi).1;obtain ⟨g,cv,a1,a2,a3,a4⟩:=h1.ents i _ (by rw [X8 hil];exact hi);have h2:=h1.upd (i:=i) (e0:=.blk e0 cs) (e:=.blk e0 (cs.set c (.own H.length))) (Tc:= []) (w':=w) (by rw [X8 hil];exact hi) rfl (Chg.refl [] w) (by simp)
     ⟨g,cv,a1,a2,a3,BR.swap (b:=.own H.length) rfl rfl (fun v hv=>by rw [VR] at hv;subst hv;rw [VR,za2]) a4 hc⟩
     (by
      intro j hj;rw [Ent.cellIds] at hj;obtain ⟨b,hb,hjb⟩:=zt0 hj;rcases List.mem_or_eq_of_mem_set hb with hb|hb
      ·have:=h.eids i _ hi j (by rw [Ent.cellIds];exact zh1 hb j hjb);simp at this⊢;omega
      ·subst hb;simp [AV.ids] at hjb;subst hjb;simp) (by intro _ _ _ h;cases h)
    have hset:(H++ [Ent.row e t []]).set i (.blk e0 (cs.set c (.own H.length)))=H.set i (.blk e0 (cs.set c (.own H.length)))++ [.row e t []]:=by
     rw [List.set_append_left _ _ hil]
    rw [hset] at h2;exact ⟨S,_,h2⟩
   ·rename_i k hc;split
    ·split
     ·rename_i e' t' xs hk;obtain ⟨S,φ,h⟩:=h;exact ze5 r ⟨S,φ,h.cellSl hi hc hk⟩
     ·exact ze5 r h
    ·exact ze5 r h
   ·exact ze5 r h
  ·exact ze5 r h
end
end Go.X
