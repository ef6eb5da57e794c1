import Derived.Test.YthhhfnfgmijggaaGreatX18
namespace Go.X
open Go.RowKit Go.V
structure GSpec (T:Tab) where
 ps:List Sh
 post:List PE
 rs:List Sh
 g:zd8 T ps->Option (zl5 T post×zd8 T rs)
section
variable (T:Tab) (P:Program)
def zd4:Src->List Nat
 | []=> []
 |some i::r=>i::zd4 r
 |none::r=>zd4 r
def yi1 (H:List (Ent T.U)):List Nat->List PE->Bool
 | [],ps=>match ps with| []=>true|_::_=>false
 |i::r,ps=>match ps with
  | []=>false
  |p::q=>(match p with| .row e t=>(qi1 T H e t i).isSome|_=>true)&&yi1 H r q
def GOk (f:FuncId) (sp:GSpec T):Prop:= ∀x y,sp.g x=some y-> ∀(w:World) (S:List Nat) (φ:Nat->RA),Sim T w ⟨zd5 φ (zb5 sp.ps),S,(List.range (zb5 sp.ps)).map φ⟩ ⟨[],zh0 T id sp.ps x 0⟩ [] w S φ->
 ∀vs:List Value,VRL T w S φ (zc6 T id sp.ps x 0) vs->(∀a∈zc6 T id sp.ps x 0,okA (zh0 T id sp.ps x 0) a)->
 Calls P f vs.toArray w fun e w'=>match e with
  | .returned v=> ∃(F1:PF) (S1:List Nat) (φ1:Nat->RA) (us:List Value),Sim T w ⟨zd5 φ (zb5 sp.ps),S,(List.range (zb5 sp.ps)).map φ⟩ ⟨[],mkP T id sp.post y.1 sp.post.length++(ya1 T id sp.post y.1 sp.post.length++zh0 T id sp.rs y.2 (sp.post.length+zf5 sp.post))⟩ F1 w' S1 φ1/\
    VRL T w' S1 φ1 (zc6 T id sp.rs y.2 (sp.post.length+zf5 sp.post)) us/\v=yb3 us/\ ∀i∈w9 (zc6 T id sp.rs y.2 (sp.post.length+zf5 sp.post)),i<sp.post.length+(zf5 sp.post+zb5 sp.rs)
  |_=>False
def GSpec.toCall {T:Tab} (sp:GSpec T) (alt:CallSpec T):CallSpec T where
 call:=fun as H K Kp=>match zp0 T H sp.ps as [] with
  |some (x,l)=>match zd6 (zd4 l)&&yi1 T H (zd4 l) sp.post with
   |true=>j7 (sp.g x) fun y=>K (zk3 T (zc6 T (σJ (zd4 l) H.length) sp.rs y.2 (sp.post.length+zf5 sp.post))) (zg3 T H (zd4 l) (mkP T (σJ (zd4 l) H.length) sp.post y.1 sp.post.length)++(ya1 T (σJ (zd4 l) H.length) sp.post y.1 sp.post.length++zh0 T (σJ (zd4 l) H.length) sp.rs y.2 (sp.post.length+zf5 sp.post)))
   |false=>none
  |none=>alt.call as H K Kp
 q:=alt.q
 isq:=alt.isq
 wr:=fun as H=>match zp0 T H sp.ps as [] with|some (_,l)=>zd4 l|none=>alt.wr as H
def k7:CallSpec T where
 call:=fun _ _ _ _=>none
 q:=fun _ _ _=>none
 isq:=false
 wr:=fun _ _=> []
def ki6:List (Nat×TypeId×Ty×Bool)->List (AV T.U)->List (Ent T.U)->List (AV T.U)×List (Ent T.U)
 | [],as,H=>(as,H)
 |(j,e,t,b)::r,as,H=>match as[j]? with
  |some (.raw (.slice none 0 0))=>ki6 r (as.set j (match b with|true=>.own H.length|false=>.sl H.length (szT T t) 0 0)) (H++ [.row e t []])
  |_=>ki6 r as H
def kj4:List Nat->List (AV T.U)->List (Ent T.U)->List (AV T.U)
 | [],as,_=>as
 |j::r,as,H=>match as[j]? with
  |some (.own i)=>match H[i]? with
   |some (.row _ t xs)=>kj4 r (as.set j (.sl i (szT T t) 0 xs.length)) H
   |_=>kj4 r as H
  |_=>kj4 r as H
structure Nl where
 rs:List (Nat×TypeId×Ty×Bool)
 ow:List Nat
 bn:List (Nat×Nat×TypeId×Ty)
 z:List (Nat×Ty)
 w:List Nat
def wi0 (post:List PE) (rs:List Sh) (as:List (AV T.U)) (H:List (Ent T.U)):Option (zl5 T post×zd8 T rs):=
 match rdP T H post 0 (zt1 post 0) with
 |some (y,l)=>match zp0 T H rs as l with
  |some (z,l')=>match zl4 l' with|true=>some (y,z)|false=>none
  |none=>none
 |none=>none
def yf9 (fn:Func) (nl:Nl) (post:List PE) (rs:List Sh) (st0:St T):Option (zl5 T post×zd8 T rs):=
 match js7 T P st0 fn.results.toList with
 |some as0=>match kj7 T post.length nl.w as0 st0.H with
  |some (as1,H1)=>
   let p:=ki6 T nl.rs as1 (ze9 T nl.bn H1)
   gy7 T nl.z (kj4 T nl.ow p.1 p.2) p.2 (wi0 T post rs)
  |none=>none
 |none=>none
def jd9 (fn:Func) (nl:Nl) (post:List PE) (rs:List Sh):Ks T (zl5 T post×zd8 T rs):=⟨yf9 T P fn nl post rs,fun _ _=>none,yf9 T P fn nl post rs,fun _ _=>none⟩
noncomputable def zh5 (C:Ctx T) (cuts:List (Pos×Cut)) (fn:Func) (c:Code) (nl:Nl) (ps:List Sh) (post:List PE) (rs:List Sh) (m:Nat) (x:zd8 T ps):Option (zl5 T post×zd8 T rs):=
 evC P C fn.ntmps cuts (run P C fn.ntmps cuts c (jd9 T P fn nl post rs) m) c [] (jd9 T P fn nl post rs) ⟨yb1 T (zc6 T id ps x 0) 0,zh0 T id ps x 0⟩
noncomputable def gv2 (C:Ctx T) (cuts:List (Pos×Cut)) (fn:Func) (c:Code) (nl:Nl) (post:List PE) (rs:List Sh) (m:Nat) (q:Pos) (st:St T):Option (zl5 T post×zd8 T rs):=
 run P C fn.ntmps cuts c (jd9 T P fn nl post rs) m q st
end
section
variable {T:Tab} {P:Program} {w w':World} {S S':List Nat} {φ φ':Nat->RA} {w0:World} {S0:Ow} {F:AF T} {H:List (Ent T.U)} {F':PF}
theorem yj7: ∀l:List Nat,zd4 (l.map some)=l
 | []=>rfl
 |i::r=>by rw [List.map_cons,zd4,yj7 r]
mutual
theorem vq9 (σ:Nat->Nat): ∀(s:Sh) (x:s.den T) (k:Nat),(mkE T σ s x k).length=s.cnt
 | .row e t,x,k=>rfl
 | .slr e t,x,k=>rfl
 | .ptr o e cs,x,k=>(congrArg (· +1) (zc8 σ cs x (k+1))).trans (Nat.add_comm _ _)
 | .slb sz n e cs,x,k=>(congrArg (· +1) (zc8 σ cs x (k+1))).trans (Nat.add_comm _ _)
 | .fn f a b,x,k=>by show (zh0 T σ a x.1 k++zh0 T σ b x.2 (k+zb5 a)).length=zb5 a+zb5 b;rw [X9,zc8 σ a,zc8 σ b]
 | .agg cs,x,k=>zc8 σ cs x k
 | .ifc t s,x,k=>vq9 σ s x k
 | .val _,x,k=>rfl
 | .at_ _ _,x,k=>rfl
 | .own _,x,k=>rfl
 | .part _ _,x,k=>rfl
 | .nils,x,k=>rfl
 | .nilp,x,k=>rfl
 | .arr _ _,x,k=>rfl
 | .lp _ _,x,k=>rfl
 | .asp _ _ _ _,x,k=>rfl
 | .asn e cs o sz n,x,k=>(congrArg (· +1) (zc8 σ cs x.1 (k+1))).trans (Nat.add_comm _ _)
 | .ap _ _ _ _ _,x,k=>rfl
 | .mp kd keys cs,x,k=>(congrArg (· +1) (zc8 σ cs x (k+1))).trans (Nat.add_comm _ _)
 | .mpo _,x,k=>rfl
 | .rw _,x,k=>rfl
 | .lpk _ _ _,x,k=>rfl
 | .tm _ _,x,k=>rfl
 | .dr _ _ _,x,k=>rfl
theorem zc8 (σ:Nat->Nat): ∀(l:List Sh) (x:zd8 T l) (k:Nat),(zh0 T σ l x k).length=zb5 l
 | [],x,k=>rfl
 |s::r,x,k=>by show (mkE T σ s x.1 k++zh0 T σ r x.2 (k+s.cnt)).length=s.cnt+zb5 r;rw [X9,vq9 σ s,zc8 σ r]
end
theorem zx1 (σ:Nat->Nat): ∀(ps:List PE) (x:zl5 T ps) (k:Nat),(mkP T σ ps x k).length=ps.length
 | [],x,k=>rfl
 |p::r,x,k=>by show (mkP T σ r x.2 (k+p.cnt)).length+1=r.length+1;rw [zx1 σ r]
theorem zx6 (σ:Nat->Nat): ∀(ps:List PE) (x:zl5 T ps) (k:Nat),(ya1 T σ ps x k).length=zf5 ps
 | [],x,k=>rfl
 |p::r,x,k=>by
  show (ke8 T σ p x.1 k++ya1 T σ r x.2 (k+p.cnt)).length=p.cnt+zf5 r;rw [X9,zx6 σ r];cases p with
  |gone=>rfl
  |row e t=>rfl
  |tmap k t=>rfl
  |dr e d fe=>rfl
  |blk e cs=>exact congrArg (· +zf5 r) (zc8 σ cs x.1 k)
  |map kd keys cs=>exact congrArg (· +zf5 r) (zc8 σ cs x.1 k)
mutual
theorem vr1 (τ:Nat->Nat): ∀(s:Sh) (x:s.den T) (k:Nat),(mkA T id s x k).ren τ=mkA T τ s x k
 | .val t,x,k=>va3 t x τ
 | .row e t,x,k=>rfl
 | .slr e t,x,k=>rfl
 | .ptr o e cs,x,k=>rfl
 | .slb sz n e cs,x,k=>rfl
 | .fn f a b,x,k=>by
  show AV.fn (.func f) (zj5 τ (zc6 T id a x.1 k)) (zj5 τ (zc6 T id b x.2 (k+zb5 a)))=.fn (.func f) (zc6 T τ a x.1 k) (zc6 T τ b x.2 (k+zb5 a));rw [zg1 τ a,zg1 τ b]
 | .agg cs,x,k=>congrArg AV.agg (zg1 τ cs x k)
 | .ifc t s,x,k=>congrArg (AV.ifc t) (vr1 τ s x k)
 | .at_ _ _,x,k=>rfl
 | .own _,x,k=>rfl
 | .part _ _,x,k=>rfl
 | .nils,x,k=>rfl
 | .nilp,x,k=>rfl
 | .arr _ _,x,k=>rfl
 | .lp _ _,x,k=>rfl
 | .asp _ _ _ _,x,k=>rfl
 | .asn _ _ _ _ _,x,k=>rfl
 | .ap _ _ _ _ _,x,k=>rfl
 | .mp _ _ _,x,k=>rfl
 | .mpo _,x,k=>rfl
 | .rw _,x,k=>rfl
 | .lpk _ _ _,x,k=>rfl
 | .tm _ _,x,k=>rfl
 | .dr _ _ _,x,k=>rfl
theorem zg1 (τ:Nat->Nat): ∀(l:List Sh) (x:zd8 T l) (k:Nat),zj5 τ (zc6 T id l x k)=zc6 T τ l x k
 | [],x,k=>rfl
 |s::r,x,k=>by
  show (mkA T id s x.1 k).ren τ::zj5 τ (zc6 T id r x.2 (k+s.cnt))=mkA T τ s x.1 k::zc6 T τ r x.2 (k+s.cnt);rw [vr1 τ s,zg1 τ r]
end
theorem yo6 {α:Type} {a b:α} {l m:List α} (h:a=b) (h':l=m):a::l=b::m:=by rw [h,h']
theorem kx1 {α:Type} {a b l m:List α} (h:a=b) (h':l=m):a++l=b++m:=by rw [h,h']
mutual
theorem vt5 (τ:Nat->Nat): ∀(s:Sh) (x:s.den T) (k:Nat),(mkE T id s x k).map (Ent.ren τ)=mkE T τ s x k
 | .row e t,x,k=>rfl
 | .slr e t,x,k=>rfl
 | .ptr o e cs,x,k=>yo6 (congrArg (Ent.blk e) (zg1 τ cs x (k+1))) (zi8 τ cs x (k+1))
 | .slb sz n e cs,x,k=>yo6 (congrArg (Ent.blk e) (zg1 τ cs x (k+1))) (zi8 τ cs x (k+1))
 | .fn f a b,x,k=>by
  show (zh0 T id a x.1 k++zh0 T id b x.2 (k+zb5 a)).map (Ent.ren τ)=zh0 T τ a x.1 k++zh0 T τ b x.2 (k+zb5 a);rw [List.map_append,zi8 τ a,zi8 τ b]
 | .agg cs,x,k=>zi8 τ cs x k
 | .ifc t s,x,k=>vt5 τ s x k
 | .val _,x,k=>rfl
 | .at_ _ _,x,k=>rfl
 | .own _,x,k=>rfl
 | .part _ _,x,k=>rfl
 | .nils,x,k=>rfl
 | .nilp,x,k=>rfl
 | .arr _ _,x,k=>rfl
 | .lp _ _,x,k=>rfl
 | .asp _ _ _ _,x,k=>rfl
 | .asn e cs _ _ _,x,k=>yo6 (congrArg (Ent.blk e) (zg1 τ cs x.1 (k+1))) (zi8 τ cs x.1 (k+1))
 | .ap _ _ _ _ _,x,k=>rfl
 | .mp kd keys cs,x,k=>yo6 (congrArg (Ent.map kd) ((yj5 τ keys _).trans (congrArg (yf1 keys) (zg1 τ cs x (k+1))))) (zi8 τ cs x (k+1))
 | .mpo _,x,k=>rfl
 | .rw _,x,k=>rfl
 | .lpk _ _ _,x,k=>rfl
 | .tm _ _,x,k=>rfl
 | .dr _ _ _,x,k=>rfl
theorem zi8 (τ:Nat->Nat): ∀(l:List Sh) (x:zd8 T l) (k:Nat),(zh0 T id l x k).map (Ent.ren τ)=zh0 T τ l x k
 | [],x,k=>rfl
 |s::r,x,k=>by
  show (mkE T id s x.1 k++zh0 T id r x.2 (k+s.cnt)).map (Ent.ren τ)=mkE T τ s x.1 k++zh0 T τ r x.2 (k+s.cnt);rw [List.map_append,vt5 τ s,zi8 τ r]
end
theorem jk1 (τ:Nat->Nat): ∀(ps:List PE) (x:zl5 T ps) (k:Nat),(mkP T id ps x k).map (Ent.ren τ)=mkP T τ ps x k
 | [],x,k=>rfl
 |p::r,x,k=>by
  show (wd7 T id p x.1 k).ren τ::(mkP T id r x.2 (k+p.cnt)).map (Ent.ren τ)=wd7 T τ p x.1 k::mkP T τ r x.2 (k+p.cnt);rw [jk1 τ r];cases p with
  |gone=>rfl
  |row e t=>rfl
  |tmap k t=>rfl
  |dr e d fe=>rfl
  |blk e cs=>exact yo6 (congrArg (Ent.blk e) (zg1 τ cs x.1 k)) rfl
  |map kd keys cs=>exact yo6 (congrArg (Ent.map kd) ((yj5 τ keys _).trans (congrArg (yf1 keys) (zg1 τ cs x.1 k)))) rfl
theorem yw0 (τ:Nat->Nat): ∀(ps:List PE) (x:zl5 T ps) (k:Nat),(ya1 T id ps x k).map (Ent.ren τ)=ya1 T τ ps x k
 | [],x,k=>rfl
 |p::r,x,k=>by
  show (ke8 T id p x.1 k++ya1 T id r x.2 (k+p.cnt)).map (Ent.ren τ)=ke8 T τ p x.1 k++ya1 T τ r x.2 (k+p.cnt);rw [List.map_append,yw0 τ r];cases p with
  |gone=>rfl
  |row e t=>rfl
  |tmap k t=>rfl
  |dr e d fe=>rfl
  |blk e cs=>exact kx1 (zi8 τ cs x.1 k) rfl
  |map kd keys cs=>exact kx1 (zi8 τ cs x.1 k) rfl
theorem kt8 (σ:Nat->Nat) (s:Sh) (x:s.den T) (k:Nat):zi0 (mkA T σ s x k)=true:=by
 cases s with
 |val t=>exact yq2 t x
 |_=>rfl
theorem zq3 (σ:Nat->Nat): ∀(l:List Sh) (x:zd8 T l) (k:Nat),∀a∈zc6 T σ l x k,zi0 a=true
 | [],x,k,a,h=>by cases h
 |s::r,x,k,a,h=>by
  have h:a∈mkA T σ s x.1 k::zc6 T σ r x.2 (k+s.cnt):=h;rcases Z0.1 h with rfl|h
  ·exact kt8 σ s x.1 k
  ·exact zq3 σ r x.2 _ a h
theorem zk4 {ρ:Nat->Nat} {n:Nat} {as:List (AV T.U)} (h: ∀i∈w9 as,ρ i<n): ∀i∈w9 (zj5 ρ as),i<n:=by
 intro i hi;rw [zr4] at hi;obtain ⟨j,hj,rfl⟩:=List.mem_map.1 hi;exact h j hj
theorem zr1 {ids:List Nat}: ∀ {post:List PE},yi1 T H ids post=true->ids.length=post.length/\ ∀(k i:Nat) (e:TypeId) (t:Ty),ids[k]?=some i->post[k]?=some (.row e t)-> ∃xs,H[i]?=some (.row e t xs):=by
 induction ids with
 |nil=>
  intro post h;cases post with
  |nil=>exact ⟨rfl,fun k i e t h=>by simp at h⟩
  |cons _ _=>cases h
 |cons j r ih=>
  intro post h;cases post with
  |nil=>cases h
  |cons p q=>
   unfold yi1 at h;simp only [X3] at h;obtain ⟨h1,h2⟩:=ih h.2;refine ⟨by simp [h1],fun k i e t hk hp=>?_⟩;cases k with
   |zero=>
    simp at hk hp;subst hk;subst hp;obtain ⟨xs,hx⟩:=Option.isSome_iff_exists.1 h.1;exact ⟨xs,zx4 hx⟩
   |succ k=>exact h2 k i e t (by simpa using hk) (by simpa using hp)
theorem yp8 {σ:Nat->Nat}: ∀ {ps:List PE} {x:zl5 T ps} {k j:Nat} {e:TypeId} {t:Ty} {ys:List (den T.U t)},(mkP T σ ps x k)[j]?=some (.row e t ys)->ps[j]?=some (.row e t)
 | [],x,k,j,e,t,ys,h=>by simp [mkP] at h
 |p::r,x,k,j,e,t,ys,h=>by
  have h:(wd7 T σ p x.1 k::mkP T σ r x.2 (k+p.cnt))[j]?=some (.row e t ys):=h;cases j with
  |succ j=>simp only [List.getElem?_cons_succ] at h⊢;exact yp8 h
  |zero=>
   simp only [Y4,X0] at h⊢;cases p with
   |gone=>cases h
   |row e' t'=>
    simp only [wd7,Ent.row.injEq] at h;obtain ⟨rfl,rfl,_⟩:=h;rfl
   |blk _ _=>cases h
   |map _ _ _=>cases h
   |tmap _ _=>cases h
   |dr _ _ _=>cases h
theorem jc0 {f:FuncId} {sp:GSpec T} {alt:CallSpec T} (hok:GOk T P f sp) (ha:zb4 T P f alt):zb4 T P f (sp.toCall alt):=by
 intro R as H K Kp r hr w0 S0 F F' w S φ h vs hvs has;simp only [GSpec.toCall] at hr;split at hr
 ·rename_i x l hx;split at hr
  ·rename_i hb;simp only [X3] at hb;obtain ⟨hn,hro⟩:=hb;obtain ⟨y,hy,hK⟩:=zb3 hr;obtain ⟨new,g1,g2,g3⟩:=ze4 sp.ps as [] l x hx;have hl:l=new.map some:=by rw [g1.eq];rfl
   have hids:zd4 l=new:=by rw [hl,yj7]
   rw [hids] at hn hro hK;have hno:zl4 l=true:=by
    rw [hl];clear hK hro hids hx g1 g2 g3 hl;induction new with
    |nil=>rfl
    |cons i r ih=>
     rw [zd6,X3,Bool.not_eq_true'] at hn;rw [List.map_cons,zl4,ih hn.2,Bool.and_true,Bool.not_eq_true'];cases hm:qm8 i (r.map some) with
     |false=>rfl
     |true=>
      have:=yd7.1 hm;obtain ⟨j,hj,e⟩:=List.mem_map.1 this;simp only [X0] at e;subst e;rw [zc5.2 hj] at hn;exact absurd hn.1 (by simp)
   obtain ⟨q1,q2⟩:=g3 _ (ye8 hno);obtain ⟨hlen,hrow⟩:=zr1 hro;have hnewlen:new.length=zb5 sp.ps:=g2;obtain ⟨c0,x0,p0⟩:=S0;have hs:=(h.unpin.src (l:=l) hno (fun k hk=>by simp at hk) (fun i e hi he j hj=>by
    rw [hl] at hi;obtain ⟨i',hi',e'⟩:=List.mem_map.1 hi;simp only [X0] at e';subst e';obtain ⟨e0,h1,_,h3⟩:=g1.ents i' hi';rw [he] at h1;simp only [X0] at h1;subst h1;exact h3 j hj))
   rw [show zi7 T H (fun i=>yq6 i l) l=ze7 T H (fun i=>yq6 i l) new by rw [hl,zv6]] at hs;have hs:=(hs.imp q2).start;rw [zc8,<-hnewlen] at hs;have hφc: ∀k i,new[k]?=some i->φO l φ k=φ i:=fun k i hk=>φO_at (by rw [hl,W0,hk];rfl);have hvs':VRL T w S (φO l φ) (zc6 T id sp.ps x 0) vs:=q1.vrl (VRL.ren T (fun i hi=>φO_idx (g1.ids i hi)) hvs);have hoks: ∀a∈zc6 T id sp.ps x 0,okA (zh0 T id sp.ps x 0) a:=fun a ha=>zd9 (zq3 id _ _ _ a ha) fun i hi=>by
    have hi:=zh1 ha i hi;rw [show w9 (zc6 T id sp.ps x 0)=_ from q1.ids] at hi;rw [zc8,<-hnewlen];refine zk4 (fun j hj=>?_) i hi;have:=(X2.1 (zl3 (g1.ids j hj))).1;rw [hl,List.length_map] at this;rw [hl];exact this
   refine (hok x y hy w S (φO l φ) (by rw [<-hnewlen];exact hs) vs hvs' hoks).mono fun e w' hR=>?_;cases e with
   |returned v=>
    obtain ⟨F1,S1,φ1,us,k1,k2,rfl,k3⟩:=hR;rw [<-hnewlen] at k1;obtain ⟨φ2,m1,m2⟩:=h.join hn (fun i hi=>by obtain ⟨e,a,b,_⟩:=g1.ents i hi;exact ⟨e,a,b⟩) hφc k1 (by rw [zx1,hlen]) (fun k i e t ys hk hp=>hrow k i e t hk (yp8 hp));rw [jk1,List.map_append,yw0,zi8] at m1;have hv2:VRL T w' S1 φ2 (zc6 T (σJ new H.length) sp.rs y.2 (sp.post.length+zf5 sp.post)) us:=by
     rw [<-zg1];rw [zx1,X9,zx6,zc8] at m2;generalize zc6 T id sp.rs y.2 (sp.post.length+zf5 sp.post)=rs at k2 k3;clear hK m1 k1;induction rs generalizing us with
     |nil=>cases us<;>exact k2
     |cons a r ih=>
      match us,k2 with
      |u::us,k2=>
       rw [zj5];exact ⟨m2 a u k2.1 fun i hi=>k3 i (by rw [w9];exact X4.2 (.inl hi)),ih _ k2.2 fun i hi=>k3 i (by rw [w9];exact X4.2 (.inr hi))⟩
    refine ⟨_,_,hK,S1,φ2,m1,yd8 hv2,?_⟩;have hlt: ∀i∈w9 (zc6 T (σJ new H.length) sp.rs y.2 (sp.post.length+zf5 sp.post)),i<(zg3 T H new (mkP T (σJ new H.length) sp.post y.1 sp.post.length)++(ya1 T (σJ new H.length) sp.post y.1 sp.post.length++zh0 T (σJ new H.length) sp.rs y.2 (sp.post.length+zf5 sp.post))).length:=by
     rw [<-zg1];refine zk4 fun j hj=>?_;have hj:=k3 j hj;rw [X9,X9,zb0,zx6,zc8];by_cases hlt:j<new.length
     ·have hs:=σJ_lo (n:=H.length) hlt;obtain ⟨e,h1,_,_⟩:=g1.ents _ (X6 hs);have:=(X2.1 h1).1;omega
     ·rw [σJ_hi (by omega)];omega
    have hne:zi0 (zk3 T (zc6 T (σJ new H.length) sp.rs y.2 (sp.post.length+zf5 sp.post)))=true:=by
     unfold zk3;split
     ·rename_i a hl;exact zq3 (σJ new H.length) sp.rs y.2 _ a (by rw [hl];simp)
     ·rfl
    refine zd9 hne fun i hi=>hlt i ?_;unfold zk3 at hi;split at hi
    ·rename_i a hl;rw [hl,w9];exact X4.2 (.inl hi)
    ·rw [AV.ids] at hi;exact hi
   |panicked ch=>exact hR.elim
   |outgrown=>exact hR.elim
  ·cases hr
 ·exact ha as H K Kp r hr w0 S0 F F' w S φ h vs hvs has
theorem wv5 {sp:GSpec T} {alt:CallSpec T} (ha:yh1 alt):yh1 (sp.toCall alt):=by
 intro R as H K Kp r hr;simp only [GSpec.toCall] at hr;split at hr
 ·rename_i x l hx;split at hr
  ·rename_i hb;obtain ⟨y,hy,hK⟩:=zb3 hr;simp only [X3] at hb;obtain ⟨hlen,hrow⟩:=zr1 hb.2;refine .inl ⟨_,_,hK,?_,fun K' Kp'=>by simp only [GSpec.toCall,hx,hb.1,hb.2,Bool.and_self,hy,j7]⟩;have hw:(GSpec.toCall sp alt).wr as H=zd4 l:=by simp only [GSpec.toCall,hx]
   rw [hw];have hl:(mkP T (σJ (zd4 l) H.length) sp.post y.1 sp.post.length).length=(zd4 l).length:=by rw [zx1,hlen]
   refine ⟨by rw [X9,zb0];omega,fun e he hn=>?_,fun e ty t ys he h=>?_⟩
   ·rw [X8 (by rw [zb0];exact he)];obtain ⟨f,hf⟩: ∃f,(zg3 T H (zd4 l) (mkP T (σJ (zd4 l) H.length) sp.post y.1 sp.post.length))[e]?=some f:=⟨_,Y0 (by rw [zb0];exact he)⟩;rcases zg7 _ _ H hl hf with ⟨k,g1,_⟩|⟨_,g2⟩
    ·exact absurd (X6 g1) hn
    ·rw [hf,g2]
   ·rw [X8 (by rw [zb0];exact he)] at h;rcases zg7 _ _ H hl h with ⟨k,g1,g2⟩|⟨_,g2⟩
    ·exact hrow k e ty t g1 (yp8 g2)
    ·exact ⟨ys,g2⟩
  ·cases hr
 ·rename_i hx;have hw:(GSpec.toCall sp alt).wr as H=alt.wr as H:=by simp only [GSpec.toCall,hx]
  rcases ha as H K Kp r hr with ⟨a,H1,h1,h2,h3⟩|⟨a,H1,h1,h2,h3⟩
  ·exact .inl ⟨a,H1,h1,by rw [hw];exact h2,fun K' Kp'=>by simp only [GSpec.toCall,hx,h3]⟩
  ·exact .inr ⟨a,H1,h1,by rw [hw];exact h2,fun K' Kp'=>by simp only [GSpec.toCall,hx,h3]⟩
theorem yq9 {w0:World} {S0:Ow} {F:AF T} {F':PF} {w:World} {S:List Nat}: ∀(l:List (Nat×TypeId×Ty×Bool)) {as:List (AV T.U)} {us:List Value} {H:List (Ent T.U)} {φ:Nat->RA},Sim T w0 S0 ⟨F,H⟩ F' w S φ->(∀i∈w9 as,i<H.length)->VRL T w S φ as us->
  ∃φ',Sim T w0 S0 ⟨F,(ki6 T l as H).2⟩ F' w S φ'/\VRL T w S φ' (ki6 T l as H).1 us
 | [],as,us,H,φ,h,hi,hv=>⟨φ,h,hv⟩
 |(j,e,t,b)::r,as,us,H,φ,h,hi,hv=>by
  unfold ki6;split
  ·rename_i ha;obtain ⟨v,hu,hvr⟩:=hv.get T ha;rw [VR] at hvr;subst hvr;have h1:=h.addNil e t;have hv1:VRL T w S (yc6 φ H.length ⟨none,0,0,[]⟩) as us:=hv.phi fun i hm=>zi3 (by have:=hi i hm;omega);have hnew:VR T w S (yc6 φ H.length ⟨none,0,0,[]⟩) (match b with|true=>AV.own H.length|false=>.sl H.length (szT T t) 0 0) (.slice none 0 0):=by
    cases b with
    |true=>rw [VR,za2]
    |false=>rw [VR,za2];exact ⟨none,rfl,Nat.le_refl _,.inl rfl,fun _=>⟨rfl,rfl⟩,fun _=>rfl⟩
   have hs:=hv1.set T j hnew;rw [show us.set j (.slice none 0 0)=us by
    obtain ⟨hlt,hg⟩:=X2.1 hu;rw [<-hg,List.set_getElem_self]] at hs
   refine yq9 r h1 (fun i hm=>?_) hs;obtain ⟨a,ha',hia⟩:=zt0 hm;rcases List.mem_or_eq_of_mem_set ha' with ha'|ha'
   ·have:=hi i (zh1 ha' i hia);simp;omega
   ·subst ha';cases b<;>simp [AV.ids] at hia<;>subst hia<;>simp
  ·exact yq9 r h hi hv
theorem yg3 {w0:World} {S0:Ow} {F:AF T} {F':PF} {w:World} {S:List Nat} {H:List (Ent T.U)} {φ:Nat->RA} (h:Sim T w0 S0 ⟨F,H⟩ F' w S φ): ∀(l:List Nat) {as:List (AV T.U)} {us:List Value},VRL T w S φ as us->VRL T w S φ (kj4 T l as H) us
 | [],as,us,hv=>hv
 |j::r,as,us,hv=>by
  unfold kj4;split
  ·rename_i i ha;split
   ·rename_i e t xs hi;refine yg3 h r ?_;obtain ⟨v,hu,hvr⟩:=hv.get T ha;obtain ⟨B,vals,o1,o2,o3,o4,o5⟩:=h.ents i _ hi;rw [VR] at hvr;subst hvr;rw [o2] at o1;have hnew:VR T w S φ (.sl i (szT T t) 0 xs.length) (.slice (φ i).ad (φ i).n (φ i).cap):=by
     refine ⟨(φ i).ad,?_,?_,?_,fun hn=>o1.nil0 hn,fun _=>rfl⟩
     ·show Value.slice (φ i).ad (φ i).n (φ i).cap=Value.slice (φ i).ad xs.length ((φ i).cap-0);rw [o2];rfl
     ·show 0+xs.length<=(φ i).cap;rw [Nat.zero_add];exact o1.le.1
     rcases o1.cases with ⟨_,hn,_⟩|⟨c,had,_⟩
     ·exact .inl hn
     ·refine .inr ⟨_,had,had.trans ?_⟩;show some (⟨_,0,none⟩:Addr)=some ⟨_,0+0*_,none⟩;rw [Nat.zero_mul]
    have hs:=hv.set T j hnew;rwa [show us.set j (.slice (φ i).ad (φ i).n (φ i).cap)=us by
     obtain ⟨hlt,hg⟩:=X2.1 hu;rw [<-hg,List.set_getElem_self]] at hs
   ·exact yg3 h r hv
  ·exact yg3 h r hv
end
end Go.X
