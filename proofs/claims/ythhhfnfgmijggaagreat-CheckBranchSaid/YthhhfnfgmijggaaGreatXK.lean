import Derived.Test.YthhhfnfgmijggaaGreatX21
namespace Go.X
open Go.RowKit Go.V
def Sh.simple:Sh->Bool
 | .val _=>true| .arr _ _=>true| .at_ _ _=>true| .ap _ _ _ _ _=>true| .nilp=>true| .rw _=>true| .own _=>true|_=>false
def vm3 {U:Nat->Type}:AV U->Bool| .raw (.slice none 0 0)=>false|_=>true
section
variable {T:Tab}
theorem wm5 {H:List (Ent T.U)} (s:Sh) (hs:s.simple=true) (a:AV T.U) (l l':Src) (x:s.den T) (h:rdS T H s a l=some (x,l')) (hn:vm3 a=true):
  l'=l/\ ∀(σ:Nat->Nat) (k:Nat),(∀p i,l[p]?=some (some i)->σ p=i)->mkA T σ s x k=a:=by
 cases s<;>try (cases hs;done)
 ·rename_i t;unfold rdS at h;split at h<;>try (cases h;done)
  rename_i y hy;simp only [X0,X7] at h;obtain ⟨rfl,rfl⟩:=h;refine ⟨rfl,fun σ k _=>?_⟩;have:=vt4 hy (by intro e;subst e;cases hn);exact this.symm
 ·rename_i i o;unfold rdS at h;split at h<;>try (cases h;done)
  rename_i j o' ha;split at h<;>try (cases h;done)
  rename_i hb;simp only [X3] at hb;simp only [X0,X7] at h;obtain ⟨_,rfl⟩:=h;have:=jj9 ha;subst this;refine ⟨rfl,fun σ k hσ=>?_⟩;show AV.ptr (σ i) o=_;rw [hσ _ _ (zh7 hb.2),X1 hb.1]
 ·rename_i i;unfold rdS at h;split at h<;>try (cases h;done)
  rename_i j ha;split at h<;>try (cases h;done)
  rename_i hb;simp only [X0,X7] at h;obtain ⟨_,rfl⟩:=h;have:=yp1 ha;subst this;refine ⟨rfl,fun σ k hσ=>?_⟩;show AV.own (σ i)=_;rw [hσ _ _ (zh7 hb)]
 ·unfold rdS at h;split at h<;>try (cases h;done)
  rename_i hb;simp only [X0,X7] at h;obtain ⟨_,rfl⟩:=h;have:=va4 hb;subst this;exact ⟨rfl,fun σ k _=>rfl⟩
 ·rename_i t n;unfold rdS at h;split at h<;>try (cases h;done)
  rename_i xs ha;simp only [X0,X7] at h;obtain ⟨rfl,rfl⟩:=h;have:=qr2 ha;subst this;exact ⟨rfl,fun σ k _=>rfl⟩
 ·rename_i i o sz n c;unfold rdS at h;split at h<;>try (cases h;done)
  rename_i j o' sz' n' q c' ha;split at h<;>try (cases h;done)
  rename_i hb;simp only [X3] at hb;simp only [X0,X7] at h;obtain ⟨rfl,rfl⟩:=h;have:=qn1 ha;subst this;refine ⟨rfl,fun σ k hσ=>?_⟩;show AV.aptr (σ i) o sz n x c=_;rw [hσ _ _ (zh7 hb.1),X1 hb.2.1,X1 hb.2.2.1,X1 hb.2.2.2.1,X1 hb.2.2.2.2]
 ·rename_i n;unfold rdS at h;split at h<;>try (cases h;done)
  rename_i hb;simp only [X0,X7] at h;obtain ⟨_,rfl⟩:=h;have:=vo8 hb;subst this;exact ⟨rfl,fun σ k _=>rfl⟩
end
structure KSpec (T:Tab) where
 o:Nat
 e:TypeId
 cs:List Sh
 ps:List Sh
 post:List PE
 rs:List Sh
 g:zd8 T (.ptr o e cs::ps)->Option (zl5 T (.blk e cs::post)×zd8 T rs)
def vk3 {T:Tab} (H:List (Ent T.U)):List (AV T.U)->Bool
 | .ptr i _::_=>(match H[i]? with|some (.blk _ cs)=>cs.all vm3|_=>false)
 |_=>false
section
variable {T:Tab} {P:Program}
theorem σJ_at {ids:List Nat} {n j i:Nat} (h:ids[j]?=some i):σJ ids n j=i:=by
 have hlt:=(X2.1 h).1;have:=σJ_lo (ids:=ids) (n:=n) hlt;rw [h] at this;exact (X5 this).symm
def CallSpec.forkH {T:Tab} (c:List (AV T.U)->List (Ent T.U)->Bool) (a b:CallSpec T):CallSpec T where
 call:=fun as H K Kp=>q7 (c as H) (a.call as H K Kp) (b.call as H K Kp)
 q:=fun as H K=>q7 (c as H) (a.q as H K) (b.q as H K)
 isq:=a.isq
 wr:=fun as H=>a.wr as H++b.wr as H
def CallSpec.forkS {T:Tab} (ps:List Sh) (c:zd8 T ps->Bool) (a b:CallSpec T):CallSpec T:=CallSpec.forkH (fun as H=>match zp0 T H ps as [] with|some (x,_)=>c x|none=>false) a b
theorem qa1 {f:FuncId} (c:List (AV T.U)->List (Ent T.U)->Bool) {a b:CallSpec T} (ha:zb4 T P f a/\zk2 T P f a/\yh1 a) (hb:zb4 T P f b/\zk2 T P f b/\yh1 b):zb4 T P f (CallSpec.forkH c a b)/\zk2 T P f (CallSpec.forkH c a b)/\yh1 (CallSpec.forkH c a b):=by
 refine ⟨fun as H K Kp r h=>?_,fun as H K r h=>?_,fun as H K Kp r h=>?_⟩
 ·rcases zn3 h with ⟨_,h⟩|⟨_,h⟩
  ·exact ha.1 as H K Kp r h
  ·exact hb.1 as H K Kp r h
 ·rcases zn3 h with ⟨_,h⟩|⟨_,h⟩
  ·exact ha.2.1 as H K r h
  ·exact hb.2.1 as H K r h
 ·have ec: ∀c0,c as H=c0-> ∀ {R':Type} (K' Kp':AV T.U->List (Ent T.U)->Option R'),(CallSpec.forkH c a b).call as H K' Kp'=q7 c0 (a.call as H K' Kp') (b.call as H K' Kp'):=fun c0 hc _ K' Kp'=>by
   subst hc;rfl
  have ew:(CallSpec.forkH c a b).wr as H=a.wr as H++b.wr as H:=rfl;rw [ew];have kl: ∀ {H1:List (Ent T.U)},Keeps T (a.wr as H) H H1->Keeps T (a.wr as H++b.wr as H) H H1:=fun h=>⟨h.len,fun e he hn=>h.same e he fun hm=>hn (X4.2 (.inl hm)),h.row⟩;have kr: ∀ {H1:List (Ent T.U)},Keeps T (b.wr as H) H H1->Keeps T (a.wr as H++b.wr as H) H H1:=fun h=>⟨h.len,fun e he hn=>h.same e he fun hm=>hn (X4.2 (.inr hm)),h.row⟩;cases hc:c as H with
  |true=>
   rw [ec _ hc] at h;have:=ha.2.2 as H K Kp r h;rcases this with ⟨x,H1,h1,h2,h3⟩|⟨x,H1,h1,h2,h3⟩
   ·exact .inl ⟨x,H1,h1,kl h2,fun K' Kp'=>(ec _ hc K' Kp').trans (h3 K' Kp')⟩
   ·exact .inr ⟨x,H1,h1,kl h2,fun K' Kp'=>(ec _ hc K' Kp').trans (h3 K' Kp')⟩
  |false=>
   rw [ec _ hc] at h;have:=hb.2.2 as H K Kp r h;rcases this with ⟨x,H1,h1,h2,h3⟩|⟨x,H1,h1,h2,h3⟩
   ·exact .inl ⟨x,H1,h1,kr h2,fun K' Kp'=>(ec _ hc K' Kp').trans (h3 K' Kp')⟩
   ·exact .inr ⟨x,H1,h1,kr h2,fun K' Kp'=>(ec _ hc K' Kp').trans (h3 K' Kp')⟩
theorem zn6 {f:FuncId} (ps:List Sh) (c:zd8 T ps->Bool) {a b:CallSpec T} (ha:zb4 T P f a/\zk2 T P f a/\yh1 a) (hb:zb4 T P f b/\zk2 T P f b/\yh1 b):zb4 T P f (CallSpec.forkS ps c a b)/\zk2 T P f (CallSpec.forkS ps c a b)/\yh1 (CallSpec.forkS ps c a b):=qa1 _ ha hb
end
end Go.X
