import Derived.Test.YthhhfnfgmijggaaGreatX8
namespace Go.X
open Go.RowKit Go.V
section
variable {T:Tab} {P:Program} {C:Ctx T} {w w':World} {S S':List Nat} {φ φ':Nat->RA} {w0:World} {S0:Ow} {F:AF T} {H:List (Ent T.U)} {F':PF}
variable {ops:Array Oper} {Q:Exit->Act->World->Prop} {k n:Nat} {ds:List Deferred} {o:Oper}
theorem zn9 {F:AF T}: ∀ {l:List Operand} {as:List (AV T.U)},zu7 T F l=some as->l.length=as.length
 | [],as,h=>by simp only [zu7,X0] at h;subst h;rfl
 |x::r,as,h=>by
  unfold zu7 at h;split at h
  ·rename_i a l ha hl;simp only [X0] at h;subst h;simp [zn9 hl]
  ·cases h
theorem gt8 {Z:Prop} {R:Type} {r:R} (hd:dec ops k n F'=some o) {K0:AV T.U->Option R} (hs:zp9 P o ⟨F,H⟩ K0=some r) (h:Sim T w0 S0 ⟨F,H⟩ F' w S φ)
  (K: ∀a v,K0 a=some r->QR P F' o S φ (vi1 o F) w v->VR T w S φ a v->okA H a->Z):Z:=by
 unfold zp9 at hs;simp only at hs;split at hs
 ·rename_i a ha;split at hs
  ·rename_i hm;obtain ⟨v,h1,h2⟩:=kd5 (P:=P) ha h.fr o rfl;exact K _ v hs (fun w1 _ _=>h1 w1) h2 (kt5 h ha hm)
  ·cases hs
 ·split at hs
  ·rename_i hop;split at hs
   ·rename_i hc hx hy;exact wo0 hd hop hc hx hy hs h K
   ·cases hs
  ·rename_i hop;split at hs
   ·rename_i hx hy;exact ut9 hd hop hx hy hs h K
   ·cases hs
  ·rename_i hop;split at hs
   ·rename_i p hx;split at hs
    ·rename_i a hl;exact ge9 hd hop hx hl h (fun i hi=>by unfold vi1;rw [hop];simp only [hx];exact hi) fun v=>K _ v hs
    ·cases hs
   ·cases hs
  ·rename_i hop;split at hs
   ·rename_i hs1 hd1 ha;split at hs
    ·rename_i he;exact vx9 hop ha hs1 hd1 he hs (fun i hi=>by simp only [vi1,hop,ha];exact hi) h K
    ·cases hs
   ·cases hs
  ·rename_i t0 x0 y0 hop;split at hs
   ·rename_i s0 j0 hu hx hy;unfold jd1 at hs;split at hs
    ·rename_i b hb;obtain ⟨X,h1,h2⟩:=w7 h.fr hx;obtain ⟨Y,h3,h4⟩:=w7 h.fr hy;have e1:=zn8 h2;have e2:=za8 h4;subst e1;subst e2;refine K _ (.int .u8 b.toNat) hs (fun w1 _ _=>?_) (VR.int _ _) (jt3 _ _);simp only [execOp,hop,u0 h1,u0 h3,Instr.index,asIntOf,Sem.run_bind,Sem.run_pure,Result.andThen_ok,run_underlying hu];rw [hb];rfl
    ·cases hs
   ·cases hs
  ·rename_i hop;split at hs
   ·rename_i hx hy;exact gj4 hd hop hx hy hs h K
   ·cases hs
  ·rename_i hop;split at hs
   ·rename_i hx hlo hhi;split at hs
    ·cases hs
    ·rename_i hne;refine go5 hd hop hx hlo hhi ?_ hs h K
     grind
   ·cases hs
  ·rename_i x0 xt0 at0 ok0 hop;split at hs
   ·rename_i a hx;split at hs
    ·rename_i b hb;split at hs
     ·rename_i hne;obtain ⟨v,h1,h2⟩:=w7 h.fr hx;obtain ⟨u,h3,h4⟩:=qk4 (xt:=xt0) hb h2;refine K _ u hs (fun w1 _ _=>?_) h4 (zd9 hne fun i hi=>(zd0 h hx).1 i (qj1 hb i hi));simp [execOp,hop,u0 h1,h3]
     ·cases hs
    ·cases hs
   ·cases hs
  ·rename_i c hop;split at hs
   ·cases hs
   ·rename_i as has;have h5:=yc9 h.fr has;split at hs
    ·rename_i hc;split at hs
     ·rename_i a t hat;split at hs
      ·rename_i z hz;have e1:=zg0 hat;have hv: ∃v,(c.args.map (evD F'))= #[v]/\VR T w S φ a v:=by
        have h6:VRL T w S φ [a] (c.args.toList.map (evD F')):=h5
        match hm:c.args.toList.map (evD F'),h6 with
        | [v],h6=>exact ⟨v,zg0 (by simpa using hm),h6.1⟩
       obtain ⟨v,hv1,hv2⟩:=hv;exact K _ _ hs (fun w1 _ _=>by simp [execOp,hop,resolve,hc,invoke,hv1,e1,builtin,ka0 hz h hv2]) (VR.int _ _) (jt3 _ _)
      ·split at hs
       ·rename_i z hz;have e1:=zg0 hat;have hv: ∃v,(c.args.map (evD F'))= #[v]/\VR T w S φ a v:=by
         have h6:VRL T w S φ [a] (c.args.toList.map (evD F')):=h5
         match hm:c.args.toList.map (evD F'),h6 with
         | [v],h6=>exact ⟨v,zg0 (by simpa using hm),h6.1⟩
        obtain ⟨v,hv1,hv2⟩:=hv;refine K _ _ hs (fun w1 _ hsm=>?_) (VR.int _ _) (jt3 _ _);have hsm':Same φ (qh2 [a]) w w1:=fun i hi=>hsm i (by unfold vi1;rw [hop];simp only [hc,has];exact hi);simp [execOp,hop,resolve,hc,invoke,hv1,e1,builtin,wp7 hz h hv2 _ hsm']
       ·cases hs
     ·cases hs
    ·rename_i hc;split at hs
     ·rename_i a ha;obtain ⟨v,h1,h2,h3⟩:=kv5 (P:=P) (H:=H) ha h5 c.argTypes o.type;have h1': ∀w,(Builtin.min_ c.argTypes o.type (c.args.map (evD F'))).run P w=.ok v w:=fun w=>by simpa [<-Array.toList_map] using h1 w
      exact K _ v hs (fun w1 _ _=>by simp [execOp,hop,resolve,hc,invoke,builtin,h1']) h2 h3
     ·cases hs
    ·rename_i hc;split at hs
     ·rename_i a ha;obtain ⟨v,h1,h2,h3⟩:=kn3 (P:=P) (H:=H) ha h5 c.argTypes o.type;have h1': ∀w,(Builtin.max_ c.argTypes o.type (c.args.map (evD F'))).run P w=.ok v w:=fun w=>by simpa [<-Array.toList_map] using h1 w
      exact K _ v hs (fun w1 _ _=>by simp [execOp,hop,resolve,hc,invoke,builtin,h1']) h2 h3
     ·cases hs
    ·cases hs
  ·cases hs
theorem vc8 {t:TypeId} {n0 sz:Nat} (hai:zg9 P t=some (n0,sz)) (h:gf8 P t=true): ∃e d,P.underlying t=some (.array n0 e)/\P.underlying e=some d/\yb6 d=false:=by
 obtain ⟨e,inf,hu,_,_,_⟩:=zj2 hai;unfold gf8 at h;rw [hu] at h;simp only at h;split at h
 ·rename_i d hd;exact ⟨e,d,hu,hd,by simpa using h⟩
 ·cases h
theorem kw9 {Z:Prop} {R:Type} {r:R} (hd:dec ops k n F'=some o) {K0:AV T.U->Option R} (hs:zv9 P o ⟨F,H⟩ K0=some r) (h:Sim T w0 S0 ⟨F,H⟩ F' w S φ)
  (K: ∀a v,K0 a=some r->QR P F' o S φ (vi1 o F) w v->VR T w S φ a v->okA H a->Z):Z:=by
 unfold zv9 at hs;split at hs
 ·unfold yn2 at hs;simp only at hs;split at hs
  ·rename_i hop;split at hs
   ·rename_i hai hx hy;exact kv8 hd hop hai hx hy hs h K
   ·cases hs
  ·rename_i hop;split at hs
   ·rename_i hai hx hy hel;obtain ⟨e,d,q1,q2,q3⟩:=vc8 hai hel;exact kv3 hop hai q1 q2 q3 hx hy hs h K
   ·cases hs
  ·rename_i hop;split at hs
   ·rename_i hai hx hlo hhi;exact kt0 hd hop hai hx hlo hhi hs h K
   ·cases hs
  ·rename_i hop;split at hs
   ·rename_i hai hx;exact gw5 hop hai hx hs h K
   ·cases hs
  ·rename_i t x hop;split at hs
   ·rename_i n0 sz p hai hx;have hrd: ∀i∈p.ids,i∈vi1 o F:=fun i hi=>by unfold vi1;rw [hop];simp only [hx];exact hi
    refine gs4 hd hop hai (fun hok=>?_) hx hs h hrd K fun hD=>?_
    ·unfold qf3;split at hok
     ·rename_i inf hinf;rw [hinf];exact congrArg some (X1 hok)
     ·cases hok
    ·obtain ⟨a,hl,hK⟩:=zb3 hD;exact ge9 hd hop hx hl h hrd fun v=>K _ v hK
   ·cases hs
  ·rename_i hop;split at hs
   ·rename_i a hx;split at hs
    ·rename_i hsa;obtain ⟨v,h1,h2⟩:=w7 h.fr hx;exact K _ v hs (ka8 hop hsa h1 h2) h2 (zd0 h hx)
    ·cases hs
   ·cases hs
  ·rename_i hop;split at hs
   ·rename_i m kx x hm hk;have hrd: ∀i∈m.ids,i∈vi1 o F:=fun i hi=>by unfold vi1;rw [hop];simp only [hm];exact hi
    refine gq6 hd hop hm hk hs h hrd fun a v hK hq hv hi=>?_;split at hK
    ·rename_i hne;exact K _ v hK hq hv (zd9 hne hi)
    ·cases hK
   ·cases hs
  ·cases hs
 ·exact gt8 hd hs h K
theorem vv7 {R:Type} {r:R} (hE:v7 T P C.E) {c:Call} (hd:dec ops k n F'=some o) (hop:o.op=.call c) {K:AV T.U->List (Ent T.U)->Option R} {Kp:AV T.U->List (Ent T.U)->Option R} (hs:ym9 P C c ⟨F,H⟩ K Kp=some r) (h:Sim T w0 S0 ⟨F,H⟩ F' w S φ)
  (HK: ∀b H1,K b H1=some r->zw3 P ops Q (k+1) n ds w0 S0 (⟨zb7 T F o.dst b,H1⟩:St T)) (HP: ∀b H1,Kp b H1=some r->yr1 Q n ds w0 S0 b (⟨F,H1⟩:St T)):WR P ops Q k n ds F' w:=by
 unfold ym9 at hs;split at hs
 ·cases hs
 ·rename_i as has;have h5:=yc9 h.fr has;split at hs
  ·rename_i f hc;split at hs
   ·rename_i g first caps hf
    split at hs
    ·rename_i cs he hcs;split at hs
     ·rename_i hall;exact kk2 hd hop hc hf has he (hE g cs hcs).1 hall hs h HK HP
     ·cases hs
    ·cases hs
   ·cases hs
  ·rename_i hc;split at hs
   ·rename_i s x t t' hat;split at hs
    ·rename_i e htt he;have:=X1 htt;subst this
     match hl:c.args.toList,has with
     | [x0,y0],has=>
      unfold zu7 at has;split at has
      ·rename_i a1 l1 hx hl1;simp only [X0,List.cons.injEq] at has;obtain ⟨rfl,rfl⟩:=has;unfold zu7 at hl1;split at hl1
       ·rename_i a2 l2 hy hl2;simp only [X0,List.cons.injEq] at hl1;obtain ⟨rfl,rfl⟩:=hl1;exact vw6 hd hop hc hl hat hx hy hs h HK
       ·cases hl1
      ·cases has
     | [],has=>exact absurd (zn9 has) (by simp)
     | [x0],has=>exact absurd (zn9 has) (by simp)
     |x0::y0::z0::r0,has=>exact absurd (zn9 has) (by simp)
    ·cases hs
   ·cases hs
  ·rename_i hc;split at hs
   ·rename_i s t hat
    match hl:c.args.toList,has with
    | [x0],has=>
     unfold zu7 at has;split at has
     ·rename_i a1 l1 hx hl1;simp only [X0,List.cons.injEq] at has;obtain ⟨rfl,rfl⟩:=has;exact kv4 hd hop hc hl hat hx hs h HK
     ·cases has
    | [],has=>exact absurd (zn9 has) (by simp)
    |x0::y0::r0,has=>exact absurd (zn9 has) (by simp)
   ·cases hs
  ·rename_i hc;split at hs
   ·rename_i m kx x t at2 hat;split at hs
    ·rename_i H1 hdl
     match hl:c.args.toList,has with
     | [x0,y0],has=>
      unfold zu7 at has;split at has
      ·rename_i a1 l1 hx hl1;simp only [X0,List.cons.injEq] at has;obtain ⟨rfl,rfl⟩:=has;unfold zu7 at hl1;split at hl1
       ·rename_i a2 l2 hy hl2;simp only [X0,List.cons.injEq] at hl1;obtain ⟨rfl,rfl⟩:=hl1;exact kc8 hd hop hc hl hat hx hy hdl h (HK _ _ hs)
       ·cases hl1
      ·cases has
     | [],has=>exact absurd (zn9 has) (by simp)
     | [x0],has=>exact absurd (zn9 has) (by simp)
     |x0::y0::z0::r0,has=>exact absurd (zn9 has) (by simp)
    ·cases hs
   ·cases hs
  ·cases hs
theorem zg8 {R:Type} {r:R} (hE:v7 T P C.E) (hd:dec ops k n F'=some o) {K:St T->Option R} {Kp:AV T.U->St T->Option R} (hs:stepA P C o ⟨F,H⟩ K Kp=some r) (h:Sim T w0 S0 ⟨F,H⟩ F' w S φ)
  (HK: ∀st,K st=some r->zw3 P ops Q (k+1) n ds w0 S0 st) (HP: ∀a st,Kp a st=some r->yr1 Q n ds w0 S0 a st):WR P ops Q k n ds F' w:=by
 have hread:zv9 P o ⟨F,H⟩ (fun a=>K ⟨zb7 T F o.dst a,H⟩)=some r->WR P ops Q k n ds F' w:=fun hs=>
  kw9 hd hs h fun a v hK hq hv hok=>jq8 hd (hq w (Chg.refl _ _) fun _ _ _ _ _=>rfl) h hv hok (HK _ hK)
 unfold stepA at hs;simp only at hs;split at hs
 ·rename_i hop;split at hs
  ·rename_i cs hz;split at hs
   ·rename_i cs' hl;exact kc3 hd hop hz hl h (HK _ hs)
   ·cases hs
  ·cases hs
 ·rename_i hop;split at hs
  ·rename_i a ha;split at hs
   ·rename_i cs hb;obtain ⟨g1,g2⟩:=kn6 hb;exact uc9 hd hop ha (fun _ _ _ _ hv=>g2 hv) g1 h (HK _ hs)
   ·cases hs
  ·cases hs
 ·rename_i hop;split at hs
  ·rename_i kd kt et hmk _;exact kk9 hd hop hmk h (HK _ hs)
  ·rename_i kd kt et ty hmk _;exact kc6 hd hop hmk h (HK _ hs)
  ·cases hs
 ·rename_i hop;split at hs
  ·rename_i hdst hm hx hv;split at hs
   ·rename_i H1 hne hi;exact jy5 hd (.inl hop) hdst hm hx hv hi h (HK _ hs)
   ·cases hs
  ·cases hs
 ·rename_i hop;split at hs
  ·rename_i hdst hm hx hv;split at hs
   ·rename_i H1 hne hi;exact jy5 hd (.inr hop) hdst hm hx hv hi h (HK _ hs)
   ·cases hs
  ·cases hs
 ·rename_i hop;split at hs
  ·rename_i hdst hx hy;split at hs
   ·rename_i H1 hl;exact kp7 hd hop hdst hx hy hl h (HK _ hs)
   ·cases hs
  ·cases hs
 ·rename_i hop;split at hs
  ·rename_i hx hy he;exact wa2 hd hop hx hy hs h fun a H1 ha=>HK _ ha
  ·cases hs
 ·rename_i hop;split at hs
  ·rename_i l ty hl he;split at hs
   ·rename_i e xs hb;exact kb1 hd hop hl hb h (HK _ hs)
   ·cases hs
  ·rename_i l hl he;split at hs
   ·rename_i e sz cs hb;exact vd6 hd hop hl hb h (HK _ hs)
   ·cases hs
  ·cases hs
 ·rename_i hop;split at hs
  ·exact hread hs
  ·exact vv7 hE hd hop hs h (fun b H1 hb=>HK _ hb) fun b H1 hb=>HP _ _ hb
 ·rename_i s d x hop;split at hs
  ·rename_i e b h1 h2 h3;split at hs
   ·rename_i h4;exact vg0 hd hop h3 h1 h2 h4 h (HK _ hs)
   ·cases hs
  ·rename_i e i h1 h2 h3;split at hs
   ·rename_i y xs hb _ h4 h5;have:=X1 hb;subst this
    replace h5:(match H[i]? with|some (.row _ ty' xs)=>if h:ty'=.int .u8 then some (h▸xs:List (den T.U (.int .u8))) else none|_=>none)=some (y::xs):=h5
    split at h5<;>try (cases h5;done)
    rename_i et ty' zs hi;split at h5<;>try (cases h5;done)
    rename_i ht;subst ht;have h5:zs=y::xs:=X5 h5;subst h5;exact kd3 hd hop h3 h2 h4 hi (by simp) h (HK _ hs)
   ·cases hs
  ·exact hread hs
 ·rename_i x hop;split at hs
  ·rename_i t a hx;obtain ⟨X,h1,u,rfl,h2⟩:=w7 h.fr hx;have hrun:(execOp (evD F') o).run P w=.halt (.panic (.iface t u)) w:=by
    simp [execOp,hop,u0 h1,Instr.panic,goPanic]
   exact .throw hd hrun fun act hact=>HP _ _ hs F' w S φ (.iface t u) h ⟨u,rfl,h2⟩ (zd0 h hx) act hact
  ·cases hs
 ·exact hread hs
end
end Go.X
