import Derived.Test.YthhhfnfgmijggaaGreatX19
namespace Go.X
open Go.RowKit Go.V
section
variable {T:Tab} {P:Program} {w w':World} {S S':List Nat} {φ φ':Nat->RA} {w0:World} {S0:Ow} {F:AF T} {H:List (Ent T.U)} {F':PF}
theorem va9 {H:List (Ent T.U)}: ∀(ps:List PE) (j:Nat) (l l':Src) (x:zl5 T ps),rdP T H ps j l=some (x,l')->
  ∃new,l'=l++new.map some/\new.length=zf5 ps/\(∀i∈new,∃e,H[i]?=some e/\e.live=true/\ ∀j∈e.cellIds,some j∈l')/\(∀i,some i∈zt1 ps j-> ∃e,H[i]?=some e/\ ∀j∈e.cellIds,some j∈l')/\
   ∀ρ,Places ρ l'->ImpH T (zi7 T H ρ (zt1 ps j)) (mkP T id ps x l.length)/\ImpH T (ze7 T H ρ new) (ya1 T id ps x l.length)
 | [],j,l,l',x,h=>by
  simp only [rdP,X0,X7] at h;obtain ⟨_,rfl⟩:=h;exact ⟨[],by simp,rfl,(by intro i hi;cases hi),(by intro i hi;cases hi),fun ρ hρ=>⟨.nil,.nil⟩⟩
 |p::r,j,l,l',x,h=>by
  unfold rdP at h;split at h<;>try (cases h;done)
  rename_i y l1 hy;obtain ⟨z,hz,rfl⟩:=zp2 h;obtain ⟨n2,k1,k2,k3,k4,k5⟩:=va9 r (j+1) l1 l' z hz;have hsub: ∀i,some i∈l1->some i∈l':=fun i hi=>by rw [k1];exact X4.2 (.inl hi)
  cases p with
  |gone=>
   simp only [ki9,X0,X7] at hy;obtain ⟨_,rfl⟩:=hy;refine ⟨n2,k1,by rw [k2];show _=0+zf5 r;omega,k3,fun i hi=>?_,fun ρ hρ=>?_⟩
   ·have hi:some i∈none::zt1 r (j+1):=hi;exact k4 i (by simpa using hi)
   ·obtain ⟨q1,q2⟩:=k5 ρ hρ;exact ⟨.cons (.same _) q1,q2⟩
  |row e t=>
   simp only [ki9] at hy;split at hy<;>try (cases hy;done)
   rename_i xs hx;simp only [X0,X7] at hy;obtain ⟨rfl,rfl⟩:=hy;have hx:=zx4 hx;refine ⟨n2,k1,by rw [k2];show _=0+zf5 r;omega,k3,fun i hi=>?_,fun ρ hρ=>?_⟩
   ·have hi:some i∈some j::zt1 r (j+1):=hi;rcases Z0.1 hi with hi|hi
    ·simp only [X0] at hi;subst hi;exact ⟨_,hx,by intro j hj;cases hj⟩
    ·exact k4 i hi
   ·obtain ⟨q1,q2⟩:=k5 ρ hρ;refine ⟨?_,q2⟩;show ImpH T ((match H[j]? with|some e=>e.ren ρ|none=>.gone)::zi7 T H ρ (zt1 r (j+1))) _;rw [hx];exact .cons (.same _) q1
  |tmap kd t=>
   simp only [ki9] at hy;split at hy<;>try (cases hy;done)
   rename_i xs hx;simp only [X0,X7] at hy;obtain ⟨rfl,rfl⟩:=hy;have hx:=jz1 hx;refine ⟨n2,k1,by rw [k2];show _=0+zf5 r;omega,k3,fun i hi=>?_,fun ρ hρ=>?_⟩
   ·have hi:some i∈some j::zt1 r (j+1):=hi;rcases Z0.1 hi with hi|hi
    ·simp only [X0] at hi;subst hi;exact ⟨_,hx,by intro j hj;cases hj⟩
    ·exact k4 i hi
   ·obtain ⟨q1,q2⟩:=k5 ρ hρ;refine ⟨?_,q2⟩;show ImpH T ((match H[j]? with|some e=>e.ren ρ|none=>.gone)::zi7 T H ρ (zt1 r (j+1))) _;rw [hx];exact .cons (.same _) q1
  |dr e d fe=>
   simp only [ki9] at hy;split at hy<;>try (cases hy;done)
   rename_i xs hx;simp only [X0,X7] at hy;obtain ⟨rfl,rfl⟩:=hy;have hx:=yy7 hx;refine ⟨n2,k1,by rw [k2];show _=0+zf5 r;omega,k3,fun i hi=>?_,fun ρ hρ=>?_⟩
   ·have hi:some i∈some j::zt1 r (j+1):=hi;rcases Z0.1 hi with hi|hi
    ·simp only [X0] at hi;subst hi;exact ⟨_,hx,by intro j hj;cases hj⟩
    ·exact k4 i hi
   ·obtain ⟨q1,q2⟩:=k5 ρ hρ;refine ⟨?_,q2⟩;show ImpH T ((match H[j]? with|some e=>e.ren ρ|none=>.gone)::zi7 T H ρ (zt1 r (j+1))) _;rw [hx];exact .cons (.same _) q1
  |blk e cs=>
   simp only [ki9] at hy;split at hy<;>try (cases hy;done)
   rename_i as hb;have hb:=zw8 hb;obtain ⟨n1,g1,g2,g3⟩:=ze4 cs as l l1 y hy;have hlen:l1.length=l.length+zb5 cs:=by rw [g1.eq,X9,List.length_map,g2]
   refine ⟨n1++n2,by rw [k1,g1.eq,List.map_append,Q2],by rw [X9,g2,k2];rfl,fun i hi=>?_,fun i hi=>?_,fun ρ hρ=>?_⟩
   ·rcases X4.1 hi with hi|hi
    ·obtain ⟨e,a,b,c⟩:=g1.ents i hi;exact ⟨e,a,b,fun j hj=>hsub j (c j hj)⟩
    ·exact k3 i hi
   ·have hi:some i∈some j::zt1 r (j+1):=hi;rcases Z0.1 hi with hi|hi
    ·simp only [X0] at hi;subst hi;exact ⟨_,hb,fun j hj=>hsub j (g1.ids j hj)⟩
    ·exact k4 i hi
   ·obtain ⟨q1,q2⟩:=k5 ρ hρ;obtain ⟨q3,q4⟩:=g3 ρ (by rw [k1] at hρ;exact hρ.pre);rw [hlen] at q1 q2;refine ⟨?_,by rw [zq0];exact q4.app q2⟩;show ImpH T ((match H[j]? with|some e=>e.ren ρ|none=>.gone)::zi7 T H ρ (zt1 r (j+1))) _;rw [hb];exact .cons (.blk q3) q1
  |map kd keys cs=>
   simp only [ki9] at hy;split at hy<;>try (cases hy;done)
   rename_i as hb;have hb:=jh7 hb;obtain ⟨n1,g1,g2,g3⟩:=ze4 cs as l l1 y hy;have hlen:l1.length=l.length+zb5 cs:=by rw [g1.eq,X9,List.length_map,g2]
   refine ⟨n1++n2,by rw [k1,g1.eq,List.map_append,Q2],by rw [X9,g2,k2];rfl,fun i hi=>?_,fun i hi=>?_,fun ρ hρ=>?_⟩
   ·rcases X4.1 hi with hi|hi
    ·obtain ⟨e,a,b,c⟩:=g1.ents i hi;exact ⟨e,a,b,fun j hj=>hsub j (c j hj)⟩
    ·exact k3 i hi
   ·have hi:some i∈some j::zt1 r (j+1):=hi;rcases Z0.1 hi with hi|hi
    ·simp only [X0] at hi;subst hi;exact ⟨_,hb,fun j hj=>hsub j (g1.ids j (jm5 keys as j hj))⟩
    ·exact k4 i hi
   ·obtain ⟨q1,q2⟩:=k5 ρ hρ;obtain ⟨q3,q4⟩:=g3 ρ (by rw [k1] at hρ;exact hρ.pre);rw [hlen] at q1 q2;refine ⟨?_,by rw [zq0];exact q4.app q2⟩;show ImpH T ((match H[j]? with|some e=>e.ren ρ|none=>.gone)::zi7 T H ρ (zt1 r (j+1))) _;rw [hb];refine .cons ?_ q1;show ImpE T (.map kd (qd8 ρ (yf1 keys as))) _;rw [yj5];exact .map q3
theorem zo3: ∀(ps:List PE) (j:Nat),(zt1 ps j).length=ps.length
 | [],j=>rfl
 | .gone::r,j=>by simp [zt1,zo3 r]
 | .row _ _::r,j=>by simp [zt1,zo3 r]
 | .tmap _ _::r,j=>by simp [zt1,zo3 r]
 | .dr _ _ _::r,j=>by simp [zt1,zo3 r]
 | .blk _ _::r,j=>by simp [zt1,zo3 r]
 | .map _ _ _::r,j=>by simp [zt1,zo3 r]
theorem vn5: ∀(ps:List PE) (j k:Nat),k<ps.length->(zt1 ps j)[k]?=some (some (j+k))\/(zt1 ps j)[k]?=some none
 | [],j,k,h=>by simp at h
 |p::r,j,0,h=>by cases p<;>simp [zt1]
 |p::r,j,k+1,h=>by
  have:=vn5 r (j+1) k (by simpa using h);rw [show j+1+k=j+(k+1) by omega] at this;cases p<;>simpa [zt1] using this
theorem zh8 {w0:World} {S0:Ow} {F:AF T} {F':PF} {w:World} {S:List Nat}: ∀(l:List (Nat×Nat×TypeId×Ty)) {as:List (AV T.U)} {us:List Value} {H:List (Ent T.U)} {φ:Nat->RA},Sim T w0 S0 ⟨F,H⟩ F' w S φ->VRL T w S φ as us->(∀i∈w9 as,i<H.length)->
  ∃φ',Sim T w0 S0 ⟨F,ze9 T l H⟩ F' w S φ'/\VRL T w S φ' as us/\ ∀i∈w9 as,i<(ze9 T l H).length
 | [],as,us,H,φ,h,hv,hi=>⟨φ,h,hv,hi⟩
 |(i,c,e,t)::r,as,us,H,φ,h,hv,hids=>by
  unfold ze9;split
  ·obtain ⟨φ1,h1,h2,h3⟩:=h.closeL (List.range H.length);exact zh8 r h1 (hv.phiS fun i _=>h2 i) fun i hm=>by rw [h3];exact hids i hm
  split
  ·rename_i e0 cs hi;split
   ·rename_i hc;have h1:=h.addNil e t;have hil:=(X2.1 hi).1;obtain ⟨g,cv,a1,a2,a3,a4⟩:=h1.ents i _ (by rw [X8 hil];exact hi);have h2:=h1.upd (i:=i) (e0:=.blk e0 cs) (e:=.blk e0 (cs.set c (.own H.length))) (Tc:= []) (w':=w) (by rw [X8 hil];exact hi) rfl (Chg.refl [] w) (by simp)
     ⟨g,cv,a1,a2,a3,BR.swap (b:=.own H.length) rfl rfl (fun v hv=>by rw [VR] at hv;subst hv;rw [VR,za2]) a4 hc⟩
     (by
      intro j hj;rw [Ent.cellIds] at hj;obtain ⟨b,hb,hjb⟩:=zt0 hj;rcases List.mem_or_eq_of_mem_set hb with hb|hb
      ·have:=h.eids i _ hi j (by rw [Ent.cellIds];exact zh1 hb j hjb);simp at this⊢;omega
      ·subst hb;simp [AV.ids] at hjb;subst hjb;simp) (by intro _ _ _ h;cases h)
    have hset:(H++ [Ent.row e t []]).set i (.blk e0 (cs.set c (.own H.length)))=H.set i (.blk e0 (cs.set c (.own H.length)))++ [.row e t []]:=by
     rw [List.set_append_left _ _ hil]
    rw [hset] at h2;exact zh8 r h2 (hv.phi fun i hm=>zi3 (by have:=hids i hm;omega)) fun i hm=>by have:=hids i hm;simp;omega
   ·rename_i k hc;split
    ·split
     ·rename_i e' t' xs hk;exact zh8 r (h.cellSl hi hc hk) hv fun i hm=>by have:=hids i hm;simpa using this
     ·exact zh8 r h hv hids
    ·exact zh8 r h hv hids
   ·exact zh8 r h hv hids
  ·exact zh8 r h hv hids
end
section
variable (T:Tab)
def ji5 (post:List PE) (rs:List Sh) (y:zl5 T post) (z:zd8 T rs) (w:World) (S:List Nat) (φ:Nat->RA) (cnt:Nat) (w':World) (us:List Value):Prop:=
 ∃(F1:PF) (S1:List Nat) (φ1:Nat->RA),Sim T w ⟨zd5 φ cnt,S,(List.range cnt).map φ⟩ ⟨[],mkP T id post y post.length++(ya1 T id post y post.length++zh0 T id rs z (post.length+zf5 post))⟩ F1 w' S1 φ1/\
  VRL T w' S1 φ1 (zc6 T id rs z (post.length+zf5 post)) us/\ ∀i∈w9 (zc6 T id rs z (post.length+zf5 post)),i<post.length+(zf5 post+zb5 rs)
end
section
variable {T:Tab} {P:Program} {w w':World} {S S':List Nat} {φ φ':Nat->RA} {w0:World} {S0:Ow} {F:AF T} {H:List (Ent T.U)} {F':PF}
theorem vj5 {cnt:Nat} {post:List PE} (hpost:post.length=cnt) {rs:List Sh} {as:List (AV T.U)} {st:St T} {y1:zl5 T post} {z:zd8 T rs} {l1 l2:Src} {F1:PF} {w1:World} {S1:List Nat} {φ1:Nat->RA} {us:List Value}
  (h1:rdP T st.H post 0 (zt1 post 0)=some (y1,l1)) (h2:zp0 T st.H rs as l1=some (z,l2)) (hn:zl4 l2=true)
  (hsm:Sim T w ⟨zd5 φ cnt,S,(List.range cnt).map φ⟩ st F1 w1 S1 φ1) (hr2:VRL T w1 S1 φ1 as us):ji5 T post rs y1 z w S φ cnt w1 us:=by
 obtain ⟨n1,g1,g2,g3,g4,g5⟩:=va9 post 0 _ _ y1 h1;obtain ⟨n2,k1,k2,k3⟩:=ze4 rs as _ _ z h2;have hsub: ∀i,some i∈l1->some i∈l2:=fun i hi=>by rw [k1.eq];exact X4.2 (.inl hi)
 have hl2:l2=zt1 post 0++(n1.map some++n2.map some):=by rw [k1.eq,g1,Q2]
 have hl1:l1.length=post.length+zf5 post:=by rw [g1,X9,List.length_map,g2,zo3]
 have hpl:=ye8 hn;obtain ⟨q1,q2⟩:=g5 (fun i=>yq6 i l2) (Places.pre (m:=n2.map some) (by rw [<-k1.eq];exact hpl));obtain ⟨q3,q4⟩:=k3 _ hpl;rw [zo3] at q1 q2;rw [hl1] at q3 q4;have hs:=hsm.src (l:=l2) hn (fun k hk=>by
  simp at hk;rw [hl2,X8 (by rw [zo3];omega)];have:=vn5 post 0 k (by omega);rwa [Nat.zero_add] at this) (fun i e hi he j hj=>by
  rw [hl2] at hi;rcases X4.1 hi with hi|hi
  ·obtain ⟨e',p1,p2⟩:=g4 i hi;rw [he] at p1;simp only [X0] at p1;subst p1;exact hsub j (p2 j hj)
  ·rcases X4.1 hi with hi|hi
   ·obtain ⟨i',hi',e'⟩:=List.mem_map.1 hi;simp only [X0] at e';subst e';obtain ⟨e',p1,_,p2⟩:=g3 i' hi';rw [he] at p1;simp only [X0] at p1;subst p1;exact hsub j (p2 j hj)
   ·obtain ⟨i',hi',e'⟩:=List.mem_map.1 hi;simp only [X0] at e';subst e';obtain ⟨e',p1,_,p2⟩:=k1.ents i' hi';rw [he] at p1;simp only [X0] at p1;subst p1;exact p2 j hj)
 have hents:zi7 T st.H (fun i=>yq6 i l2) l2=zi7 T st.H (fun i=>yq6 i l2) (zt1 post 0)++(ze7 T st.H (fun i=>yq6 i l2) n1++ze7 T st.H (fun i=>yq6 i l2) n2):=by
  conv=>lhs;arg 4;rw [hl2]
  rw [yl0,yl0,zv6,zv6]
 rw [hents] at hs;refine ⟨[],S1,_,hs.imp (q1.app (q2.app q4)),q3.vrl (VRL.ren T (fun i hi=>φO_idx (k1.ids i hi)) hr2),?_⟩;intro i hi;rw [q3.ids] at hi;refine zk4 (fun j hj=>?_) i hi;have:=(X2.1 (zl3 (k1.ids j hj))).1;rw [k1.eq,X9,List.length_map,k2,hl1] at this;rw [k1.eq];omega
theorem yu3 {cnt n:Nat} {ds:List Deferred} {fn:Func} {nl:Nl} {post:List PE} {rs:List Sh} (hpost:post.length=cnt) {st0:St T} {y':zl5 T post×zd8 T rs} (hst:yf9 T P fn nl post rs st0=some y') {F1:PF} {w1:World}
  (hsm0:zc7 T w ⟨zd5 φ cnt,S,(List.range cnt).map φ⟩ st0 F1 w1) {a:Act} (ha:Fr n ds F1 a): ∃v,(results fn a.tmps).run P w1=.ok v w1/\ ∃us,ji5 T post rs y'.1 y'.2 w S φ cnt w1 us/\v=yb3 us:=by
 unfold yf9 at hst;split at hst<;>try (cases hst;done)
 rename_i as0 has;obtain ⟨S1,φ0,hsm0'⟩:=hsm0;obtain ⟨us,hr1,hr0⟩:=jb5 hsm0' ha has;split at hst<;>try (cases hst;done)
 rename_i asw Hw hw;obtain ⟨φw,hsmw,hrw,hres⟩:=yf3 (by simp [hpost]) nl.w hw hsm0'.noF hr0 (yv9 (P:=P) hsm0' has);obtain ⟨φb,hsmb,hrb,hib⟩:=zh8 nl.bn hsmw hrw hres;obtain ⟨φ1,hsm,hr20⟩:=yq9 nl.rs hsmb hib hrb;have hr2:=yg3 hsm nl.ow hr20;simp only at hst;generalize hgp:ki6 T nl.rs asw (ze9 T nl.bn Hw)=pr at hst hsm hr2;obtain ⟨as1,Hf⟩:=pr;simp only at hr2 hst;generalize kj4 T nl.ow as1 Hf=as at hst hr2;obtain ⟨as2,H2,S2,hK,hsm2,hv2⟩:=yq3 nl.z hst hsm hr2;unfold wi0 at hK;split at hK<;>try (cases hK;done)
 rename_i y1 l1 h1;split at hK<;>try (cases hK;done)
 rename_i z l2 h2;split at hK<;>try (cases hK;done)
 rename_i hn;simp only [X0] at hK;subst hK;exact ⟨_,hr1,us,vj5 (st:=⟨[],H2⟩) hpost h1 h2 hn hsm2 hv2,rfl⟩
theorem za9 {C:Ctx T} {f:FuncId} {fn:Func} {c:Code} {cuts:List (Pos×Cut)} {ps rs:List Sh} {nl:Nl} {post:List PE} {g:zd8 T ps->Option (zl5 T post×zd8 T rs)} (hm:P.follows .mixedOrders=true) (hE:v7 T P C.E)
  (hf:P.funcs[f]?=some fn) (hb:fn.body=some c) (hs:Nat.ble ps.length fn.ntmps=true) (hpin:Nat.ble (zb5 ps) C.pin=true) (hpost:Nat.beq post.length (zb5 ps)=true)
  (hg: ∀x y,g x=some y-> ∃m,zh5 T P C cuts fn c nl ps post rs m x=some y):GOk T P f ⟨ps,post,rs,g⟩:=by
 intro x y hy w S φ hsim vs hvs hoks;obtain ⟨N,hN⟩:=hg x y hy;have hpost:=X1 hpost;have hall:(zc6 T id ps x 0).length=ps.length:=by
  have: ∀(l:List Sh) (x:zd8 T l) (k:Nat),(zc6 T id l x k).length=l.length:=by
   intro l;induction l with
   |nil=>intro x k;rfl
   |cons s r ih=>intro x k;exact congrArg (· +1) (ih x.2 _)
  exact this ps x 0
 have hlen:vs.length=ps.length:=by rw [<-hvs.len T];exact hall
 have hsz:vs.length<=fn.ntmps:=by rw [hlen];exact Y1 hs
 have hfr:Fr fn.ntmps [] (jk5 vs 0) {tmps:=vs.toArray++Array.replicate (fn.ntmps-vs.toArray.size) undef,defers:= []}:=by
  refine ⟨by simp;omega,rfl,fun i v hv=>?_⟩;obtain ⟨_,h2⟩:=yk2 vs 0 i v hv;simp only [Nat.sub_zero] at h2;have hi:=(X2.1 h2).1;refine ⟨?_,by omega⟩;rw [Y7,Array.getElem?_append_left (by simpa using hi)];simp [h2]
 have hstart:=hsim.slots hvs hoks;have hpin':((List.range (zb5 ps)).map φ).length<=C.pin:=by simpa using Y1 hpin
 have key: ∀st,yf9 T P fn nl post rs st=some y-> ∀F1 w1,zc7 T w ⟨zd5 φ (zb5 ps),S,(List.range (zb5 ps)).map φ⟩ st F1 w1-> ∀a,Fr fn.ntmps [] F1 a-> ∃v,(results fn a.tmps).run P w1=.ok v w1/\
   ∃(F1:PF) (S1:List Nat) (φ1:Nat->RA) (us:List Value),Sim T w ⟨zd5 φ (zb5 ps),S,(List.range (zb5 ps)).map φ⟩ ⟨[],mkP T id post y.1 post.length++(ya1 T id post y.1 post.length++zh0 T id rs y.2 (post.length+zf5 post))⟩ F1 w1 S1 φ1/\
    VRL T w1 S1 φ1 (zc6 T id rs y.2 (post.length+zf5 post)) us/\v=yb3 us/\ ∀i∈w9 (zc6 T id rs y.2 (post.length+zf5 post)),i<post.length+(zf5 post+zb5 rs):=by
  intro st0 hst F1 w1 hsm0 a ha;obtain ⟨v,h1,us,⟨F2,S2,φ2,k1,k2,k3⟩,h3⟩:=yu3 hpost hst hsm0 ha;exact ⟨v,h1,F2,S2,φ2,us,k1,k2,h3,k3⟩
 have hKs:KsOk (bodyPost P fn fun e w'=>match e with
   | .returned v=> ∃(F1:PF) (S1:List Nat) (φ1:Nat->RA) (us:List Value),Sim T w ⟨zd5 φ (zb5 ps),S,(List.range (zb5 ps)).map φ⟩ ⟨[],mkP T id post y.1 post.length++(ya1 T id post y.1 post.length++zh0 T id rs y.2 (post.length+zf5 post))⟩ F1 w' S1 φ1/\
    VRL T w' S1 φ1 (zc6 T id rs y.2 (post.length+zf5 post)) us/\v=yb3 us/\ ∀i∈w9 (zc6 T id rs y.2 (post.length+zf5 post)),i<post.length+(zf5 post+zb5 rs)
   |_=>False) fn.ntmps [] w ⟨zd5 φ (zb5 ps),S,(List.range (zb5 ps)).map φ⟩ y (jd9 T P fn nl post rs):=by
  refine ⟨?_,fun i st h=>(by cases h),?_,fun a st h=>(by cases h)⟩
  ·intro st hst F1 w1 hs1 a ha;obtain ⟨v,h1,h2⟩:=key st hst F1 w1 hs1 a ha;exact ⟨ha.defers,v,h1,h2⟩
  ·intro st hst F1 w1 hs1 a ha;obtain ⟨v,h1,h2⟩:=key st hst F1 w1 hs1 a ha;exact ⟨ha.defers,v,h1,h2⟩
 exact calls_of_wp hf hb (zf2 hm hpin' hE c [] _ _ _ _ w hN hKs (JOk.run hm hpin' hE hKs N) ⟨S,φ,hstart⟩ _ hfr)
theorem j9 (f:FuncId):zb4 T P f (k7 T)/\zk2 T P f (k7 T)/\yh1 (k7 T):=
 ⟨fun _ _ _ _ _ h=>(by cases h),fun _ _ _ _ h=>(by cases h),fun _ _ _ _ _ h=>(by cases h)⟩
theorem q8 {f:FuncId} {sp:FnSpec T} (h:ze8 T P f sp):zb4 T P f sp.toCall/\zk2 T P f sp.toCall/\yh1 sp.toCall:=⟨jz7 h,ka2 h,gy9 sp⟩
theorem k8 {f:FuncId} {sp:GSpec T} {alt:CallSpec T} (h:GOk T P f sp) (ha:zb4 T P f alt/\zk2 T P f alt/\yh1 alt):zb4 T P f (sp.toCall alt)/\zk2 T P f (sp.toCall alt)/\yh1 (sp.toCall alt):=⟨jc0 h ha.1,ha.2.1,wv5 ha.2.2⟩
theorem w6 {f:FuncId} {cs:CallSpec T} {E:List (FuncId×CallSpec T)} (h:zb4 T P f cs/\zk2 T P f cs/\yh1 cs) (hE:v7 T P E):v7 T P ((f,cs)::E):=by
 intro g cs' hg;unfold qf0 at hg;split at hg
 ·rename_i hb;have:=X1 hb;subst this;simp only [X0] at hg;subst hg;exact h
 ·exact hE g cs' hg
end
end Go.X
