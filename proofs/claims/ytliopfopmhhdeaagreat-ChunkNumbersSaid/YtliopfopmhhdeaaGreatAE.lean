import Derived.Test.YtliopfopmhhdeaaGreatA9
import Derived.Test.YtliopfopmhhdeaaGreatA5
import Derived.Test.YtliopfopmhhdeaaGreatAD
set_option linter.defProp false
namespace Go.X
open Go.RowKit Go.V
def upC (t:Ty) (e:TypeId):Bool:=match t with| .list t=>t.scal&& !(Nat.beq e 0)| .nl _=>false| .user _=>false|_=>true
def kp5:List Ty->List TypeId->Bool
 | [],_=>true
 |t::r,fe=>upC t (fe.headD 0)&&kp5 r fe.tail
section
variable {T:Tab}
def yq2 (t:Ty) (e:TypeId) (d:Nat) (fe:List TypeId) (g:den T.U t->Option (List (T.U d))) (alt:CallSpec T):CallSpec T where
 call:=fun aS H K Kp=>match aS with
  | [.own i]=>ym3 T H [.val t] [.own i] fun x=>j5 (g x) fun y=>K (.own H.length) (H++ [.drow e d fe y none])
  | [.sl i s o n]=>ym3 T H [.val t] [.sl i s o n] fun x=>j5 (g x) fun y=>K (.own H.length) (H++ [.drow e d fe y none])
  |_=>alt.call aS H K Kp
 q:=alt.q
 isq:=alt.isq
 wr:=alt.wr
end
section
variable {T:Tab} {P:Program} {w w':World} {S S1:List Nat} {φ φ1:Nat->RA}
def vf7: ∀ {ts:List Ty} {fe:List TypeId},kp5 ts fe=true-> ∀ {j:Nat} {t:Ty},ts[j]?=some t->upC t (fe.getD j 0)=true
 | [],_,_,j,t,h=>by simp at h
 |s::r,fe,h,j,t,hj=>by
  unfold kp5 at h;rw [X3] at h;cases j with
  |zero=>simp at hj;subst hj;rw [qr9];exact h.1
  |succ j=>simp at hj;rw [qb5];exact vf7 h.2 hj
def CR.upS {t:Ty} {x:den T.U t} {v:Value} (ht:t.scal=true) (h:CR T w S t x v):CR T w S1 t x v:=by
 cases h with
 |int k x=>exact .int k x
 |bool b=>exact .bool b
 |str s=>exact .str s
 |list e xs ad cap u h1 h2 h3 h4 h5=>cases ht
 |nl e xs ad cap h1 h2=>cases ht
def DC.up {c:Cell T.U} {v:Value} {e:TypeId} (hc:upC c.t e=true) (h:DC T w S e c v):DC T w S1 e c v:=by
 obtain ⟨t,x⟩:=c;cases t with
 |list t=>
  simp only [upC,X3,U9] at hc;have hne:e≠0:=kq2 hc.2;obtain ⟨B,ad,cap,vals,k1,k2,k3,k4⟩:=h.2 hne;exact ⟨fun h0=>absurd h0 hne,fun _=>⟨B,ad,cap,vals,k1,k2,k3,⟨k4.1,fun j c u h1 h2=>CR.upS (by
   obtain ⟨y,_,hy⟩:=V7.1 (X6 h1);cases t with
   |list _=>cases hc.1
   |nl _=>cases hc.1
   |user d'=>cases hc.1
   |int k=>simp only [zb1,Q5] at hy;subst hy;rfl
   |bool=>simp only [zb1,Q5] at hy;subst hy;rfl
   |str=>simp only [zb1,Q5] at hy;subst hy;rfl) (k4.2 j c u h1 h2)⟩⟩⟩
 |nl t=>cases hc
 |user d'=>cases hc
 |int k=>exact CR.upS rfl h
 |bool=>exact CR.upS rfl h
 |str=>exact CR.upS rfl h
def Sim.none0 (w:World) (φ:Nat->RA):Sim T w ⟨[],[],[]⟩ ⟨[],[]⟩ [] w [] φ:=
 ⟨(fun i a h=>by cases h),(fun i a h=>by cases h),Chg.refl _ _,(fun b hb=>by cases hb),(fun b hb=>by cases hb),(fun i e h=>by simp at h),(fun k r h=>by simp at h),(fun i e h=>by simp at h),(fun i e h=>by simp at h),(fun i j e e' h=>by simp at h)⟩
end
section
variable {T:Tab} {P:Program}
def jf7 {f:FuncId} {t:Ty} {e:TypeId} {d:Nat} {fe:List TypeId} {g:den T.U t->Option (List (T.U d))} {G:zc9 T [.val t]->Option (zp4 T []×zc9 T [.dr e d fe])} (hok:GOk T P f ⟨[.val t],[],[.dr e d fe],G⟩) (hg: ∀x,g x=(G (x,())).map fun y=>y.2.1)
  (hup: ∀z:T.U d,kp5 ((T.cells d z).map (·.t)) fe=true) {R:Type} {r:R} {a:AV T.U} {H:List (Ent T.U)} {K Kp:AV T.U->List (Ent T.U)->Option R} (hr:(ym3 T H [.val t] [a] fun x=>j5 (g x) fun y=>K (.own H.length) (H++ [.drow e d fe y none]))=some r)
  {w0:World} {S0:Ow} {F:AF T} {F':PF} {w:World} {S:List Nat} {φ:Nat->RA} (h:Sim T w0 S0 ⟨F,H⟩ F' w S φ) {vs:List Value} (hvs:VRL T w S φ [a] vs):
  Calls P f vs.toArray w fun e w'=>match e with
   | .returned v=> ∃a H1,K a H1=some r/\ ∃S1 φ1,Sim T w0 S0 ⟨F,H1⟩ F' w' S1 φ1/\VR T w' S1 φ1 a v/\okA H1 a
   | .panicked ch=> ∃a H1,Kp a H1=some r/\ ∃v,ch= [{v:=v,recovered:=false}]/\ ∃S1 φ1,Sim T w0 S0 ⟨F,H1⟩ F' w' S1 φ1/\VR T w' S1 φ1 a v/\okA H1 a
   | .outgrown=>False:=by
 obtain ⟨x,hx,hv,_,_⟩:=yz6 hr (fun i _ en hi _=>h.ents i en hi) hvs φ 0;obtain ⟨ys,hy,hK⟩:=za7 hx;rw [hg x] at hy;cases hG:G (x,()) with
 |none=>rw [hG] at hy;cases hy
 |some y=>
 rw [hG] at hy;have hys:y.2.1=ys:=X5 hy;refine (hok (x,()) y hG w [] φ (Sim.none0 w φ) vs hv (fun a ha=>by
  have ha:a∈ [zo9 T t x]:=ha;rw [Q5] at ha;subst ha;exact vf5 x)).mono fun en w' hR=>?_
 cases en with
 |panicked ch=>exact hR.elim
 |outgrown=>exact hR.elim
 |returned v=>
  obtain ⟨F1,S1,φ1,us,g1,g2,rfl,g3⟩:=hR;have g1:Sim T w ⟨[],[],[]⟩ ⟨[],[.drow e d fe y.2.1 none]⟩ F1 w' S1 φ1:=g1;rw [hys] at g1;have g2:VRL T w' S1 φ1 [.own 0] us:=g2;have hchg:Chg [] w w':=g1.chg;have hown: ∀b∈S1,w.heap.size<=b/\b<w'.heap.size:=fun b hb=>by
   obtain ⟨p1,p2⟩:=g1.own b hb;rcases p1 with p1|p1
   ·cases p1
   ·exact ⟨p1,p2⟩
  have hgr:=h.grow hchg (S1:=S++S1) (fun b hb=>X4.2 (.inl hb)) (fun b hb=>by
   rcases X4.1 hb with hb|hb
   ·exact .inl hb
   ·exact .inr (hown b hb))
  obtain ⟨B,vals,o1,o2,o3,o4,o5⟩:=g1.ents 0 (.drow e d fe ys none) rfl;have hlive: ∀a,At (φ1 0) a->a.block∈S1:=fun a ha=>(g1.lives 0 _ rfl rfl a ha).1;have hadd:=hgr.addG2 (Tc:= []) (Chg.refl [] w') (by simp) (by simp) (fun _ _ _ _ _ _=>by simp) (S':=S++S1) (fun _ h=>h) (fun _ h=>.inl h) (r:=φ1 0)
   (fun a ha=>.inr (.inr ⟨.inr (W9 h.chg.size (hown _ (hlive a ha)).1),fun j f hf hl b hb e=>by
    have:=(h.own _ (ze2 h hf hl hb)).2;have:=(hown _ (hlive a ha)).1;omega⟩)) (fun a ha=>X4.2 (.inr (hlive a ha))) (e:=.drow e d fe ys none)
   ⟨B,vals,by rw [j6];exact o1,by rw [j6];exact o2,o3,fun a ha=>by rw [j6] at ha;exact X4.2 (.inr (o4 a ha)),
    by
     rw [j6];refine ⟨fun j c v q1 q2 q3=>⟨((o5.cl j c v q1 q2 q3).1).up ?_,(o5.cl j c v q1 q2 q3).2⟩,o5.ap,fun a cs hq=>(by cases hq)⟩;have hj:=(X2.1 q1).1;rw [u9 (T.len d)] at hj;have hpos:0<T.size d:=by
      rcases M8 (T.size d) with h0|h0
      ·rw [h0] at hj;omega
      ·exact h0
     have hlt:j/T.size d<ys.length:=Nat.div_lt_of_lt_mul (by rw [T2];exact hj);have ha:=jj5 (T.len d) (Y0 hlt) (Nat.mod_lt j hpos);rw [T2,Nat.div_add_mod,q1] at ha;exact vf7 (hup _) (by rw [W4,<-ha];rfl)⟩ (by intro q hq;cases hq)
  match us,g2 with
  | [u],g2=>
   refine ⟨_,_,hK,S++S1,_,hadd,?_,⟨by intro q hq;simp [AV.ids] at hq;subst hq;simp,trivial⟩⟩;have hu:VR T w' S1 φ1 (.own 0) u:=g2.1;rw [VR] at hu⊢;rw [j6];exact hu
def vu1 {f:FuncId} {t:Ty} {e:TypeId} {d:Nat} {fe:List TypeId} {g:den T.U t->Option (List (T.U d))} {G:zc9 T [.val t]->Option (zp4 T []×zc9 T [.dr e d fe])} (hok:GOk T P f ⟨[.val t],[],[.dr e d fe],G⟩) (hg: ∀x,g x=(G (x,())).map fun y=>y.2.1)
  (hup: ∀z:T.U d,kp5 ((T.cells d z).map (·.t)) fe=true) {alt:CallSpec T} (ha:za9 T P f alt/\zm3 T P f alt/\yj1 alt):za9 T P f (yq2 t e d fe g alt)/\zm3 T P f (yq2 t e d fe g alt)/\yj1 (yq2 t e d fe g alt):=by
 refine ⟨?_,ha.2.1,?_⟩
 ·intro R aS H K Kp r hr w0 S0 F F' w S φ h vs hvs has;simp only [yq2] at hr;split at hr
  ·exact jf7 hok hg hup hr h hvs
  ·exact jf7 hok hg hup hr h hvs
  ·exact ha.1 _ _ _ _ _ hr _ _ _ _ _ _ _ h _ hvs has
 ·intro R aS H K Kp r hr;have hw:(yq2 t e d fe g alt).wr=alt.wr:=rfl;rw [hw];simp only [yq2] at hr;split at hr
  ·obtain ⟨x,h1,hdet⟩:=ym4 hr;obtain ⟨y,hy,hK⟩:=za7 h1;exact .inl ⟨_,_,hK,.app,fun K' Kp'=>by simp only [yq2,hdet,hy,j5]⟩
  ·obtain ⟨x,h1,hdet⟩:=ym4 hr;obtain ⟨y,hy,hK⟩:=za7 h1;exact .inl ⟨_,_,hK,.app,fun K' Kp'=>by simp only [yq2,hdet,hy,j5]⟩
  ·rename_i n1 n2;rcases ha.2.2 _ _ _ _ _ hr with ⟨a,H1,h1,h2,h3⟩|⟨a,H1,h1,h2,h3⟩
   ·exact .inl ⟨a,H1,h1,h2,fun K' Kp'=>by
     simp only [yq2];exact h3 K' Kp'⟩
   ·exact .inr ⟨a,H1,h1,h2,fun K' Kp'=>by
     simp only [yq2];exact h3 K' Kp'⟩
end
end Go.X
namespace Go.X
open Go.RowKit Go.V
def zr5 {α:Type} (len:α->Nat) (xs:List α):Bool:=Nat.ble xs.length 1048576&&xs.all fun x=>Nat.ble (len x) 1073741824
def ja3 {α:Type} {len:α->Nat} {xs:List α} (h:zr5 len xs=true):xs.length<=1048576/\ ∀x∈xs,len x<=1073741824:=by
 unfold zr5 at h;rw [X3,Y8] at h;exact ⟨Y1 h.1,fun x hx=>Y1 (h.2 x hx)⟩
section
variable {T:Tab} {P:Program}
def qp2 {w w':World} {S:List Nat} {φ:Nat->RA} {C:List Nat} {pin:List RA} {H H':List (Ent T.U)} (hs:Sim T w ⟨C,S,pin⟩ ⟨[],H⟩ [] w S φ) {R:List Nat} (hc:Chg R w w') (hR: ∀b∈R,b∈C) (hg: ∀(i:Nat) (e:Ent T.U),H'[i]?=some e->e=.gone) (hl:H'.length=H.length):Sim T w ⟨C,S,pin⟩ ⟨[],H'⟩ [] w' S φ:=by
 refine ⟨(fun i a h=>by cases h),(fun i a h=>by cases h),hc.weak hR,(fun b hb=>⟨.inl hb,V4 (hs.own b hb).2 hc.size⟩),(fun b hb _ _=>hb),(fun i e h hv=>?_),(fun k r hk=>?_),(fun i e h=>?_),(fun i e h j hj=>?_),(fun i j e e' h h' hv=>?_)⟩
 ·rw [hg i e h] at hv;cases hv
 ·exact ⟨(hs.pins k r hk).1,by have:=(hs.pins k r hk).2;simp only at this⊢;omega⟩
 ·rw [hg i e h];trivial
 ·rw [hg i e h] at hj;cases hj
 ·rw [hg i e h] at hv;cases hv
abbrev ka3 (P:Program) (f:FuncId) (EL:TypeId) (m:Nat->Nat->Value):Prop:=
 ∀ {L:List RowA} {lad:Option Addr} {lcap:Nat} {w:World},RowsA w EL m (fun _ _=>False) L->Rg w lad (L.map RowA.val)->L.length<=lcap->(L= []\/bk lad∉rb L)->L.length<=1048576->(∀(j:Nat) (r:RowA),L[j]?=some r->r.len<=1073741824)->(∀b∈rb L,b<w.heap.size)->
  Calls P f #[.slice lad L.length lcap] w (Ret (rb L) w fun v _=>v=.bool true)
def qd5:Value->RowA| .slice ad n cap=>⟨ad,n,cap⟩|_=>⟨none,0,0⟩
def vg4 {f:FuncId} {RT EL d:TypeId} {fe:List TypeId} {t:Ty} {m:Nat->Nat->Value} (hA:ka3 P f EL m) (hsz:T.size d=1) (l:T.U d->List (den T.U t)) (hcs: ∀x,T.cells d x= [⟨.list t,l x⟩]) (hfe:fe.getD 0 0=EL) (hEL:EL≠0) (ht:szT T t=1):
  GOk T P f ⟨[.dr RT d fe],[.gone],[.val .bool],fun x=>match zr5 (fun y=>(l y).length) x.1 with|true=>some (((),()),(true,()))|false=>none⟩:=by
 intro (x:List (T.U d)×Unit) y hy w S φ hs vs hv hok;obtain ⟨xs,_⟩:=x;have hy:(match zr5 (fun y=>(l y).length) xs with|true=>some (((),()),(true,()))|false=>none)=some y:=hy;cases hb:zr5 (α:=T.U d) (fun y=>(l y).length) xs with
 |false=>rw [hb] at hy;cases hy
 |true=>
 rw [hb] at hy;simp only [X0] at hy;subst hy;have hb:=ja3 hb;have hs:Sim T w ⟨zd0 φ 1,S,[φ 0]⟩ ⟨[],[.drow RT d fe xs none]⟩ [] w S φ:=hs;have hv:VRL T w S φ [.own 0] vs:=hv;obtain ⟨B,vals,o1,o2,o3,o4,o5⟩:=hs.ents 0 (.drow RT d fe xs none) rfl
 match vs,hv with
 | [v],hv=>
 have hv:v=.slice (φ 0).ad (φ 0).n (φ 0).cap:=hv.1;subst hv;rw [hsz] at o1;have hlen:vals.length=xs.length:=by have:=o1.len;omega
 have hfm: ∀ys:List (T.U d),ys.flatMap (T.cells d)=ys.map fun y=>(⟨.list t,l y⟩:Cell T.U):=by
  intro ys;induction ys with
  |nil=>rfl
  |cons y r ih=>rw [V5,ih,hcs];rfl
 have hno: ∀j,¬jx3 T (T.size d) (none:Option (Nat×List (AV T.U))) j:=fun j h=>h;have hmod: ∀j,fe.getD (j%T.size d) 0=EL:=fun j=>by rw [hsz,Nat.mod_one];exact hfe
 have hz:Nat.beq EL 0=false:=by cases hb:Nat.beq EL 0;rfl;exact absurd (X1 hb) hEL
 have cell: ∀(j:Nat) (v:Value),vals[j]?=some v-> ∃(x:T.U d) (B':Nat) (ad:Option Addr) (cap:Nat) (us:List Value),xs[j]?=some x/\v=.slice ad (l x).length cap/\Own w B' EL 1 ad (l x).length cap us/\(∀b∈zb7 ad,b∈(φ 0).xs/\ ∀a,(φ 0).ad=some a->a.block≠b):=by
  intro j v hj;have hjx:j<xs.length:=by have:=(X2.1 hj).1;omega
  have hx:=Y0 hjx;obtain ⟨q1,q2⟩:=o5.cl j ⟨.list t,l xs[j]⟩ v (by rw [hfm,W4,hx];rfl) hj (hno j);rw [hmod] at q1 q2;obtain ⟨B',ad,cap,us,e1,e2,e3,e4⟩:=q1.2 hEL;refine ⟨xs[j],B',ad,cap,us,hx,e1,by rw [<-ht];exact e2,fun b hb=>q2 b ?_⟩;subst e1;simp only [zr6,hz];exact hb
 let L:List RowA:=vals.map qd5
 have hLv:L.map RowA.val=vals:=by
  rw [List.map_map];refine (List.map_congr_left fun v hv=>?_).trans (List.map_id _);obtain ⟨j,hj⟩:=List.getElem?_of_mem hv;obtain ⟨x,B',ad,cap,us,_,e1,_⟩:=cell j v hj;subst e1;rfl
 have hLl:L.length=(φ 0).n:=by show (vals.map qd5).length=_;rw [U6];omega
 have getL: ∀(j:Nat) (r:RowA),L[j]?=some r-> ∃v,vals[j]?=some v/\r=qd5 v:=by
  intro j r hj;have hj:(vals.map qd5)[j]?=some r:=hj;rw [W4] at hj;cases hvj:vals[j]? with
  |none=>rw [hvj] at hj;cases hj
  |some v=>rw [hvj] at hj;exact ⟨v,rfl,(X5 hj).symm⟩
 have hrb: ∀b∈rb L,b∈(φ 0).xs/\ ∀a,(φ 0).ad=some a->a.block≠b:=by
  intro b hb;obtain ⟨r,hr,hb⟩:=V7.1 hb;obtain ⟨j,hj⟩:=List.getElem?_of_mem hr;obtain ⟨v,hvj,rfl⟩:=getL j r hj;obtain ⟨x,B',ad,cap,us,_,e1,_,e3⟩:=cell j v hvj;subst e1;exact e3 b hb
 have hrows:RowsA w EL m (fun _ _=>False) L:=by
  refine ⟨fun j r hj=>?_,fun i j r s hij hi hj=>?_⟩
  ·obtain ⟨v,hvj,rfl⟩:=getL j r hj;obtain ⟨x,B',ad,cap,us,_,e1,e2,_⟩:=cell j v hvj;subst e1;exact ⟨us,e2.zero,fun q h=>h.elim⟩
  ·obtain ⟨u,hui,rfl⟩:=getL i r hi;obtain ⟨v,hvj,rfl⟩:=getL j s hj;obtain ⟨x,_,ad,cap,_,hx,e1,_⟩:=cell i u hui;obtain ⟨x',_,ad',cap',_,hx',e1',_⟩:=cell j v hvj;subst e1;subst e1';cases ad with
   |none=>exact .inl rfl
   |some a=>
    cases ad' with
    |none=>exact .inr (.inl rfl)
    |some a'=>
     refine .inr (.inr fun e=>?_);have:=o5.ap i j ⟨.list t,l x⟩ ⟨.list t,l x'⟩ _ _ hij (by rw [hfm,W4,hx];rfl) hui (hno i) (by rw [hfm,W4,hx'];rfl) hvj (hno j) a.block (by rw [hmod];simp [zr6,hz,zb7]);rw [hmod] at this;exact this (by simp only [zr6,hz,zb7,Q5];exact e)
 have hcall:=hA hrows (lad:=(φ 0).ad) (lcap:=(φ 0).cap) (by rw [hLv];exact o1.rg) (by rw [hLl];exact o1.le.1) (by
  by_cases hn:L= []
  ·exact .inl hn
  ·right;intro hm;have h1:=(hrb _ hm).2;cases had:(φ 0).ad with
   |none=>
    have:=o1.len;rcases o1.cases with ⟨_,h0,_⟩|⟨c,h0,_⟩
    ·exact hn (R7.1 (by omega))
    ·rw [had] at h0;cases h0
   |some a=>rw [had] at h1;exact h1 a rfl (by simp [bk])) (by rw [hLl,o2];exact hb.1) (fun j r hj=>by
  obtain ⟨v,hvj,rfl⟩:=getL j r hj;obtain ⟨x,_,ad,cap,_,hx,e1,_⟩:=cell j v hvj;subst e1;exact hb.2 x (X6 hx)) fun b hb=>hrows.lt hb
 rw [hLl] at hcall;refine hcall.mono fun e w' hr=>?_;cases e with
 |panicked ch=>exact hr.elim
 |outgrown=>exact hr.elim
 |returned v=>
  obtain ⟨hc,rfl⟩:=hr;refine ⟨[],S,φ,[.bool true],qp2 hs hc (fun b hb=>?_) (fun i e h=>?_) rfl,⟨CR.bool true,trivial⟩,rfl,fun i hi=>by cases hi⟩
  ·show b∈ [0].flatMap fun k=>(φ k).all;rw [V5,List.flatMap_nil,J7];exact X4.2 (.inr (hrb b hb).1)
  ·cases i with
   |zero=>exact (X5 h).symm
   |succ i=>cases h
def vg3 {f:FuncId} {RT EL:TypeId} {t:Ty} {m:Nat->Nat->Value} (hA:ka3 P f EL m) (ht:szT T t=1):
  GOk T P f ⟨[.slb 1 2 RT [.row EL t,.row EL t]],[.gone,.gone,.gone],[.val .bool],fun x=>match zr5 List.length [x.1.1,x.1.2.1] with|true=>some (((),(),(),()),(true,()))|false=>none⟩:=by
 intro (x:(List (den T.U t)×List (den T.U t)×Unit)×Unit) y hy w S φ hs vs hv hok;obtain ⟨⟨xs,ys,_⟩,_⟩:=x;have hy:(match zr5 List.length [xs,ys] with|true=>some (((),(),(),()),(true,()))|false=>none)=some y:=hy;cases hb:zr5 (α:=List (den T.U t)) List.length [xs,ys] with
 |false=>rw [hb] at hy;cases hy
 |true=>
 rw [hb] at hy;simp only [X0] at hy;subst hy;have hb:=ja3 hb;have hs:Sim T w ⟨zd0 φ 3,S,[φ 0,φ 1,φ 2]⟩ ⟨[],[.blk RT [.own 1,.own 2],.row EL t xs,.row EL t ys]⟩ [] w S φ:=hs;have hv:VRL T w S φ [.sl 0 1 0 2] vs:=hv;obtain ⟨g,c,b1,b2,b3,b4⟩:=hs.ents 0 _ rfl;obtain ⟨B1,v1,p1,p2,p3,p4,p5⟩:=hs.ents 1 (.row EL t xs) rfl;obtain ⟨B2,v2,q1,q2,q3,q4,q5⟩:=hs.ents 2 (.row EL t ys) rfl;rw [ht] at p1 q1
 match vs,hv with
 | [v],hv=>
 obtain ⟨ad,e1,e2,e3,e4⟩:=hv.1;obtain ⟨g',e5,e6⟩: ∃g',(φ 0).ad=some ⟨g',0,none⟩/\ad=some ⟨g',0+0*1,none⟩:=by rcases e3 with h|h;cases h;exact h
 rw [b1] at e5;simp only [X0,Addr.mk.injEq,and_true] at e5;subst e5;subst e6;subst e1;have hc:c.toList= [.slice (φ 1).ad (φ 1).n (φ 1).cap,.slice (φ 2).ad (φ 2).n (φ 2).cap]:=by
  have h:=b4.vrl T rfl
  match hcl:c.toList,h with
  | [a,b],h=>rw [show a=_ from h.1,show b=_ from h.2.1]
  | [],h=>exact h.elim
  | [_],h=>exact h.2.elim
  |_::_::_::_,h=>exact h.2.2.elim
 let L:List RowA:= [⟨(φ 1).ad,(φ 1).n,(φ 1).cap⟩,⟨(φ 2).ad,(φ 2).n,(φ 2).cap⟩]
 have hap:Apart (φ 1).ad (φ 2).ad:=by
  cases ha:(φ 1).ad with
  |none=>exact .inl rfl
  |some a=>
   cases hb':(φ 2).ad with
   |none=>exact .inr (.inl rfl)
   |some b=>exact .inr (.inr (hs.apart 1 2 _ _ rfl rfl rfl rfl (by decide) a b (.inl ha) (.inl hb')))
 have hrows:RowsA w EL m (fun _ _=>False) L:=by
  refine ⟨fun j r hj=>?_,fun i j r s hij hi hj=>?_⟩
  ·match j,hj with
   |0,hj=>cases hj;exact ⟨v1,p1.zero,fun q h=>h.elim⟩
   |1,hj=>cases hj;exact ⟨v2,q1.zero,fun q h=>h.elim⟩
   |j+2,hj=>cases hj
  ·match i,j,hi,hj with
   |0,1,hi,hj=>cases hi;cases hj;exact hap
   |1,0,hi,hj=>cases hi;cases hj;exact hap.symm
   |0,0,_,_=>exact absurd rfl hij
   |1,1,_,_=>exact absurd rfl hij
   |i+2,_,hi,_=>cases hi
   |_,j+2,_,hj=>cases hj
 have hrb: ∀b∈rb L,(b∈(φ 1).all\/b∈(φ 2).all)/\g≠b:=by
  intro b hb;obtain ⟨r,hr,hb⟩:=V7.1 hb;have key: ∀k,(k=1\/k=2)->b∈zb7 (φ k).ad->b∈(φ k).all/\g≠b:=by
   intro k hk hb;refine ⟨X4.2 (.inl hb),?_⟩;cases ha:(φ k).ad with
   |none=>rw [ha] at hb;cases hb
   |some a=>
    rw [ha] at hb;rw [Q5.1 hb];rcases hk with rfl|rfl
    ·exact hs.apart 0 1 _ _ rfl rfl rfl rfl (by decide) ⟨g,0,none⟩ a (.inl b1) (.inl ha)
    ·exact hs.apart 0 2 _ _ rfl rfl rfl rfl (by decide) ⟨g,0,none⟩ a (.inl b1) (.inl ha)
  have hr:r∈ [(⟨(φ 1).ad,(φ 1).n,(φ 1).cap⟩:RowA),⟨(φ 2).ad,(φ 2).n,(φ 2).cap⟩]:=hr;simp only [Z0,N5,or_false] at hr;rcases hr with rfl|rfl
  ·exact ⟨.inl (key 1 (.inl rfl) hb).1,(key 1 (.inl rfl) hb).2⟩
  ·exact ⟨.inr (key 2 (.inr rfl) hb).1,(key 2 (.inr rfl) hb).2⟩
 have hcall:=hA hrows (lad:=some ⟨g,0+0*1,none⟩) (lcap:=(φ 0).cap-0) (b2.rg _ (by rw [hc];rfl)) (by show 2<=_;omega) (.inr fun hm=>(hrb _ hm).2 rfl) (by show 2<=_;omega) (fun j r hj=>by
  match j,hj with
  |0,hj=>cases hj;exact W9 (N7 p2) (hb.2 xs (U3 ..))
  |1,hj=>cases hj;exact W9 (N7 q2) (hb.2 ys (Z4 _ (U3 ..)))
  |j+2,hj=>cases hj) fun b hb=>hrows.lt hb
 refine hcall.mono fun e w' hr=>?_;cases e with
 |panicked ch=>exact hr.elim
 |outgrown=>exact hr.elim
 |returned v=>
  obtain ⟨hc,rfl⟩:=hr;refine ⟨[],S,φ,[.bool true],qp2 hs hc (fun b hb=>?_) (fun i e h=>?_) rfl,⟨CR.bool true,trivial⟩,rfl,fun i hi=>by cases hi⟩
  ·show b∈ [0,1,2].flatMap fun k=>(φ k).all;simp only [V5,List.flatMap_nil,J7,X4];rcases (hrb b hb).1 with h|h
   ·exact .inr (.inl h)
   ·exact .inr (.inr h)
  ·match i,h with
   |0,h=>exact (X5 h).symm
   |1,h=>exact (X5 h).symm
   |2,h=>exact (X5 h).symm
   |i+3,h=>cases h
end
end Go.X
