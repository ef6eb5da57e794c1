import Derived.Test.YtliopfopmhhdeaaGreatA9
import Derived.Test.YtliopfopmhhdeaaGreatA1
import Derived.Shelf.SlIterI.Nil
import Derived.Shelf.SortM.Plain
import Derived.Shelf.SortM.SortNone
set_option linter.defProp false
namespace Go.X
open Go.RowKit Go.V Go.ChangeShapes Go.WideShapes Go.ChangeAt Go.Deep
inductive GoodV (T:Tab):(t:Ty)->den T.U t->Prop
 |int (k:IntKind) (x:Int) (h:k.min<=x/\x<=k.max):GoodV T (.int k) x
 |bool (b:Bool):GoodV T .bool b
 |str (s:ByteArray) (h:s.size<=maxLen):GoodV T .str s
 |list (e:Ty) (xs:List (den T.U e)) (hl:xs.length<=maxLen) (h: ∀x∈xs,∀c∈za3 T e x,GoodV T c.t c.x):GoodV T (.list e) xs
def Good (T:Tab) (t:Ty) (x:den T.U t):Prop:= ∀c∈za3 T t x,GoodV T c.t c.x
def yf7 (ct:Nat->List Ty):Ty->List Ty| .user i=>ct i|t=> [t]
structure Packs (T:Tab) (ct:Nat->List Ty):Prop where
 pack: ∀(i:Nat) (cl:List (Cell T.U)),cl.map (·.t)=ct i-> ∃x,T.pack i cl=some x
 size: ∀i,T.size i=(ct i).length
def ya8 (P:Program) (g:TypeId->List Ty->Bool):List Field->Nat->List Ty->Bool
 | [],_,tys=>match tys with| []=>true|_::_=>false
 |f::r,o,tys=>Nat.beq f.offset o&&(Nat.ble (P.cellsOf f.type) tys.length&&(g f.type (tys.take (P.cellsOf f.type))&&ya8 P g r (o+P.cellsOf f.type) (tys.drop (P.cellsOf f.type))))
def qp6 (P:Program) (ct:Nat->List Ty):Nat->TypeId->List Ty->Bool
 |0,_,_=>false
 |n+1,t,tys=>match P.underlying t with
  |some (.int k)=>match tys with| [.int k']=>zc4 k k'&&Nat.beq (P.cellsOf t) 1|_=>false
  |some .bool=>match tys with| [.bool]=>Nat.beq (P.cellsOf t) 1|_=>false
  |some .string=>match tys with| [.str]=>Nat.beq (P.cellsOf t) 1|_=>false
  |some (.slice e)=>match tys with| [.list ty]=>Nat.ble 1 (yf7 ct ty).length&&(Nat.beq (P.cellsOf e) (yf7 ct ty).length&&qp6 P ct n e (yf7 ct ty))|_=>false
  |some (.struct fs)=>ya8 P (qp6 P ct n) fs.toList 0 tys
  |_=>false
section
variable {T:Tab} {P:Program} {ct:Nat->List Ty} {H:Type} {enc:TypeId×Value->H} {w:World}
def qy8 (hp:Packs T ct) {ty:Ty} {cl:List (Cell T.U)} (h:cl.map (·.t)=yf7 ct ty): ∃x:den T.U ty,za3 T ty x=cl:=by
 have one: ∀ty:Ty,ty.one=true->cl.map (·.t)= [ty]-> ∃x:den T.U ty,za3 T ty x=cl:=by
  intro ty ho h
  match cl,h with
  | [⟨t,x⟩],h=>
   simp only [U1,List.map_nil,List.cons.injEq,and_true] at h;subst h;exact ⟨x,yr9 T ho x⟩
 cases ty with
 |user i=>
  obtain ⟨x,hx⟩:=hp.pack i cl h;exact ⟨x,T.packed _ _ _ hx⟩
 |int k=>exact one _ rfl h
 |bool=>exact one _ rfl h
 |str=>exact one _ rfl h
 |list e=>exact one _ rfl h
 |nl e=>exact one _ rfl h
def vb7 (hp:Packs T ct) (ty:Ty):szT T ty=(yf7 ct ty).length:=by
 cases ty with
 |user i=>exact hp.size i
 |_=>rfl
def vg6 (hp:Packs T ct): ∀(n:Nat) (t:TypeId) (tys:List Ty),qp6 P ct n t tys=true-> ∀(m:Nat) (cs:List Value) (x:DataW H×List MemPlace),DataW.trod enc P w 0 (fun _=>true) true m t cs=some x->cs.length=tys.length->
  ∃cl:List (Cell T.U),cl.map (·.t)=tys/\CellsR T w [] cl cs/\ ∀c∈cl,GoodV T c.t c.x:=by
 have cell1: ∀(c:Cell T.U) (v:Value),CR T w [] c.t c.x v->CellsR T w [] [c] [v]:=fun c v h=>⟨rfl,fun j c' v' h1 h2=>by
  cases j with
  |zero=>simp at h1 h2;subst h1;subst h2;exact h
  |succ j=>simp at h1⟩
 intro n;induction n with
 |zero=>intro t tys h;unfold qp6 at h;cases h
 |succ n ih=>
  intro t tys h m cs x hx hlen;unfold qp6 at h;split at h<;>try (cases h;done)
  ·rename_i k hu;split at h<;>try (cases h;done)
   rename_i k';simp only [X3] at h;have:=k9 h.1;subst this;obtain ⟨a,h1,_,wa⟩:=DataW.trod_int hu hx;subst h1;exact ⟨[⟨.int k,a⟩],rfl,cell1 _ _ (.int k a),fun c hc=>by simp at hc;subst hc;exact .int k a (by simpa [Lit.wf] using wa)⟩
  ·rename_i hu;split at h<;>try (cases h;done)
   obtain ⟨b,h1,_⟩:=DataW.trod_bool hu hx;subst h1;exact ⟨[⟨.bool,b⟩],rfl,cell1 _ _ (.bool b),fun c hc=>by simp at hc;subst hc;exact .bool b⟩
  ·rename_i hu;split at h<;>try (cases h;done)
   obtain ⟨s,h1,_,hs⟩:=DataW.trod_string hu hx;subst h1;exact ⟨[⟨.str,s⟩],rfl,cell1 _ _ (.str s),fun c hc=>by simp at hc;subst hc;exact .str s hs⟩
  ·rename_i e hu;split at h<;>try (cases h;done)
   rename_i ty;simp only [X3] at h;obtain ⟨h1s,h2,h3⟩:=h;have h1s:=Y1 h1s;have h2:=X1 h2;rcases DataW.trod_slice hu hx with ⟨rfl,_⟩|⟨a,len,cap,elems,rest,q,rfl,rfl,_,_,hl,hmx,hel,hsome,_,_⟩
   ·refine ⟨[⟨.list ty,([]:List (den T.U ty))⟩],rfl,cell1 ⟨.list ty,([]:List (den T.U ty))⟩ _ CR.nilS,fun c hc=>?_⟩;simp at hc;subst hc;exact .list ty [] (U4 _) (fun x hx=>by cases hx)
   ·have key: ∀i,∃y:den T.U ty,i<len->Good T ty y/\ ∃cs',w.cells? 0 (a.add (i*P.cellsOf e)) (P.cellsOf e)=some cs'/\CellsR T w [] (za3 T ty y) cs':=by
     intro i;by_cases hi:i<len
     ·have h4:=hsome i hi;rw [Y0 (by omega)] at h4;obtain ⟨cs',h5,h6⟩:=Option.bind_eq_some_iff.1 h4;obtain ⟨cl,g1,g2,g3⟩:=ih e (yf7 ct ty) h3 _ cs' _ h6 (by rw [(jo2 h5).1,h2]);obtain ⟨y,rfl⟩:=qy8 hp g1;exact ⟨y,fun _=>⟨g3,cs',h5,g2⟩⟩
     ·exact ⟨zy1 T ty,fun h=>absurd h hi⟩
    let B:Nat->den T.U ty:=fun i=>(key i).choose
    have hB: ∀i,i<len->Good T ty (B i)/\ ∃cs',w.cells? 0 (a.add (i*P.cellsOf e)) (P.cellsOf e)=some cs'/\CellsR T w [] (za3 T ty (B i)) cs':=fun i=>(key i).choose_spec;have hBl:((List.range len).map B).length=len:=by simp
    have hgetB: ∀(k:Nat) (y:den T.U ty),((List.range len).map B)[k]?=some y->k<len/\y=B k:=by
     intro k y hk;obtain ⟨h1,h2⟩:=X2.1 hk;simp at h1 h2;exact ⟨h1,h2.symm⟩
    have hcellv: ∀i,i<len-> ∀(j:Nat) (c:Cell T.U),(za3 T ty (B i))[j]?=some c-> ∃v,w.cell? ((a.add (i*P.cellsOf e)).add j)=some v/\CR T w [] c.t c.x v:=by
     intro i hi j c hc;obtain ⟨_,cs',h5,h6⟩:=hB i hi;have hj:=(X2.1 hc).1;rw [h6.1] at hj;have hv:cs'[j]?=some cs'[j]:=Y0 hj;exact ⟨_,(jo2 h5).2 j _ hv,h6.2 j c _ hc hv⟩
    have hpos:0<szT T ty-> ∀i,i<len->a.spot=none/\a.block<w.heap.size:=by
     intro hp0 i hi;have hfl:0<(za3 T ty (B 0)).length:=by rw [v8];exact hp0
     obtain ⟨v,hv,_⟩:=hcellv 0 (by omega) 0 _ (Y0 hfl);simp only [M1,Addr.add,if_true] at hv;have hblk:=World.block_lt_of_cell? w _ hv;refine ⟨?_,hblk⟩;unfold World.cell? at hv;split at hv
     ·split at hv
      ·cases hv
      ·rename_i hs;simpa using hs
     ·cases hv
    have hadd: ∀i j,a.spot=none->(a.add (i*P.cellsOf e)).add j=⟨a.block,a.off+(i*szT T ty+j),none⟩:=by
     intro i j hs;obtain ⟨ab,ao,asp⟩:=a;have hs:asp=none:=hs;subst hs;rw [vb7 hp,<-h2];unfold Addr.add;split<;>split<;>simp_all<;>omega
    let u:Nat->Nat->Value:=fun k j=>(w.cell? ((a.add (k*P.cellsOf e)).add j)).getD undef
    refine ⟨[⟨.list ty,(List.range len).map B⟩],rfl,cell1 ⟨.list ty,(List.range len).map B⟩ _ ?_,fun c hc=>?_⟩
    ·
     ·have hz:0<szT T ty:=by rw [vb7 hp];omega
      have hcr:CR T w [] (.list ty) ((List.range len).map B) (.slice (some a) ((List.range len).map B).length cap):=by
       refine .list ty _ (some a) cap u (by rw [hBl];exact hl) (fun h=>by cases h) (fun hne=>?_) ?_ ?_
       ·have h0:0<len:=by
         rcases M7 len with h|h
         ·subst h;exact absurd rfl hne
         ·exact h
        obtain ⟨h7,h8⟩:=hpos hz 0 h0;refine ⟨?_,h8,by simp⟩;obtain ⟨ab,ao,asp⟩:=a;have h7:asp=none:=h7;subst h7;rfl
       ·intro k j c hk;cases hg:((List.range len).map B)[k]? with
        |none=>rw [hg] at hk;cases hk
        |some y=>
         rw [hg] at hk;simp only [Z8,X0] at hk;obtain ⟨hkl,rfl⟩:=hgetB k y hg;obtain ⟨v,hv,_⟩:=hcellv k hkl j c hk;obtain ⟨h7,_⟩:=hpos hz k hkl;show w.cell? ⟨a.block,a.off+(k*szT T ty+j),none⟩=some (u k j);rw [<-hadd k j h7];show _=some ((w.cell? ((a.add (k*P.cellsOf e)).add j)).getD undef);rw [hv];rfl
       ·intro k j c hk;cases hg:((List.range len).map B)[k]? with
        |none=>rw [hg] at hk;cases hk
        |some y=>
         rw [hg] at hk;simp only [Z8,X0] at hk;obtain ⟨hkl,rfl⟩:=hgetB k y hg;obtain ⟨v,hv,hr⟩:=hcellv k hkl j c hk;show CR T w [] c.t c.x ((w.cell? ((a.add (k*P.cellsOf e)).add j)).getD undef);rw [hv];exact hr
      rw [hBl] at hcr;exact hcr
    ·simp at hc;subst hc;refine .list ty _ (by rw [hBl];omega) fun y hy=>?_;obtain ⟨i,hi,rfl⟩:=U3.1 hy;exact (hB i (U9.1 hi)).1
  ·rename_i fs hu;obtain ⟨xs,q,rfl,_,hcl,hxl,hf⟩:=DataW.trod_struct hu hx;have go: ∀(l:List Field) (o:Nat) (tys:List Ty),ya8 P (qp6 P ct n) l o tys=true-> ∀(i0:Nat),(∀(i:Nat) (f:Field),l[i]?=some f-> ∃y,DataW.trod enc P w 0 (fun _=>true) true q f.type ((cs.drop f.offset).take (P.cellsOf f.type))=some y)->o+tys.length=cs.length->
     ∃cl:List (Cell T.U),cl.map (·.t)=tys/\CellsR T w [] cl (cs.drop o)/\ ∀c∈cl,GoodV T c.t c.x:=by
    intro l;induction l with
    |nil=>
     intro o tys h i0 _ hlen;unfold ya8 at h;split at h<;>try (cases h;done)
     refine ⟨[],rfl,⟨by simp at hlen;simp;omega,fun j c v h=>by simp at h⟩,fun c hc=>by cases hc⟩
    |cons f r ihl=>
     intro o tys h i0 hall hlen;unfold ya8 at h;simp only [X3] at h;obtain ⟨h1,h2,h3,h4⟩:=h;have h1:=X1 h1;have h2:=Y1 h2;obtain ⟨y,hy⟩:=hall 0 f rfl;rw [h1] at hy;obtain ⟨cl1,a1,a2,a3⟩:=ih f.type _ h3 q _ y hy (by rw [Y6,Y6,Q7];omega);obtain ⟨cl2,b1,b2,b3⟩:=ihl (o+P.cellsOf f.type) _ h4 0 (fun i g hg=>hall (i+1) g (by simpa using hg)) (by rw [Q7];omega);refine ⟨cl1++cl2,by rw [J0,a1,b1,Q8],?_,fun c hc=>(X4.1 hc).elim (a3 c) (b3 c)⟩;have:=a2.app b2;rwa [<-List.drop_drop,Q8] at this
   have:=go fs.toList 0 tys h 0 (fun i f hfi=>by
    have hfi':fs[i]?=some f:=by simpa using hfi
    have h5:=hf i f hfi';have hlt:=(Y3.1 hfi').1;rw [Y0 (by omega)] at h5;exact ⟨_,h5⟩) (by omega)
   simpa using this
def km2 (P:Program) (t:TypeId):Bool:=match P.underlying t with|some (.struct _)=>false|_=>true
def openArg (hp:Packs T ct) {t:TypeId} {ty:Ty} (hty: ∀i,ty≠.user i) (n:Nat) (ho:qp6 P ct n t (yf7 ct ty)=true) (hst:km2 P t=true) {r:Reach} {base:Nat} {v:Value} {d:DataW H} {p:List MemPlace} (hv:Value.okWide P w r base t v) (h:DataW.Trod enc P w 0 (fun _=>true) true t v d p):
  ∃x:den T.U ty,VR T w [] (fun _=>⟨none,0,0,[]⟩) (zn4 T ty x) v/\Good T ty x:=by
 obtain ⟨m,hm⟩:=h;have hone:v.cells= #[v]:=by
  cases n with
  |zero=>unfold qp6 at ho;cases ho
  |succ n=>
   unfold qp6 at ho;split at ho<;>try (cases ho;done)
   ·rename_i k hu;obtain ⟨a,rfl⟩:=okWide_int hu hv;rfl
   ·rename_i hu;obtain ⟨b,rfl,_⟩:=open_bool hu hv ⟨m,hm⟩;rfl
   ·rename_i hu;obtain ⟨s,rfl⟩:=okWide_string hu hv;rfl
   ·rename_i e hu;obtain ⟨a,len,cap,rfl⟩:=okWide_slice hu hv;rfl
   ·rename_i fs hu;unfold km2 at hst;rw [hu] at hst;cases hst
 obtain ⟨cl,h1,h2,h3⟩:=vg6 (T:=T) hp n t _ ho m _ _ hm (by rw [hone];cases ty<;>first|rfl|exact absurd rfl (hty _));obtain ⟨x,rfl⟩:=qy8 hp h1;refine ⟨x,?_,h3⟩;rw [hone] at h2;have hf:za3 T ty x= [⟨ty,x⟩]:=yr9 T (by cases ty<;>first|rfl|exact absurd rfl (hty _)) x;rw [hf] at h2;have:=h2.2 0 _ v rfl rfl;cases ty<;>first|exact this|exact absurd rfl (hty _)
def Good.list {e:Ty} {xs:List (den T.U e)} (h:Good T (.list e) xs):xs.length<=maxLen/\ ∀x∈xs,Good T e x:=by
 have:=h ⟨.list e,xs⟩ (by simp [za3]);cases this with
 |list _ _ h1 h2=>exact ⟨h1,h2⟩
def GoodV.intB {k:IntKind} {x:Int} (h:GoodV T (.int k) x):k.min<=x/\x<=k.max:=by
 cases h with
 |int _ _ h=>exact h
def Good.int {k:IntKind} {x:Int} (h:Good T (.int k) x):k.min<=x/\x<=k.max:=GoodV.intB (h ⟨.int k,x⟩ (Q5.2 rfl))
def lawRet {f:FuncId} {ps:List PT} {g:zq5 T ps->Option (zy3 T (za8 ps) (zq6 T [.val .bool]))} (hok:yt7 T P f ⟨ps,[.val .bool],g⟩) (hio:za8 ps= []) (hent: ∀x:zq5 T ps,zu4 T ps x= []) {x:zq5 T ps} {y:zy3 T (za8 ps) (zq6 T [.val .bool])} (hy:g x=some y) (hl:yg5 T (za8 ps) y=(true:Bool))
  {φ:Nat->RA} {vs:List Value} (hvs:VRL T w [] φ (yj3 T 0 ps x) vs):Calls P f vs.toArray w (zp6 w (.bool true)):=by
 have hio0:(za8 ps).length=0:=by rw [hio];rfl
 refine (hok x y hy w [] φ vs hvs (fun b hb=>by cases hb) (fun k e hk=>by rw [show zu4 T (FnSpec.ps ⟨ps,[.val .bool],g⟩) x= [] from hent x] at hk;simp at hk) (fun j hj=>by
  have hj:j<(za8 ps).length:=hj;omega) (fun j k hj=>by
  have hj:j<(za8 ps).length:=hj;omega)).mono fun e w' hR=>?_
 cases e with
 |returned v=>
  obtain ⟨F1,H1,F1',S1,φ1,as1,us,g1,g2,rfl,g4,g5,g6⟩:=hR;have hchg:Chg [] w w':=by
   have:=g1.chg;rw [show zd6 φ (za8 ps).length= [] by rw [hio0];rfl] at this;exact this
  refine ⟨hchg,?_⟩;have hlast:=(yb0 g4).1;rw [hl] at hlast
  match as1,hlast,us,g2 with
  | [a],hlast,[v],g2=>
   have hrd:jl3 T .bool a=some true:=hlast;exact (zd7 (φ:=φ1) (yc2 (t:=.bool) hrd g2.1 φ1))
  | [],hlast,_,_=>cases hlast
  |_::_::_,hlast,_,_=>cases hlast
 |panicked ch=>exact hR.elim
 |outgrown=>exact hR.elim
end
end Go.X
namespace Go.X
open Go.RowKit Go.V
structure PSpec (T:Tab) where
 ps:List Sh
 post:List PE
 rs:List Sh
 pv:Sh
 g:zg8 T ps->Option (zv0 T post×(zg8 T rs⊕zg8 T [pv]))
section
variable (T:Tab) (P:Program)
end
section
variable {T:Tab} {P:Program} {w w':World} {S S':List Nat} {φ φ':Nat->RA} {w0:World} {S0:Ow} {F:AF T} {H:List (Ent T.U)} {F':PF}
end
end Go.X
namespace Go.X
open Go.RowKit Go.V
section
variable {T:Tab} {P:Program} {w w':World} {S S':List Nat} {φ φ':Nat->RA} {w0:World} {S0:Ow} {F:AF T} {H:List (Ent T.U)} {F':PF}
end
structure DSpec (T:Tab) where
 ps:List Sh
 rv:Sh
 post:List PE
 g:zg8 T (ps++ [rv])->Option (zv0 T post)
section
variable {T:Tab} (P:Program)
structure DefP (T:Tab) where
 depth:Nat
 sl:Nat
 live:List Nat
 pin:Nat
 g:FuncId
 cp:List (Nat×Nat)
 dr:DSpec T
 dp:DSpec T
def jz4:Op->Bool| .defer _=>false|_=>true
noncomputable def evS {R:Type} (C:Ctx T) (n:Nat) (K:Ks T R) (K2:Code->St T->Option R):Nat->Code->St T->Option R
 |0,c,st=>K2 c st
 |k+1,.seq x y,st=>evC P C n [] (fun _ _=>none) x [] (K.behind fun st=>evS C n K K2 k y st) st
 |_+1,_,_=>none
end
section
variable {T:Tab} {P:Program} {w w':World} {S S':List Nat} {φ φ':Nat->RA} {w0:World} {S0:Ow} {F:AF T} {H:List (Ent T.U)} {F':PF}
def yw4 {R:Type} {r:R} {C:Ctx T} {n:Nat} {ds:List Deferred} (hm:P.follows .mixedOrders=true) (hp:S0.pin.length<=C.pin) (hE:za0 T P C.E) {K:Ks T R} {K2:Code->St T->Option R}: ∀(k:Nat) (c:Code) (st:St T) (Q:Exit->Act->World->Prop) (F':PF) (w:World),
  evS P C n K K2 k c st=some r->KsOk Q n ds w0 S0 r K->(∀c st,K2 c st=some r-> ∀F1 w1,zc0 T w0 S0 st F1 w1-> ∀a,Fr n ds F1 a->c.wp P Q a w1)->zc0 T w0 S0 st F' w->CW P c Q n ds F' w
 |0,c,st,Q,F',w,h,hK,h2,hs=>fun a ha=>h2 c st h F' w hs a ha
 |k+1,c,st,Q,F',w,h,hK,h2,hs=>by
  cases c with
  |seq x y=>
   have h:evC P C n [] (fun _ _=>none) x [] (K.behind fun st=>evS P C n K K2 k y st) st=some r:=h;have:=zi1 hm hp hE x _ _ st _ F' w h (hK.behind (X:=y.wp P Q) fun st1 h1 F1 w1 hs1 a ha=>yw4 hm hp hE k y st1 Q F1 w1 h1 hK h2 hs1 a ha) (JOk.none _ _ _) hs;exact fun a ha=>wp_seq (this a ha)
  |_=>cases h
end
end Go.X
namespace Go.X
open Go.RowKit Go.V
section
variable {T:Tab}
end
structure KSpec (T:Tab) where
 o:Nat
 e:TypeId
 cs:List Sh
 ps:List Sh
 post:List PE
 rs:List Sh
 g:zg8 T (.ptr o e cs::ps)->Option (zv0 T (.blk e cs::post)×zg8 T rs)
section
variable {T:Tab} {P:Program}
def CallSpec.forkH {T:Tab} (c:List (AV T.U)->List (Ent T.U)->Bool) (a b:CallSpec T):CallSpec T where
 call:=fun aS H K Kp=>z7 (c aS H) (a.call aS H K Kp) (b.call aS H K Kp)
 q:=fun aS H K=>z7 (c aS H) (a.q aS H K) (b.q aS H K)
 isq:=a.isq
 wr:=fun aS H=>a.wr aS H++b.wr aS H
def CallSpec.forkS {T:Tab} (ps:List Sh) (c:zg8 T ps->Bool) (a b:CallSpec T):CallSpec T:=CallSpec.forkH (fun aS H=>match yg1 T H ps aS [] with|some (x,_)=>c x|none=>false) a b
def js7 {f:FuncId} (c:List (AV T.U)->List (Ent T.U)->Bool) {a b:CallSpec T} (ha:zc2 T P f a/\zt5 T P f a/\jb7 a) (hb:zc2 T P f b/\zt5 T P f b/\jb7 b):zc2 T P f (CallSpec.forkH c a b)/\zt5 T P f (CallSpec.forkH c a b)/\jb7 (CallSpec.forkH c a b):=by
 refine ⟨fun aS H K Kp r h=>?_,fun aS H K r h=>?_,fun aS H K Kp r h=>?_⟩
 ·rcases zc7 h with ⟨_,h⟩|⟨_,h⟩
  ·exact ha.1 aS H K Kp r h
  ·exact hb.1 aS H K Kp r h
 ·rcases zc7 h with ⟨_,h⟩|⟨_,h⟩
  ·exact ha.2.1 aS H K r h
  ·exact hb.2.1 aS H K r h
 ·have ec: ∀c0,c aS H=c0-> ∀ {R':Type} (K' Kp':AV T.U->List (Ent T.U)->Option R'),(CallSpec.forkH c a b).call aS H K' Kp'=z7 c0 (a.call aS H K' Kp') (b.call aS H K' Kp'):=fun c0 hc _ K' Kp'=>by
   subst hc;rfl
  have ew:(CallSpec.forkH c a b).wr aS H=a.wr aS H++b.wr aS H:=rfl;rw [ew];have kl: ∀ {H1:List (Ent T.U)},Keeps T (a.wr aS H) H H1->Keeps T (a.wr aS H++b.wr aS H) H H1:=fun h=>⟨h.len,fun e he hn=>h.same e he fun hm=>hn (X4.2 (.inl hm)),h.row⟩;have kr: ∀ {H1:List (Ent T.U)},Keeps T (b.wr aS H) H H1->Keeps T (a.wr aS H++b.wr aS H) H H1:=fun h=>⟨h.len,fun e he hn=>h.same e he fun hm=>hn (X4.2 (.inr hm)),h.row⟩;cases hc:c aS H with
  |true=>
   rw [ec _ hc] at h;have:=ha.2.2 aS H K Kp r h;rcases this with ⟨x,H1,h1,h2,h3⟩|⟨x,H1,h1,h2,h3⟩
   ·exact .inl ⟨x,H1,h1,kl h2,fun K' Kp'=>(ec _ hc K' Kp').trans (h3 K' Kp')⟩
   ·exact .inr ⟨x,H1,h1,kl h2,fun K' Kp'=>(ec _ hc K' Kp').trans (h3 K' Kp')⟩
  |false=>
   rw [ec _ hc] at h;have:=hb.2.2 aS H K Kp r h;rcases this with ⟨x,H1,h1,h2,h3⟩|⟨x,H1,h1,h2,h3⟩
   ·exact .inl ⟨x,H1,h1,kr h2,fun K' Kp'=>(ec _ hc K' Kp').trans (h3 K' Kp')⟩
   ·exact .inr ⟨x,H1,h1,kr h2,fun K' Kp'=>(ec _ hc K' Kp').trans (h3 K' Kp')⟩
def yd1 {f:FuncId} (ps:List Sh) (c:zg8 T ps->Bool) {a b:CallSpec T} (ha:zc2 T P f a/\zt5 T P f a/\jb7 a) (hb:zc2 T P f b/\zt5 T P f b/\jb7 b):zc2 T P f (CallSpec.forkS ps c a b)/\zt5 T P f (CallSpec.forkS ps c a b)/\jb7 (CallSpec.forkS ps c a b):=js7 _ ha hb
end
end Go.X
namespace Go.X
open Go.RowKit Go.V Go.Maps
def vm7 (x:Int):List Int->List Int
 | []=> [x]
 |y::r=>if x<=y then x::y::r else y::vm7 x r
def zk0:List Int->List Int
 | []=> []
 |x::r=>vm7 x (zk0 r)
def yw8 (x:Int): ∀l:List Int,(vm7 x l).Perm (x::l)
 | []=>.refl _
 |y::r=>by
  unfold vm7;split
  ·exact .refl _
  ·exact ((yw8 x r).cons y).trans (.swap x y r)
def zm4: ∀l:List Int,(zk0 l).Perm l
 | []=>.refl _
 |x::r=>(yw8 x _).trans ((zm4 r).cons x)
def yy6 (x:Int): ∀ {l:List Int},l.Pairwise (· <= ·)->(vm7 x l).Pairwise (· <= ·)
 | [],_=>by simp [vm7]
 |y::r,h=>by
  unfold vm7;rw [T0] at h;split
  ·rename_i hxy;refine T0.2 ⟨fun z hz=>?_,T0.2 h⟩;rcases Z0.1 hz with rfl|hz
   ·exact hxy
   ·exact Int.le_trans hxy (h.1 z hz)
  ·rename_i hxy;refine T0.2 ⟨fun z hz=>?_,yy6 x h.2⟩;rcases Z0.1 ((yw8 x r).mem_iff.1 hz) with rfl|hz
   ·omega
   ·exact h.1 z hz
def zo2: ∀l:List Int,(zk0 l).Pairwise (· <= ·)
 | []=>.nil
 |x::r=>yy6 x (zo2 r)
def yx6: ∀ {a b:List Int},a.Perm b->a.Pairwise (· <= ·)->b.Pairwise (· <= ·)->a=b:=
 fun h h1 h2=>List.Perm.eq_of_pairwise (le:=fun a b=>a<=b) (fun _ _ _ _ h1 h2=>Int.le_antisymm h1 h2) h1 h2 h
def ja6 (l:List Int):l.mergeSort (fun x y=>decide (x<=y))=zk0 l:=by
 have tr: ∀a b c:Int,decide (a<=b)=true->decide (b<=c)=true->decide (a<=c)=true:=fun a b c h1 h2=>by simp only [decide_eq_true_eq] at *;exact Int.le_trans h1 h2
 have to: ∀a b:Int,(decide (a<=b)||decide (b<=a))=true:=fun a b=>by simp only [J3,decide_eq_true_eq];exact Int.le_total a b
 refine yx6 ((List.mergeSort_perm l _).trans (zm4 l).symm) ?_ (zo2 l);exact (List.pairwise_mergeSort tr to l).imp fun h=>by simpa using h
def keysOk {α:Type} (m:List (Int×α)):Bool:=m.all (fun p=>decide (-9223372036854775808<=p.1)&&decide (p.1<=9223372036854775807))&&Nat.ble m.length 17592186044416
def zr0 {α:Type} (m:List (Int×α)):Option (((Unit×Unit)×List (Int×α)×Unit)×List Int×Unit):=match keysOk m with|true=>some ((((),()),m,()),zk0 (m.map Prod.fst),())|false=>none
section
variable {T:Tab} {P:Program}
def yt4:Value->Option (DataW Unit×List MemPlace):=fun _=>some (.nil,[])
abbrev SortedCall (P:Program) (f g:FuncId) (kt et:TypeId):Prop:= ∀(Bm b nn:Nat) (D0:DataW Unit) (w:World),Bm<w.heap.size->w.cell? ⟨Bm,0,none⟩=some (.map (some b))->w.ownsMap P kt yt4 b nn D0->Maps.size D0<=17592186044416->
 Calls P f #[.func (.func g) #[] #[.pointer (some ⟨Bm,0,none⟩)]] w fun e w'=> ∃(v:Value) (ss:List Int),e=.returned v/\ss.Perm (intKeys D0)/\
  w'.ownsRow w.heap.size et 1 v ss.length ((ss.mergeSort (fun x y=>decide (x<=y))).map encZ)/\(v=.slice none 0 0↔ss= [])/\Below w.heap.size w w'
def qc0 {α:Type} {m:List (Int×α)} (h:keysOk m=true):(∀p∈m,-9223372036854775808<=p.1/\p.1<=9223372036854775807)/\m.length<=17592186044416:=by
 unfold keysOk at h;rw [X3,Y8] at h;refine ⟨fun p hp=>?_,Y1 h.2⟩;have:=h.1 p hp;rwa [X3,decide_eq_true_eq,decide_eq_true_eq] at this
def qc7 {f g:FuncId} {kt et mt:TypeId} {α:Type} {en:Ent T.U} (hC:SortedCall P f g kt et) (hk:P.underlying kt=some (.int .i64)) {m:List (Int×α)} (hok:keysOk m=true)
  (hen: ∀ {w:World} {S:List Nat} {φ:Nat->RA},EntR T w S φ 1 en-> ∃g l c,(φ 1).ad=some ⟨g,0,none⟩/\Mp w g l c/\l.toList.map (fun e=>e.key)=m.map (fun p=>.int .i64 p.1)/\MapKept.Stamped l c) {w:World} {S:List Nat} {φ:Nat->RA} (hsim:Sim T w ⟨zd6 φ 2,S,(List.range 2).map φ⟩ ⟨[],[.blk mt [.mp 1],en]⟩ [] w S φ)
  {vs:List Value} (hvs:VRL T w S φ [.fn (.func g) [] [.ptr 0 0]] vs):Calls P f vs.toArray w fun e w'=>match e with
   | .returned v=> ∃(F1:PF) (S1:List Nat) (φ1:Nat->RA) (us:List Value),Sim T w ⟨zd6 φ 2,S,(List.range 2).map φ⟩ ⟨[],[.blk mt [.mp 1],en]++ [.row et (.int .i64) (zk0 (m.map Prod.fst))]⟩ F1 w' S1 φ1/\VRL T w' S1 φ1 [.own 2] us/\v=yo7 us/\ ∀i∈j8 ([.own 2]:List (AV T.U)),i<3
   |_=>False:=by
 obtain ⟨hb,hn⟩:=qc0 hok
 match vs,hvs with
 | [v],hvs=>
  obtain ⟨va,vb,rfl,h1,h2⟩:=hvs.1;obtain ⟨g0,c0,a1,a2,a3,a4⟩:=hsim.ents 0 _ rfl;obtain ⟨g1,l,c1,b1,b2,hkeys,b5⟩:=hen (hsim.ents 1 _ rfl);have hva:va= #[]:=by
   cases hl:va.toList with
   |nil=>exact Array.toList_eq_nil_iff.1 hl
   |cons _ _=>rw [hl] at h1;exact h1.elim
  subst hva;have hvb:vb= #[.pointer (some ⟨g0,0,none⟩)]:=by
   match hl:vb.toList,h2 with
   | [u],h2=>
    obtain ⟨g',e1,e2⟩:=h2.1;rw [a1] at e1;simp only [X0,Addr.mk.injEq,and_true] at e1;subst e1;rw [e2] at hl;exact Array.toList_inj.1 hl
  subst hvb;have hc0:w.cell? ⟨g0,0,none⟩=some (.map (some g1)):=by
   have a5:=a4.vrl T (by rfl)
   match hl:c0.toList,a5 with
   | [u],a5=>
    obtain ⟨g',e1,e2⟩:=a5.1;rw [b1] at e1;simp only [X0,Addr.mk.injEq,and_true] at e1;subst e1;have:c0= #[u]:=Array.toList_inj.1 hl;subst this;subst e2;unfold World.cell?;have a2:w.heap[g0]?=_:=a2;simp [a2]
  have hlen:m.length=l.toList.length:=by have:=congrArg List.length hkeys;simpa using this.symm
  have hread: ∀e∈l.toList,∃x:Int,e.key=.int .i64 x/\WideElems.rd P kt yt4 e=some (.int .i64 x,.nil):=by
   intro e he;have hm:e.key∈l.toList.map (fun e=>e.key):=U3.2 ⟨e,he,rfl⟩;rw [hkeys] at hm;obtain ⟨p,hp,hpe⟩:=U3.1 hm;have hbp:=hb p hp;refine ⟨p.1,hpe.symm,?_⟩;have hkey:keyOf P kt e.key=some (.int .i64 p.1):=by
    rw [<-hpe];have hwf:(Lit.int .i64 p.1).wf=true:=by
     simp only [Lit.wf,IntKind.min,IntKind.max,IntKind.signed,IntKind.bits];simp;omega
    simp [keyOf,hk,mapKey,hwf]
   simp [WideElems.rd,hkey,yt4]
  have hown:w.ownsMap P kt yt4 g1 l.size (.map ((l.toList.map (WideElems.rg P kt yt4)).foldr DataW.insert [])):=by
   refine ⟨l,c1,b2,⟨?_,b5,fun e he=>?_⟩,W8 _,rfl⟩
   ·rw [<-Array.length_toList,<-hlen];exact W9 hn (by decide)
   ·obtain ⟨x,_,hx⟩:=hread e he;exact ⟨_,hx⟩
  have hsize:Maps.size (.map ((l.toList.map (WideElems.rg P kt yt4)).foldr DataW.insert []):DataW Unit)<=17592186044416:=by
   rw [Maps.size_eq,length_sorted,U7,<-hlen];exact hn
  have hperm:(intKeys (.map ((l.toList.map (WideElems.rg P kt yt4)).foldr DataW.insert []):DataW Unit)).Perm (m.map Prod.fst):=by
   show (((l.toList.map (WideElems.rg P kt yt4)).foldr DataW.insert []).map fun p=>Go.intOf p.1).Perm _;refine ((WideShapes.sorted_perm _).map _).trans ?_;rw [List.map_map];have: ∀ {es:List MapEntry} {ms:List (Int×α)},(∀e∈es,∃x:Int,e.key=.int .i64 x/\WideElems.rd P kt yt4 e=some (.int .i64 x,.nil))->es.map (fun e=>e.key)=ms.map (fun p=>Value.int .i64 p.1)->es.map ((fun p:Lit×DataW Unit=>Go.intOf p.1)∘WideElems.rg P kt yt4)=ms.map Prod.fst:=by
    intro es;induction es with
    |nil=>intro ms _ h;cases ms with|nil=>rfl|cons _ _=>cases h
    |cons e r ih=>
     intro ms hr h;cases ms with
     |nil=>cases h
     |cons p q=>
      simp only [U1,List.cons.injEq] at h⊢;obtain ⟨x,h1,h2⟩:=hr e (by simp);refine ⟨?_,ih (fun e' he'=>hr e' (by simp [he'])) h.2⟩;have hx:=h.1.symm.trans h1;simp only [Value.int.injEq,true_and] at hx;simp [WideElems.rg,h2,Go.intOf,hx]
   rw [this hread hkeys]
  have hlt:g0<w.heap.size:=Blk.lt a2;refine (hC g0 g1 l.size _ w hlt hc0 hown hsize).mono ?_
  rintro e w' ⟨v,ss,rfl,hss,hrow,hnil,hbelow⟩
  have hc:=Chg.ofBelow hbelow;have hsort:ss.mergeSort (fun x y=>decide (x<=y))=zk0 (m.map Prod.fst):=by
   rw [ja6];exact yx6 ((zm4 ss).trans ((hss.trans hperm).trans (zm4 _).symm)) (zo2 _) (zo2 _)
  rw [hsort] at hrow;have hl2:ss.length=(zk0 (m.map Prod.fst)).length:=by rw [(hss.trans hperm).length_eq,(zm4 _).length_eq]
  have hcells: ∀S',CellsR T w' S' ((zk0 (m.map Prod.fst):List (den T.U (.int .i64))).flatMap (za3 T (.int .i64))) ((zk0 (m.map Prod.fst)).map encZ):=by
   intro S';generalize zk0 (m.map Prod.fst)=ks;have hf:(ks:List (den T.U (.int .i64))).flatMap (za3 T (.int .i64))=ks.map fun x:Int=>(⟨.int .i64,x⟩:Cell T.U):=by
    induction ks with
    |nil=>rfl
    |cons a r ih=>rw [U1,<-ih];rfl
   rw [hf];refine ⟨by simp,fun j c v h1 h2=>?_⟩;rw [W4] at h1 h2;cases hj:ks[j]? with
   |none=>rw [hj] at h1;cases h1
   |some x=>
    rw [hj] at h1 h2;simp only [Z8,X0] at h1 h2;subst h1;subst h2;exact CR.int _ _
  have hids: ∀i∈j8 ([.own 2]:List (AV T.U)),i<3:=by intro i hi;simp [j8,AV.ids] at hi;omega
  rcases id hrow.2 with ⟨rfl,hz⟩|⟨gb,cap,cur,rfl,hbase,hgb,r1,r2,r3,r4⟩
  ·have h1:=hsim.pure hc;have h2:=h1.addG (Chg.refl [] w') (by simp) (by simp) (fun _ _ _ _ _ _=>by simp) (S':=S) (fun _ h=>h) (fun _ h=>.inl h) (r:=⟨none,0,0,[]⟩) (fun a h=>by cases yd8 h) (fun a h=>by cases yd8 h) (e:=.row et (.int .i64) (zk0 (m.map Prod.fst)))
    ⟨w.heap.size,_,by rw [j5];rw [hz] at hrow;exact .of hrow,by rw [j5];exact hz.symm.trans hl2,hc.size,hcells S,fun a ha=>by rw [j5] at ha;cases ha⟩ (fun j hj=>by cases hj)
   exact ⟨_,S,_,[.slice none 0 0],h2,⟨by rw [VR,show ([Ent.blk mt [AV.mp 1],en]:List (Ent T.U)).length=2 from rfl,j5],trivial⟩,rfl,hids⟩
  ·have hgl:=(Y3.1 hgb).1;have h2:=hsim.add (g:=gb) (r:=⟨some ⟨gb,0,none⟩,ss.length,cap,[]⟩) hc hbase hgl (fun a ha=>zv3 ha) (e:=.row et (.int .i64) (zk0 (m.map Prod.fst)))
    ⟨w.heap.size,_,by rw [j5];exact .of hrow,by rw [j5];exact hl2,hc.size,hcells _,fun a ha=>by rw [j5] at ha;simp only [X0] at ha;subst ha;simp⟩ (fun j hj=>by cases hj)
   exact ⟨_,_,_,[.slice (some ⟨gb,0,none⟩) ss.length cap],h2,⟨by rw [VR,show ([Ent.blk mt [AV.mp 1],en]:List (Ent T.U)).length=2 from rfl,j5],trivial⟩,rfl,hids⟩
def PRel.keys {w:World} {S:List Nat} {φ:Nat->RA} {r:RA} {k:IntKind} {be:TypeId} {d:Nat} {m:List (Int×T.U d)} {op:Option (Int×Nat)} {l:List MapEntry} {bs:List Nat} (h:PRel T w S φ r k be d m op l bs):l.map (fun e=>e.key)=m.map fun p=>.int k p.1:=by
 refine List.ext_getElem (by simp [h.len]) fun p h1 h2=>?_;simp only [U7] at h1 h2;have hb:p<bs.length:=by rw [<-h.lenb];exact h2
 obtain ⟨x,u⟩:Int×T.U d:=m[p];have:=(h.at_ p m[p].1 m[p].2 l[p] bs[p] (Y0 h2) (Y0 h1) (Y0 hb)).1;simp [this]
def qb9 {f g:FuncId} {kt et mt be:TypeId} {d:Nat} (hC:SortedCall P f g kt et) (hk:P.underlying kt=some (.int .i64)):
  GOk T P f ⟨[.fn g [] [.ptr 0 mt [.pm .i64 be d]]],[.blk mt [.mpo 1],.pm .i64 be d],[.row et (.int .i64)],fun x=>zr0 x.1.2.1.1⟩:=by
 intro x y hy w S φ hsim vs hvs hoks;have hy:zr0 x.1.2.1.1=some y:=hy;unfold zr0 at hy;split at hy<;>try (cases hy;done)
 rename_i hok;have hy:((((),()),x.1.2.1.1,()),zk0 (x.1.2.1.1.map Prod.fst),())=y:=X5 hy;subst hy;refine qc7 (m:=x.1.2.1.1) hC hk hok (fun h=>?_) hsim hvs;obtain ⟨g,l,c,bs,h1,h2,_,h4,h5⟩:=h;exact ⟨g,l,c,h1,h2,h4.keys,h5⟩
end
end Go.X
