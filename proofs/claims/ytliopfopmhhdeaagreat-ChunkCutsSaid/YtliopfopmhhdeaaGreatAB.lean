import Derived.Test.YtliopfopmhhdeaaGreatA9
import Derived.Test.YtliopfopmhhdeaaGreatA1
import Derived.Shelf.SlIterI.Nil
import Derived.Shelf.SortM.Plain
import Derived.Shelf.SortM.SortNone
set_option linter.defProp false
namespace Go.X
open Go.RowKit Go.V Go.ChangeShapes Go.WideShapes Go.ChangeAt Go.Deep
inductive GoodV (T:Tab):(t:Ty)->den T.U t->Prop
 |int (k:IntKind) (x:Int) (h:k.min<=x/\x<=k.max):GoodV T (.int k) x
 |bool (b:Bool):GoodV T .bool b
 |str (s:ByteArray) (h:s.size<=maxLen):GoodV T .str s
 |list (e:Ty) (xs:List (den T.U e)) (hl:xs.length<=maxLen) (h: ∀x∈xs,∀c∈za1 T e x,GoodV T c.t c.x):GoodV T (.list e) xs
def kg9 (T:Tab) (t:Ty) (x:den T.U t):Prop:= ∀c∈za1 T t x,GoodV T c.t c.x
def yd1 (ct:Nat->List Ty):Ty->List Ty| .user i=>ct i|t=> [t]
structure Packs (T:Tab) (ct:Nat->List Ty):Prop where
 pack: ∀(i:Nat) (cl:List (Cell T.U)),cl.map (·.t)=ct i-> ∃x,T.pack i cl=some x
 size: ∀i,T.size i=(ct i).length
def zy6 (P:Program) (g:TypeId->List Ty->Bool):List Field->Nat->List Ty->Bool
 | [],_,tys=>match tys with| []=>true|_::_=>false
 |f::r,o,tys=>Nat.beq f.offset o&&(Nat.ble (P.cellsOf f.type) tys.length&&(g f.type (tys.take (P.cellsOf f.type))&&zy6 P g r (o+P.cellsOf f.type) (tys.drop (P.cellsOf f.type))))
def qg8 (P:Program) (ct:Nat->List Ty):Nat->TypeId->List Ty->Bool
 |0,_,_=>false
 |n+1,t,tys=>match P.underlying t with
  |some (.int k)=>match tys with| [.int k']=>zc3 k k'&&Nat.beq (P.cellsOf t) 1|_=>false
  |some .bool=>match tys with| [.bool]=>Nat.beq (P.cellsOf t) 1|_=>false
  |some .string=>match tys with| [.str]=>Nat.beq (P.cellsOf t) 1|_=>false
  |some (.slice e)=>match tys with| [.list ty]=>Nat.ble 1 (yd1 ct ty).length&&(Nat.beq (P.cellsOf e) (yd1 ct ty).length&&qg8 P ct n e (yd1 ct ty))|_=>false
  |some (.struct fs)=>zy6 P (qg8 P ct n) fs.toList 0 tys
  |_=>false
section
variable {T:Tab} {P:Program} {ct:Nat->List Ty} {H:Type} {enc:TypeId×Value->H} {w:World}
def qn8 (hp:Packs T ct) {ty:Ty} {cl:List (Cell T.U)} (h:cl.map (·.t)=yd1 ct ty): ∃x:den T.U ty,za1 T ty x=cl:=by
 have one: ∀ty:Ty,ty.one=true->cl.map (·.t)= [ty]-> ∃x:den T.U ty,za1 T ty x=cl:=by
  intro ty ho h
  match cl,h with
  | [⟨t,x⟩],h=>
   simp only [U1,List.map_nil,List.cons.injEq,and_true] at h;subst h;exact ⟨x,yo6 T ho x⟩
 cases ty with
 |user i=>
  obtain ⟨x,hx⟩:=hp.pack i cl h;exact ⟨x,T.packed _ _ _ hx⟩
 |int k=>exact one _ rfl h
 |bool=>exact one _ rfl h
 |str=>exact one _ rfl h
 |list e=>exact one _ rfl h
 |nl e=>exact one _ rfl h
def qr0 (hp:Packs T ct) (ty:Ty):szT T ty=(yd1 ct ty).length:=by
 cases ty with
 |user i=>exact hp.size i
 |_=>rfl
def qv5 (hp:Packs T ct): ∀(n:Nat) (t:TypeId) (tys:List Ty),qg8 P ct n t tys=true-> ∀(m:Nat) (cs:List Value) (x:DataW H×List MemPlace),DataW.trod enc P w 0 (fun _=>true) true m t cs=some x->cs.length=tys.length->
  ∃cl:List (Cell T.U),cl.map (·.t)=tys/\CellsR T w [] cl cs/\ ∀c∈cl,GoodV T c.t c.x:=by
 have cell1: ∀(c:Cell T.U) (v:Value),CR T w [] c.t c.x v->CellsR T w [] [c] [v]:=fun c v h=>⟨rfl,fun j c' v' h1 h2=>by
  cases j with
  |zero=>simp at h1 h2;subst h1;subst h2;exact h
  |succ j=>simp at h1⟩
 intro n;induction n with
 |zero=>intro t tys h;unfold qg8 at h;cases h
 |succ n ih=>
  intro t tys h m cs x hx hlen;unfold qg8 at h;split at h<;>try (cases h;done)
  ·rename_i k hu;split at h<;>try (cases h;done)
   rename_i k';simp only [X3] at h;have:=v8 h.1;subst this;obtain ⟨a,h1,_,wa⟩:=DataW.trod_int hu hx;subst h1;exact ⟨[⟨.int k,a⟩],rfl,cell1 _ _ (.int k a),fun c hc=>by simp at hc;subst hc;exact .int k a (by simpa [Lit.wf] using wa)⟩
  ·rename_i hu;split at h<;>try (cases h;done)
   obtain ⟨b,h1,_⟩:=DataW.trod_bool hu hx;subst h1;exact ⟨[⟨.bool,b⟩],rfl,cell1 _ _ (.bool b),fun c hc=>by simp at hc;subst hc;exact .bool b⟩
  ·rename_i hu;split at h<;>try (cases h;done)
   obtain ⟨s,h1,_,hs⟩:=DataW.trod_string hu hx;subst h1;exact ⟨[⟨.str,s⟩],rfl,cell1 _ _ (.str s),fun c hc=>by simp at hc;subst hc;exact .str s hs⟩
  ·rename_i e hu;split at h<;>try (cases h;done)
   rename_i ty;simp only [X3] at h;obtain ⟨h1s,h2,h3⟩:=h;have h1s:=Y1 h1s;have h2:=X1 h2;rcases DataW.trod_slice hu hx with ⟨rfl,_⟩|⟨a,len,cap,elems,rest,q,rfl,rfl,_,_,hl,hmx,hel,hsome,_,_⟩
   ·refine ⟨[⟨.list ty,([]:List (den T.U ty))⟩],rfl,cell1 ⟨.list ty,([]:List (den T.U ty))⟩ _ CR.nilS,fun c hc=>?_⟩;simp at hc;subst hc;exact .list ty [] (U6 _) (fun x hx=>by cases hx)
   ·have key: ∀i,∃y:den T.U ty,i<len->kg9 T ty y/\ ∃cs',w.cells? 0 (a.add (i*P.cellsOf e)) (P.cellsOf e)=some cs'/\CellsR T w [] (za1 T ty y) cs':=by
     intro i;by_cases hi:i<len
     ·have h4:=hsome i hi;rw [Y0 (by omega)] at h4;obtain ⟨cs',h5,h6⟩:=Option.bind_eq_some_iff.1 h4;obtain ⟨cl,g1,g2,g3⟩:=ih e (yd1 ct ty) h3 _ cs' _ h6 (by rw [(jj0 h5).1,h2]);obtain ⟨y,rfl⟩:=qn8 hp g1;exact ⟨y,fun _=>⟨g3,cs',h5,g2⟩⟩
     ·exact ⟨zv6 T ty,fun h=>absurd h hi⟩
    let B:Nat->den T.U ty:=fun i=>(key i).choose
    have hB: ∀i,i<len->kg9 T ty (B i)/\ ∃cs',w.cells? 0 (a.add (i*P.cellsOf e)) (P.cellsOf e)=some cs'/\CellsR T w [] (za1 T ty (B i)) cs':=fun i=>(key i).choose_spec;have hBl:((List.range len).map B).length=len:=by simp
    have hgetB: ∀(k:Nat) (y:den T.U ty),((List.range len).map B)[k]?=some y->k<len/\y=B k:=by
     intro k y hk;obtain ⟨h1,h2⟩:=X2.1 hk;simp at h1 h2;exact ⟨h1,h2.symm⟩
    have hcellv: ∀i,i<len-> ∀(j:Nat) (c:Cell T.U),(za1 T ty (B i))[j]?=some c-> ∃v,w.cell? ((a.add (i*P.cellsOf e)).add j)=some v/\CR T w [] c.t c.x v:=by
     intro i hi j c hc;obtain ⟨_,cs',h5,h6⟩:=hB i hi;have hj:=(X2.1 hc).1;rw [h6.1] at hj;have hv:cs'[j]?=some cs'[j]:=Y0 hj;exact ⟨_,(jj0 h5).2 j _ hv,h6.2 j c _ hc hv⟩
    have hpos:0<szT T ty-> ∀i,i<len->a.spot=none/\a.block<w.heap.size:=by
     intro hp0 i hi;have hfl:0<(za1 T ty (B 0)).length:=by rw [q7];exact hp0
     obtain ⟨v,hv,_⟩:=hcellv 0 (by omega) 0 _ (Y0 hfl);simp only [M0,Addr.add,if_true] at hv;have hblk:=World.block_lt_of_cell? w _ hv;refine ⟨?_,hblk⟩;unfold World.cell? at hv;split at hv
     ·split at hv
      ·cases hv
      ·rename_i hs;simpa using hs
     ·cases hv
    have hadd: ∀i j,a.spot=none->(a.add (i*P.cellsOf e)).add j=⟨a.block,a.off+(i*szT T ty+j),none⟩:=by
     intro i j hs;obtain ⟨ab,ao,asp⟩:=a;have hs:asp=none:=hs;subst hs;rw [qr0 hp,<-h2];unfold Addr.add;split<;>split<;>simp_all<;>omega
    let u:Nat->Nat->Value:=fun k j=>(w.cell? ((a.add (k*P.cellsOf e)).add j)).getD undef
    refine ⟨[⟨.list ty,(List.range len).map B⟩],rfl,cell1 ⟨.list ty,(List.range len).map B⟩ _ ?_,fun c hc=>?_⟩
    ·
     ·have hz:0<szT T ty:=by rw [qr0 hp];omega
      have hcr:CR T w [] (.list ty) ((List.range len).map B) (.slice (some a) ((List.range len).map B).length cap):=by
       refine .list ty _ (some a) cap u (by rw [hBl];exact hl) (fun h=>by cases h) (fun hne=>?_) ?_ ?_
       ·have h0:0<len:=by
         rcases M2 len with h|h
         ·subst h;exact absurd rfl hne
         ·exact h
        obtain ⟨h7,h8⟩:=hpos hz 0 h0;refine ⟨?_,h8,by simp⟩;obtain ⟨ab,ao,asp⟩:=a;have h7:asp=none:=h7;subst h7;rfl
       ·intro k j c hk;cases hg:((List.range len).map B)[k]? with
        |none=>rw [hg] at hk;cases hk
        |some y=>
         rw [hg] at hk;simp only [Z8,X0] at hk;obtain ⟨hkl,rfl⟩:=hgetB k y hg;obtain ⟨v,hv,_⟩:=hcellv k hkl j c hk;obtain ⟨h7,_⟩:=hpos hz k hkl;show w.cell? ⟨a.block,a.off+(k*szT T ty+j),none⟩=some (u k j);rw [<-hadd k j h7];show _=some ((w.cell? ((a.add (k*P.cellsOf e)).add j)).getD undef);rw [hv];rfl
       ·intro k j c hk;cases hg:((List.range len).map B)[k]? with
        |none=>rw [hg] at hk;cases hk
        |some y=>
         rw [hg] at hk;simp only [Z8,X0] at hk;obtain ⟨hkl,rfl⟩:=hgetB k y hg;obtain ⟨v,hv,hr⟩:=hcellv k hkl j c hk;show CR T w [] c.t c.x ((w.cell? ((a.add (k*P.cellsOf e)).add j)).getD undef);rw [hv];exact hr
      rw [hBl] at hcr;exact hcr
    ·simp at hc;subst hc;refine .list ty _ (by rw [hBl];omega) fun y hy=>?_;obtain ⟨i,hi,rfl⟩:=U2.1 hy;exact (hB i (U8.1 hi)).1
  ·rename_i fs hu;obtain ⟨xs,q,rfl,_,hcl,hxl,hf⟩:=DataW.trod_struct hu hx;have go: ∀(l:List Field) (o:Nat) (tys:List Ty),zy6 P (qg8 P ct n) l o tys=true-> ∀(i0:Nat),(∀(i:Nat) (f:Field),l[i]?=some f-> ∃y,DataW.trod enc P w 0 (fun _=>true) true q f.type ((cs.drop f.offset).take (P.cellsOf f.type))=some y)->o+tys.length=cs.length->
     ∃cl:List (Cell T.U),cl.map (·.t)=tys/\CellsR T w [] cl (cs.drop o)/\ ∀c∈cl,GoodV T c.t c.x:=by
    intro l;induction l with
    |nil=>
     intro o tys h i0 _ hlen;unfold zy6 at h;split at h<;>try (cases h;done)
     refine ⟨[],rfl,⟨by simp at hlen;simp;omega,fun j c v h=>by simp at h⟩,fun c hc=>by cases hc⟩
    |cons f r ihl=>
     intro o tys h i0 hall hlen;unfold zy6 at h;simp only [X3] at h;obtain ⟨h1,h2,h3,h4⟩:=h;have h1:=X1 h1;have h2:=Y1 h2;obtain ⟨y,hy⟩:=hall 0 f rfl;rw [h1] at hy;obtain ⟨cl1,a1,a2,a3⟩:=ih f.type _ h3 q _ y hy (by rw [Y6,Y6,Q7];omega);obtain ⟨cl2,b1,b2,b3⟩:=ihl (o+P.cellsOf f.type) _ h4 0 (fun i g hg=>hall (i+1) g (by simpa using hg)) (by rw [Q7];omega);refine ⟨cl1++cl2,by rw [V9,a1,b1,Q8],?_,fun c hc=>(X4.1 hc).elim (a3 c) (b3 c)⟩;have:=a2.app b2;rwa [<-List.drop_drop,Q8] at this
   have:=go fs.toList 0 tys h 0 (fun i f hfi=>by
    have hfi':fs[i]?=some f:=by simpa using hfi
    have h5:=hf i f hfi';have hlt:=(Y3.1 hfi').1;rw [Y0 (by omega)] at h5;exact ⟨_,h5⟩) (by omega)
   simpa using this
def ka0 (P:Program) (t:TypeId):Bool:=match P.underlying t with|some (.struct _)=>false|_=>true
def openArg (hp:Packs T ct) {t:TypeId} {ty:Ty} (hty: ∀i,ty≠.user i) (n:Nat) (ho:qg8 P ct n t (yd1 ct ty)=true) (hst:ka0 P t=true) {r:Reach} {base:Nat} {v:Value} {d:DataW H} {p:List MemPlace} (hv:Value.okWide P w r base t v) (h:DataW.Trod enc P w 0 (fun _=>true) true t v d p):
  ∃x:den T.U ty,VR T w [] (fun _=>⟨none,0,0,[]⟩) (zl2 T ty x) v/\kg9 T ty x:=by
 obtain ⟨m,hm⟩:=h;have hone:v.cells= #[v]:=by
  cases n with
  |zero=>unfold qg8 at ho;cases ho
  |succ n=>
   unfold qg8 at ho;split at ho<;>try (cases ho;done)
   ·rename_i k hu;obtain ⟨a,rfl⟩:=okWide_int hu hv;rfl
   ·rename_i hu;obtain ⟨b,rfl,_⟩:=open_bool hu hv ⟨m,hm⟩;rfl
   ·rename_i hu;obtain ⟨s,rfl⟩:=okWide_string hu hv;rfl
   ·rename_i e hu;obtain ⟨a,len,cap,rfl⟩:=okWide_slice hu hv;rfl
   ·rename_i fs hu;unfold ka0 at hst;rw [hu] at hst;cases hst
 obtain ⟨cl,h1,h2,h3⟩:=qv5 (T:=T) hp n t _ ho m _ _ hm (by rw [hone];cases ty<;>first|rfl|exact absurd rfl (hty _));obtain ⟨x,rfl⟩:=qn8 hp h1;refine ⟨x,?_,h3⟩;rw [hone] at h2;have hf:za1 T ty x= [⟨ty,x⟩]:=yo6 T (by cases ty<;>first|rfl|exact absurd rfl (hty _)) x;rw [hf] at h2;have:=h2.2 0 _ v rfl rfl;cases ty<;>first|exact this|exact absurd rfl (hty _)
def lawRet {f:FuncId} {ps:List PT} {g:zo3 T ps->Option (zv8 T (za9 ps) (zo4 T [.val .bool]))} (hok:yw9 T P f ⟨ps,[.val .bool],g⟩) (hio:za9 ps= []) (hent: ∀x:zo3 T ps,zr7 T ps x= []) {x:zo3 T ps} {y:zv8 T (za9 ps) (zo4 T [.val .bool])} (hy:g x=some y) (hl:ye2 T (za9 ps) y=(true:Bool))
  {φ:Nat->RA} {vs:List Value} (hvs:VRL T w [] φ (yg6 T 0 ps x) vs):Calls P f vs.toArray w (zh0 w (.bool true)):=by
 have hio0:(za9 ps).length=0:=by rw [hio];rfl
 refine (hok x y hy w [] φ vs hvs (fun b hb=>by cases hb) (fun k e hk=>by rw [show zr7 T (FnSpec.ps ⟨ps,[.val .bool],g⟩) x= [] from hent x] at hk;simp at hk) (fun j hj=>by
  have hj:j<(za9 ps).length:=hj;omega) (fun j k hj=>by
  have hj:j<(za9 ps).length:=hj;omega)).mono fun e w' hR=>?_
 cases e with
 |returned v=>
  obtain ⟨F1,H1,F1',S1,φ1,as1,us,g1,g2,rfl,g4,g5,g6⟩:=hR;have hchg:Chg [] w w':=by
   have:=g1.chg;rw [show zc8 φ (za9 ps).length= [] by rw [hio0];rfl] at this;exact this
  refine ⟨hchg,?_⟩;have hlast:=(zy9 g4).1;rw [hl] at hlast
  match as1,hlast,us,g2 with
  | [a],hlast,[v],g2=>
   have hrd:jg0 T .bool a=some true:=hlast;exact (zd5 (φ:=φ1) (ya4 (t:=.bool) hrd g2.1 φ1))
  | [],hlast,_,_=>cases hlast
  |_::_::_,hlast,_,_=>cases hlast
 |panicked ch=>exact hR.elim
 |outgrown=>exact hR.elim
end
end Go.X
namespace Go.X
open Go.RowKit Go.V
structure PSpec (T:Tab) where
 ps:List Sh
 post:List PE
 rs:List Sh
 pv:Sh
 g:zc1 T ps->Option (zm6 T post×(zc1 T rs⊕zc1 T [pv]))
section
variable (T:Tab) (P:Program)
def POk (f:FuncId) (sp:PSpec T):Prop:= ∀x y,sp.g x=some y-> ∀(w:World) (S:List Nat) (φ:Nat->RA),Sim T w ⟨zc8 φ (zb3 sp.ps),S,(List.range (zb3 sp.ps)).map φ⟩ ⟨[],zi7 T id sp.ps x 0⟩ [] w S φ->
 ∀vs:List Value,VRL T w S φ (zd2 T id sp.ps x 0) vs->(∀a∈zd2 T id sp.ps x 0,okA (zi7 T id sp.ps x 0) a)->
 Calls P f vs.toArray w fun e w'=>match e with
  | .returned v=> ∃z,y.2=.inl z/\ ∃us,qd3 T sp.post sp.rs y.1 z w S φ (zb3 sp.ps) w' us/\v=zx7 us
  | .panicked ch=> ∃z,y.2=.inr z/\ ∃u,ch= [{v:=u,recovered:=false}]/\qd3 T sp.post [sp.pv] y.1 z w S φ (zb3 sp.ps) w' [u]
  | .outgrown=>False
def PSpec.toCall {T:Tab} (sp:PSpec T) (alt:CallSpec T):CallSpec T where
 call:=fun aS H K Kp=>match zx6 T H sp.ps aS [] with
  |some (x,l)=>match zb7 (zj2 l)&&jg7 T H (zj2 l) sp.post with
   |true=>j8 (sp.g x) fun y=>match y.2 with
    | .inl z=>K (zp8 T (zd2 T (σJ (zj2 l) H.length) sp.rs z (sp.post.length+zh5 sp.post))) (zh6 T H (zj2 l) (mkP T (σJ (zj2 l) H.length) sp.post y.1 sp.post.length)++(yl5 T (σJ (zj2 l) H.length) sp.post y.1 sp.post.length++zi7 T (σJ (zj2 l) H.length) sp.rs z (sp.post.length+zh5 sp.post)))
    | .inr z=>Kp (zp8 T (zd2 T (σJ (zj2 l) H.length) [sp.pv] z (sp.post.length+zh5 sp.post))) (zh6 T H (zj2 l) (mkP T (σJ (zj2 l) H.length) sp.post y.1 sp.post.length)++(yl5 T (σJ (zj2 l) H.length) sp.post y.1 sp.post.length++zi7 T (σJ (zj2 l) H.length) [sp.pv] z (sp.post.length+zh5 sp.post)))
   |false=>none
  |none=>alt.call aS H K Kp
 q:=alt.q
 isq:=alt.isq
 wr:=fun aS H=>match zx6 T H sp.ps aS [] with|some (_,l)=>zj2 l|none=>alt.wr aS H
def vo1 (nl:Nl) (post:List PE) (rs:List Sh) (pv:Sh) (a:AV T.U) (st:St T):Option (zm6 T post×(zc1 T rs⊕zc1 T [pv])):=
 match rdP T (zc7 T nl.bn st.H) post 0 (zm8 post 0) with
 |some (y,l)=>match zx6 T (zc7 T nl.bn st.H) [pv] [a] l with
  |some (z,l')=>match zl4 l' with|true=>some (y,.inr z)|false=>none
  |none=>none
 |none=>none
def qj9 (fn:Func) (nl:Nl) (post:List PE) (rs:List Sh) (pv:Sh):Ks T (zm6 T post×(zc1 T rs⊕zc1 T [pv])):=
 ⟨fun st=>j8 (yl1 T P fn nl post rs st) fun y=>some (y.1,.inl y.2),fun _ _=>none,fun st=>j8 (yl1 T P fn nl post rs st) fun y=>some (y.1,.inl y.2),vo1 T nl post rs pv⟩
noncomputable def kp6 (C:Ctx T) (cuts:List (Pos×Cut)) (fn:Func) (c:Code) (nl:Nl) (ps:List Sh) (post:List PE) (rs:List Sh) (pv:Sh) (m:Nat) (x:zc1 T ps):Option (zm6 T post×(zc1 T rs⊕zc1 T [pv])):=
 evC P C fn.ntmps cuts (run P C fn.ntmps cuts c (qj9 T P fn nl post rs pv) m) c [] (qj9 T P fn nl post rs pv) ⟨yd7 T (zd2 T id ps x 0) 0,zi7 T id ps x 0⟩
end
section
variable {T:Tab} {P:Program} {w w':World} {S S':List Nat} {φ φ':Nat->RA} {w0:World} {S0:Ow} {F:AF T} {H:List (Ent T.U)} {F':PF}
def jw0 {f:FuncId} {sp:PSpec T} {alt:CallSpec T} (hok:POk T P f sp) (ha:za4 T P f alt):za4 T P f (sp.toCall alt):=by
 intro R aS H K Kp r hr w0 S0 F F' w S φ h vs hvs has;simp only [PSpec.toCall] at hr;split at hr
 ·rename_i x l hx;split at hr
  ·rename_i hb;simp only [X3] at hb;obtain ⟨hn,hro⟩:=hb;obtain ⟨y,hy,hK⟩:=za3 hr;obtain ⟨new,g1,g2,g3⟩:=zd6 sp.ps aS [] l x hx;have hl:l=new.map some:=by rw [g1.eq];rfl
   have hids:zj2 l=new:=by rw [hl,yo9]
   rw [hids] at hn hro hK;have hno:zl4 l=true:=by
    rw [hl];clear hK hro hids hx g1 g2 g3 hl;induction new with
    |nil=>rfl
    |cons i r ih=>
     rw [zb7,X3,U7] at hn;rw [U1,zl4,ih hn.2,Bool.and_true,U7];cases hm:jy5 i (r.map some) with
     |false=>rfl
     |true=>
      have:=ya2.1 hm;obtain ⟨j,hj,e⟩:=U2.1 this;simp only [X0] at e;subst e;rw [za7.2 hj] at hn;exact absurd hn.1 (by simp)
   obtain ⟨q1,q2⟩:=g3 _ (yc5 hno);obtain ⟨hlen,hrow⟩:=zw1 hro;have hnewlen:new.length=zb3 sp.ps:=g2;obtain ⟨c0,x0,p0⟩:=S0;have hs:=(h.unpin.src (l:=l) hno (fun k hk=>by simp at hk) (fun i e hi he j hj=>by
    rw [hl] at hi;obtain ⟨i',hi',e'⟩:=U2.1 hi;simp only [X0] at e';subst e';obtain ⟨e0,h1,_,h3⟩:=g1.ents i' hi';rw [he] at h1;simp only [X0] at h1;subst h1;exact h3 j hj))
   rw [show zf9 T H (fun i=>yl0 i l) l=zc2 T H (fun i=>yl0 i l) new by rw [hl,zs7]] at hs;have hs:=(hs.imp q2).start;rw [zc0,<-hnewlen] at hs;have hφc: ∀k i,new[k]?=some i->φO l φ k=φ i:=fun k i hk=>φO_at (by rw [hl,W4,hk];rfl);have hvs':VRL T w S (φO l φ) (zd2 T id sp.ps x 0) vs:=q1.vrl (VRL.ren T (fun i hi=>φO_idx (g1.ids i hi)) hvs);have hoks: ∀a∈zd2 T id sp.ps x 0,okA (zi7 T id sp.ps x 0) a:=fun a ha=>zb9 (zy4 id _ _ _ a ha) fun i hi=>by
    have hi:=zg1 ha i hi;rw [show j4 (zd2 T id sp.ps x 0)=_ from q1.ids] at hi;rw [zc0,<-hnewlen];refine zp5 (fun j hj=>?_) i hi;have:=(X2.1 (zm0 (g1.ids j hj))).1;rw [hl,U9] at this;rw [hl];exact this
   have step: ∀(rs:List Sh) (z:zc1 T rs) (w':World) (us:List Value),qd3 T sp.post rs y.1 z w S (φO l φ) (zb3 sp.ps) w' us->
     ∃S1 φ2,Sim T w0 ⟨c0,x0,p0⟩ ⟨F,zh6 T H new (mkP T (σJ new H.length) sp.post y.1 sp.post.length)++(yl5 T (σJ new H.length) sp.post y.1 sp.post.length++zi7 T (σJ new H.length) rs z (sp.post.length+zh5 sp.post))⟩ F' w' S1 φ2/\VR T w' S1 φ2 (zp8 T (zd2 T (σJ new H.length) rs z (sp.post.length+zh5 sp.post))) (zx7 us)/\
      okA (zh6 T H new (mkP T (σJ new H.length) sp.post y.1 sp.post.length)++(yl5 T (σJ new H.length) sp.post y.1 sp.post.length++zi7 T (σJ new H.length) rs z (sp.post.length+zh5 sp.post))) (zp8 T (zd2 T (σJ new H.length) rs z (sp.post.length+zh5 sp.post))):=by
    intro rs z w' us hans;obtain ⟨F1,S1,φ1,k1,k2,k3⟩:=hans;rw [<-hnewlen] at k1;obtain ⟨φ2,m1,m2⟩:=h.join hn (fun i hi=>by obtain ⟨e,a,b,_⟩:=g1.ents i hi;exact ⟨e,a,b⟩) hφc k1 (by rw [yd6,hlen]) (fun k i e t ys hk hp=>hrow k i e t hk (yq8 hp));rw [jp4,V9,jd6,zi4] at m1;have hv2:VRL T w' S1 φ2 (zd2 T (σJ new H.length) rs z (sp.post.length+zh5 sp.post)) us:=by
     rw [<-zg2];rw [yd6,X9,yf6,zc0] at m2;generalize zd2 T id rs z (sp.post.length+zh5 sp.post)=as9 at k2 k3;clear m1 k1;induction as9 generalizing us with
     |nil=>cases us<;>exact k2
     |cons a r ih=>
      match us,k2 with
      |u::us,k2=>
       rw [zg3];exact ⟨m2 a u k2.1 fun i hi=>k3 i (by rw [j4];exact X4.2 (.inl hi)),ih _ k2.2 fun i hi=>k3 i (by rw [j4];exact X4.2 (.inr hi))⟩
    refine ⟨S1,φ2,m1,yf8 hv2,?_⟩;have hlt: ∀i∈j4 (zd2 T (σJ new H.length) rs z (sp.post.length+zh5 sp.post)),i<(zh6 T H new (mkP T (σJ new H.length) sp.post y.1 sp.post.length)++(yl5 T (σJ new H.length) sp.post y.1 sp.post.length++zi7 T (σJ new H.length) rs z (sp.post.length+zh5 sp.post))).length:=by
     rw [<-zg2];refine zp5 fun j hj=>?_;have hj:=k3 j hj;rw [X9,X9,k7,yf6,zc0];by_cases hlt:j<new.length
     ·have hs:=σJ_lo (n:=H.length) hlt;obtain ⟨e,h1,_,_⟩:=g1.ents _ (X6 hs);have:=(X2.1 h1).1;omega
     ·rw [σJ_hi (by omega)];omega
    have hne:zf6 (zp8 T (zd2 T (σJ new H.length) rs z (sp.post.length+zh5 sp.post)))=true:=by
     unfold zp8;split
     ·rename_i a hl;exact zy4 (σJ new H.length) rs z _ a (by rw [hl];simp)
     ·rfl
    refine zb9 hne fun i hi=>hlt i ?_;unfold zp8 at hi;split at hi
    ·rename_i a hl;rw [hl,j4];exact X4.2 (.inl hi)
    ·rw [AV.ids] at hi;exact hi
   refine (hok x y hy w S (φO l φ) (by rw [<-hnewlen];exact hs) vs hvs' hoks).mono fun e w' hR=>?_;cases e with
   |returned v=>
    obtain ⟨z,hz,us,hans,rfl⟩:=hR;rw [hz] at hK;exact ⟨_,_,hK,step _ z w' us hans⟩
   |panicked ch=>
    obtain ⟨z,hz,u,rfl,hans⟩:=hR;rw [hz] at hK;exact ⟨_,_,hK,u,rfl,step _ z w' [u] hans⟩
   |outgrown=>exact hR.elim
  ·cases hr
 ·exact ha aS H K Kp r hr w0 S0 F F' w S φ h vs hvs has
def kd1 {sp:PSpec T} {alt:CallSpec T} (ha:yf2 alt):yf2 (sp.toCall alt):=by
 intro R aS H K Kp r hr;simp only [PSpec.toCall] at hr;split at hr
 ·rename_i x l hx;split at hr
  ·rename_i hb;obtain ⟨y,hy,hK⟩:=za3 hr;simp only [X3] at hb;obtain ⟨hlen,hrow⟩:=zw1 hb.2;have hw:(PSpec.toCall sp alt).wr aS H=zj2 l:=by simp only [PSpec.toCall,hx]
   rw [hw];have hl:(mkP T (σJ (zj2 l) H.length) sp.post y.1 sp.post.length).length=(zj2 l).length:=by rw [yd6,hlen]
   have keeps: ∀(N:List (Ent T.U)),Keeps T (zj2 l) H (zh6 T H (zj2 l) (mkP T (σJ (zj2 l) H.length) sp.post y.1 sp.post.length)++N):=by
    intro N;refine ⟨by rw [X9,k7];omega,fun e he hn=>?_,fun e ty t ys he h=>?_⟩
    ·rw [X8 (by rw [k7];exact he)];obtain ⟨f,hf⟩: ∃f,(zh6 T H (zj2 l) (mkP T (σJ (zj2 l) H.length) sp.post y.1 sp.post.length))[e]?=some f:=⟨_,Y0 (by rw [k7];exact he)⟩;rcases zf1 _ _ H hl hf with ⟨k,g1,_⟩|⟨_,g2⟩
     ·exact absurd (X6 g1) hn
     ·rw [hf,g2]
    ·rw [X8 (by rw [k7];exact he)] at h;rcases zf1 _ _ H hl h with ⟨k,g1,g2⟩|⟨_,g2⟩
     ·exact hrow k e ty t g1 (yq8 g2)
     ·exact ⟨ys,g2⟩
   cases hz:y.2 with
   |inr z=>
    rw [hz] at hK;exact .inr ⟨_,_,hK,keeps _,fun K' Kp'=>by simp only [PSpec.toCall,hx,hb.1,hb.2,M8,hy,j8,hz]⟩
   |inl z=>
    rw [hz] at hK;exact .inl ⟨_,_,hK,keeps _,fun K' Kp'=>by simp only [PSpec.toCall,hx,hb.1,hb.2,M8,hy,j8,hz]⟩
  ·cases hr
 ·rename_i hx;have hw:(PSpec.toCall sp alt).wr aS H=alt.wr aS H:=by simp only [PSpec.toCall,hx]
  rcases ha aS H K Kp r hr with ⟨a,H1,h1,h2,h3⟩|⟨a,H1,h1,h2,h3⟩
  ·exact .inl ⟨a,H1,h1,by rw [hw];exact h2,fun K' Kp'=>by simp only [PSpec.toCall,hx,h3]⟩
  ·exact .inr ⟨a,H1,h1,by rw [hw];exact h2,fun K' Kp'=>by simp only [PSpec.toCall,hx,h3]⟩
def ke0 {C:Ctx T} {f:FuncId} {fn:Func} {c:Code} {cuts:List (Pos×Cut)} {ps rs:List Sh} {nl:Nl} {post:List PE} {pv:Sh} {g:zc1 T ps->Option (zm6 T post×(zc1 T rs⊕zc1 T [pv]))} (hm:P.follows .mixedOrders=true) (hE:za2 T P C.E)
  (hf:P.funcs[f]?=some fn) (hb:fn.body=some c) (hs:Nat.ble ps.length fn.ntmps=true) (hpin:Nat.ble (zb3 ps) C.pin=true) (hpost:Nat.beq post.length (zb3 ps)=true)
  (hg: ∀x y,g x=some y-> ∃m,kp6 T P C cuts fn c nl ps post rs pv m x=some y):POk T P f ⟨ps,post,rs,pv,g⟩:=by
 intro x y hy w S φ hsim vs hvs hoks;obtain ⟨N,hN⟩:=hg x y hy;have hpost:=X1 hpost;have hall:(zd2 T id ps x 0).length=ps.length:=by
  have: ∀(l:List Sh) (x:zc1 T l) (k:Nat),(zd2 T id l x k).length=l.length:=by
   intro l;induction l with
   |nil=>intro x k;rfl
   |cons s r ih=>intro x k;exact congrArg (· +1) (ih x.2 _)
  exact this ps x 0
 have hlen:vs.length=ps.length:=by rw [<-hvs.len T];exact hall
 have hsz:vs.length<=fn.ntmps:=by rw [hlen];exact Y1 hs
 have hfr:Fr fn.ntmps [] (yx5 vs 0) {tmps:=vs.toArray++Array.replicate (fn.ntmps-vs.toArray.size) undef,defers:= []}:=by
  refine ⟨by simp;omega,rfl,fun i v hv=>?_⟩;obtain ⟨_,h2⟩:=zz6 vs 0 i v hv;simp only [J5] at h2;have hi:=(X2.1 h2).1;refine ⟨?_,by omega⟩;rw [Y7,Array.getElem?_append_left (by simpa using hi)];simp [h2]
 have hstart:=hsim.slots hvs hoks;have hpin':((List.range (zb3 ps)).map φ).length<=C.pin:=by simpa using Y1 hpin
 have key: ∀st y',yl1 T P fn nl post rs st=some y'-> ∀F1 w1,zb6 T w ⟨zc8 φ (zb3 ps),S,(List.range (zb3 ps)).map φ⟩ st F1 w1-> ∀a,Fr fn.ntmps [] F1 a-> ∃v,(results fn a.tmps).run P w1=.ok v w1/\
   ∃us,qd3 T post rs y'.1 y'.2 w S φ (zb3 ps) w1 us/\v=zx7 us:=by
  intro st0 y' hst F1 w1 hsm0 a ha;exact jd3 hpost hst hsm0 ha
 have hKs:KsOk (bodyPost P fn fun e w'=>match e with
   | .returned v=> ∃z,y.2=.inl z/\ ∃us,qd3 T post rs y.1 z w S φ (zb3 ps) w' us/\v=zx7 us
   | .panicked ch=> ∃z,y.2=.inr z/\ ∃u,ch= [{v:=u,recovered:=false}]/\qd3 T post [pv] y.1 z w S φ (zb3 ps) w' [u]
   | .outgrown=>False) fn.ntmps [] w ⟨zc8 φ (zb3 ps),S,(List.range (zb3 ps)).map φ⟩ y (qj9 T P fn nl post rs pv):=by
  refine ⟨?_,fun i st h=>(by cases h),?_,fun a st h=>?_⟩
  ·intro st hst F1 w1 hs1 a ha;obtain ⟨y',hy',he⟩:=za3 hst;simp only [X0] at he;obtain ⟨v,h1,us,h2,h3⟩:=key st y' hy' F1 w1 hs1 a ha;subst he;exact ⟨ha.defers,v,h1,_,rfl,us,h2,h3⟩
  ·intro st hst F1 w1 hs1 a ha;obtain ⟨y',hy',he⟩:=za3 hst;simp only [X0] at he;obtain ⟨v,h1,us,h2,h3⟩:=key st y' hy' F1 w1 hs1 a ha;subst he;exact ⟨ha.defers,v,h1,_,rfl,us,h2,h3⟩
  ·intro F1 w1 S1 φ1 u hsm hvr hok act ha;have h:vo1 T nl post rs pv a st=some y:=h;obtain ⟨φ1,hsm,hvr,_⟩:=zf7 nl.bn hsm (aS:= [a]) (us:= [u]) ⟨hvr,trivial⟩ (fun i hi=>hok.1 i (by simpa [j4] using hi));unfold vo1 at h;split at h<;>try (cases h;done)
   rename_i y1 l1 h1;split at h<;>try (cases h;done)
   rename_i z l2 h2;split at h<;>try (cases h;done)
   rename_i hn;simp only [X0] at h;subst h;exact ⟨ha.defers,z,rfl,u,rfl,vj3 hpost h1 h2 hn hsm hvr⟩
 exact calls_of_wp hf hb (zf8 hm hpin' hE c [] _ _ _ _ w hN hKs (JOk.run hm hpin' hE hKs N) ⟨S,φ,hstart⟩ _ hfr)
def vg6 {f:FuncId} {sp:PSpec T} {alt:CallSpec T} (h:POk T P f sp) (ha:za4 T P f alt/\zk2 T P f alt/\yf2 alt):za4 T P f (sp.toCall alt)/\zk2 T P f (sp.toCall alt)/\yf2 (sp.toCall alt):=⟨jw0 h ha.1,ha.2.1,kd1 ha.2.2⟩
end
end Go.X
namespace Go.X
open Go.RowKit Go.V
section
variable {T:Tab} {P:Program} {w w':World} {S S':List Nat} {φ φ':Nat->RA} {w0:World} {S0:Ow} {F:AF T} {H:List (Ent T.U)} {F':PF}
end
structure DSpec (T:Tab) where
 ps:List Sh
 rv:Sh
 post:List PE
 g:zc1 T (ps++ [rv])->Option (zm6 T post)
section
variable {T:Tab} (P:Program)
structure DefP (T:Tab) where
 depth:Nat
 sl:Nat
 live:List Nat
 pin:Nat
 g:FuncId
 cp:List (Nat×Nat)
 dr:DSpec T
 dp:DSpec T
def js8:Op->Bool| .defer _=>false|_=>true
noncomputable def evS {R:Type} (C:Ctx T) (n:Nat) (K:Ks T R) (K2:Code->St T->Option R):Nat->Code->St T->Option R
 |0,c,st=>K2 c st
 |k+1,.seq x y,st=>evC P C n [] (fun _ _=>none) x [] (K.behind fun st=>evS C n K K2 k y st) st
 |_+1,_,_=>none
end
section
variable {T:Tab} {P:Program} {w w':World} {S S':List Nat} {φ φ':Nat->RA} {w0:World} {S0:Ow} {F:AF T} {H:List (Ent T.U)} {F':PF}
def ys1 {R:Type} {r:R} {C:Ctx T} {n:Nat} {ds:List Deferred} (hm:P.follows .mixedOrders=true) (hp:S0.pin.length<=C.pin) (hE:za2 T P C.E) {K:Ks T R} {K2:Code->St T->Option R}: ∀(k:Nat) (c:Code) (st:St T) (Q:Exit->Act->World->Prop) (F':PF) (w:World),
  evS P C n K K2 k c st=some r->KsOk Q n ds w0 S0 r K->(∀c st,K2 c st=some r-> ∀F1 w1,zb6 T w0 S0 st F1 w1-> ∀a,Fr n ds F1 a->c.wp P Q a w1)->zb6 T w0 S0 st F' w->CW P c Q n ds F' w
 |0,c,st,Q,F',w,h,hK,h2,hs=>fun a ha=>h2 c st h F' w hs a ha
 |k+1,c,st,Q,F',w,h,hK,h2,hs=>by
  cases c with
  |seq x y=>
   have h:evC P C n [] (fun _ _=>none) x [] (K.behind fun st=>evS P C n K K2 k y st) st=some r:=h;have:=zf8 hm hp hE x _ _ st _ F' w h (hK.behind (X:=y.wp P Q) fun st1 h1 F1 w1 hs1 a ha=>ys1 hm hp hE k y st1 Q F1 w1 h1 hK h2 hs1 a ha) (JOk.none _ _ _) hs;exact fun a ha=>wp_seq (this a ha)
  |_=>cases h
end
end Go.X
namespace Go.X
open Go.RowKit Go.V
section
variable {T:Tab}
end
structure KSpec (T:Tab) where
 o:Nat
 e:TypeId
 cs:List Sh
 ps:List Sh
 post:List PE
 rs:List Sh
 g:zc1 T (.ptr o e cs::ps)->Option (zm6 T (.blk e cs::post)×zc1 T rs)
section
variable {T:Tab} {P:Program}
def CallSpec.forkH {T:Tab} (c:List (AV T.U)->List (Ent T.U)->Bool) (a b:CallSpec T):CallSpec T where
 call:=fun aS H K Kp=>j6 (c aS H) (a.call aS H K Kp) (b.call aS H K Kp)
 q:=fun aS H K=>j6 (c aS H) (a.q aS H K) (b.q aS H K)
 isq:=a.isq
 wr:=fun aS H=>a.wr aS H++b.wr aS H
def CallSpec.forkS {T:Tab} (ps:List Sh) (c:zc1 T ps->Bool) (a b:CallSpec T):CallSpec T:=CallSpec.forkH (fun aS H=>match zx6 T H ps aS [] with|some (x,_)=>c x|none=>false) a b
def jn2 {f:FuncId} (c:List (AV T.U)->List (Ent T.U)->Bool) {a b:CallSpec T} (ha:za4 T P f a/\zk2 T P f a/\yf2 a) (hb:za4 T P f b/\zk2 T P f b/\yf2 b):za4 T P f (CallSpec.forkH c a b)/\zk2 T P f (CallSpec.forkH c a b)/\yf2 (CallSpec.forkH c a b):=by
 refine ⟨fun aS H K Kp r h=>?_,fun aS H K r h=>?_,fun aS H K Kp r h=>?_⟩
 ·rcases zc9 h with ⟨_,h⟩|⟨_,h⟩
  ·exact ha.1 aS H K Kp r h
  ·exact hb.1 aS H K Kp r h
 ·rcases zc9 h with ⟨_,h⟩|⟨_,h⟩
  ·exact ha.2.1 aS H K r h
  ·exact hb.2.1 aS H K r h
 ·have ec: ∀c0,c aS H=c0-> ∀ {R':Type} (K' Kp':AV T.U->List (Ent T.U)->Option R'),(CallSpec.forkH c a b).call aS H K' Kp'=j6 c0 (a.call aS H K' Kp') (b.call aS H K' Kp'):=fun c0 hc _ K' Kp'=>by
   subst hc;rfl
  have ew:(CallSpec.forkH c a b).wr aS H=a.wr aS H++b.wr aS H:=rfl;rw [ew];have kl: ∀ {H1:List (Ent T.U)},Keeps T (a.wr aS H) H H1->Keeps T (a.wr aS H++b.wr aS H) H H1:=fun h=>⟨h.len,fun e he hn=>h.same e he fun hm=>hn (X4.2 (.inl hm)),h.row⟩;have kr: ∀ {H1:List (Ent T.U)},Keeps T (b.wr aS H) H H1->Keeps T (a.wr aS H++b.wr aS H) H H1:=fun h=>⟨h.len,fun e he hn=>h.same e he fun hm=>hn (X4.2 (.inr hm)),h.row⟩;cases hc:c aS H with
  |true=>
   rw [ec _ hc] at h;have:=ha.2.2 aS H K Kp r h;rcases this with ⟨x,H1,h1,h2,h3⟩|⟨x,H1,h1,h2,h3⟩
   ·exact .inl ⟨x,H1,h1,kl h2,fun K' Kp'=>(ec _ hc K' Kp').trans (h3 K' Kp')⟩
   ·exact .inr ⟨x,H1,h1,kl h2,fun K' Kp'=>(ec _ hc K' Kp').trans (h3 K' Kp')⟩
  |false=>
   rw [ec _ hc] at h;have:=hb.2.2 aS H K Kp r h;rcases this with ⟨x,H1,h1,h2,h3⟩|⟨x,H1,h1,h2,h3⟩
   ·exact .inl ⟨x,H1,h1,kr h2,fun K' Kp'=>(ec _ hc K' Kp').trans (h3 K' Kp')⟩
   ·exact .inr ⟨x,H1,h1,kr h2,fun K' Kp'=>(ec _ hc K' Kp').trans (h3 K' Kp')⟩
def yn0 {f:FuncId} (ps:List Sh) (c:zc1 T ps->Bool) {a b:CallSpec T} (ha:za4 T P f a/\zk2 T P f a/\yf2 a) (hb:za4 T P f b/\zk2 T P f b/\yf2 b):za4 T P f (CallSpec.forkS ps c a b)/\zk2 T P f (CallSpec.forkS ps c a b)/\yf2 (CallSpec.forkS ps c a b):=jn2 _ ha hb
end
end Go.X
namespace Go.X
open Go.RowKit Go.V Go.Maps
def vb1 (x:Int):List Int->List Int
 | []=> [x]
 |y::r=>if x<=y then x::y::r else y::vb1 x r
def zu6:List Int->List Int
 | []=> []
 |x::r=>vb1 x (zu6 r)
def ys5 (x:Int): ∀l:List Int,(vb1 x l).Perm (x::l)
 | []=>.refl _
 |y::r=>by
  unfold vb1;split
  ·exact .refl _
  ·exact ((ys5 x r).cons y).trans (.swap x y r)
def zu7: ∀l:List Int,(zu6 l).Perm l
 | []=>.refl _
 |x::r=>(ys5 x _).trans ((zu7 r).cons x)
def yu3 (x:Int): ∀ {l:List Int},l.Pairwise (· <= ·)->(vb1 x l).Pairwise (· <= ·)
 | [],_=>by simp [vb1]
 |y::r,h=>by
  unfold vb1;rw [List.pairwise_cons] at h;split
  ·rename_i hxy;refine List.pairwise_cons.2 ⟨fun z hz=>?_,List.pairwise_cons.2 h⟩;rcases Z0.1 hz with rfl|hz
   ·exact hxy
   ·exact Int.le_trans hxy (h.1 z hz)
  ·rename_i hxy;refine List.pairwise_cons.2 ⟨fun z hz=>?_,yu3 x h.2⟩;rcases Z0.1 ((ys5 x r).mem_iff.1 hz) with rfl|hz
   ·omega
   ·exact h.1 z hz
def zs3: ∀l:List Int,(zu6 l).Pairwise (· <= ·)
 | []=>.nil
 |x::r=>yu3 x (zs3 r)
def jm5: ∀ {a b:List Int},a.Perm b->a.Pairwise (· <= ·)->b.Pairwise (· <= ·)->a=b:=
 fun h h1 h2=>List.Perm.eq_of_pairwise (le:=fun a b=>a<=b) (fun _ _ _ _ h1 h2=>Int.le_antisymm h1 h2) h1 h2 h
def yv8 (l:List Int):l.mergeSort (fun x y=>decide (x<=y))=zu6 l:=by
 have tr: ∀a b c:Int,decide (a<=b)=true->decide (b<=c)=true->decide (a<=c)=true:=fun a b c h1 h2=>by simp only [decide_eq_true_eq] at *;exact Int.le_trans h1 h2
 have to: ∀a b:Int,(decide (a<=b)||decide (b<=a))=true:=fun a b=>by simp only [J7,decide_eq_true_eq];exact Int.le_total a b
 refine jm5 ((List.mergeSort_perm l _).trans (zu7 l).symm) ?_ (zs3 l);exact (List.pairwise_mergeSort tr to l).imp fun h=>by simpa using h
def jf6 {α:Type} (m:List (Int×α)):Bool:=m.all (fun p=>decide (-9223372036854775808<=p.1)&&decide (p.1<=9223372036854775807))&&Nat.ble m.length 17592186044416
def zo8 {α:Type} (m:List (Int×α)):Option (((Unit×Unit)×List (Int×α)×Unit)×List Int×Unit):=match jf6 m with|true=>some ((((),()),m,()),zu6 (m.map Prod.fst),())|false=>none
section
variable {T:Tab} {P:Program}
def yp7:Value->Option (DataW Unit×List MemPlace):=fun _=>some (.nil,[])
abbrev SortedCall (P:Program) (f g:FuncId) (kt et:TypeId):Prop:= ∀(Bm b nn:Nat) (D0:DataW Unit) (w:World),Bm<w.heap.size->w.cell? ⟨Bm,0,none⟩=some (.map (some b))->w.ownsMap P kt yp7 b nn D0->Maps.size D0<=17592186044416->
 Calls P f #[.func (.func g) #[] #[.pointer (some ⟨Bm,0,none⟩)]] w fun e w'=> ∃(v:Value) (ss:List Int),e=.returned v/\ss.Perm (intKeys D0)/\
  w'.ownsRow w.heap.size et 1 v ss.length ((ss.mergeSort (fun x y=>decide (x<=y))).map encZ)/\(v=.slice none 0 0↔ss= [])/\Below w.heap.size w w'
def jv1 {α:Type} {m:List (Int×α)} (h:jf6 m=true):(∀p∈m,-9223372036854775808<=p.1/\p.1<=9223372036854775807)/\m.length<=17592186044416:=by
 unfold jf6 at h;rw [X3,Y8] at h;refine ⟨fun p hp=>?_,Y1 h.2⟩;have:=h.1 p hp;rwa [X3,decide_eq_true_eq,decide_eq_true_eq] at this
def jv8 {f g:FuncId} {kt et mt:TypeId} {α:Type} {en:Ent T.U} (hC:SortedCall P f g kt et) (hk:P.underlying kt=some (.int .i64)) {m:List (Int×α)} (hok:jf6 m=true)
  (hen: ∀ {w:World} {S:List Nat} {φ:Nat->RA},EntR T w S φ 1 en-> ∃g l c,(φ 1).ad=some ⟨g,0,none⟩/\Mp w g l c/\l.toList.map (fun e=>e.key)=m.map (fun p=>.int .i64 p.1)/\MapKept.Stamped l c) {w:World} {S:List Nat} {φ:Nat->RA} (hsim:Sim T w ⟨zc8 φ 2,S,(List.range 2).map φ⟩ ⟨[],[.blk mt [.mp 1],en]⟩ [] w S φ)
  {vs:List Value} (hvs:VRL T w S φ [.fn (.func g) [] [.ptr 0 0]] vs):Calls P f vs.toArray w fun e w'=>match e with
   | .returned v=> ∃(F1:PF) (S1:List Nat) (φ1:Nat->RA) (us:List Value),Sim T w ⟨zc8 φ 2,S,(List.range 2).map φ⟩ ⟨[],[.blk mt [.mp 1],en]++ [.row et (.int .i64) (zu6 (m.map Prod.fst))]⟩ F1 w' S1 φ1/\VRL T w' S1 φ1 [.own 2] us/\v=zx7 us/\ ∀i∈j4 ([.own 2]:List (AV T.U)),i<3
   |_=>False:=by
 obtain ⟨hb,hn⟩:=jv1 hok
 match vs,hvs with
 | [v],hvs=>
  obtain ⟨va,vb,rfl,h1,h2⟩:=hvs.1;obtain ⟨g0,c0,a1,a2,a3,a4⟩:=hsim.ents 0 _ rfl;obtain ⟨g1,l,c1,b1,b2,hkeys,b5⟩:=hen (hsim.ents 1 _ rfl);have hva:va= #[]:=by
   cases hl:va.toList with
   |nil=>exact Array.toList_eq_nil_iff.1 hl
   |cons _ _=>rw [hl] at h1;exact h1.elim
  subst hva;have hvb:vb= #[.pointer (some ⟨g0,0,none⟩)]:=by
   match hl:vb.toList,h2 with
   | [u],h2=>
    obtain ⟨g',e1,e2⟩:=h2.1;rw [a1] at e1;simp only [X0,Addr.mk.injEq,and_true] at e1;subst e1;rw [e2] at hl;exact N9.1 hl
  subst hvb;have hc0:w.cell? ⟨g0,0,none⟩=some (.map (some g1)):=by
   have a5:=a4.vrl T (by rfl)
   match hl:c0.toList,a5 with
   | [u],a5=>
    obtain ⟨g',e1,e2⟩:=a5.1;rw [b1] at e1;simp only [X0,Addr.mk.injEq,and_true] at e1;subst e1;have:c0= #[u]:=N9.1 hl;subst this;subst e2;unfold World.cell?;have a2:w.heap[g0]?=_:=a2;simp [a2]
  have hlen:m.length=l.toList.length:=by have:=congrArg List.length hkeys;simpa using this.symm
  have hread: ∀e∈l.toList,∃x:Int,e.key=.int .i64 x/\WideElems.rd P kt yp7 e=some (.int .i64 x,.nil):=by
   intro e he;have hm:e.key∈l.toList.map (fun e=>e.key):=U2.2 ⟨e,he,rfl⟩;rw [hkeys] at hm;obtain ⟨p,hp,hpe⟩:=U2.1 hm;have hbp:=hb p hp;refine ⟨p.1,hpe.symm,?_⟩;have hkey:keyOf P kt e.key=some (.int .i64 p.1):=by
    rw [<-hpe];have hwf:(Lit.int .i64 p.1).wf=true:=by
     simp only [Lit.wf,IntKind.min,IntKind.max,IntKind.signed,IntKind.bits];simp;omega
    simp [keyOf,hk,mapKey,hwf]
   simp [WideElems.rd,hkey,yp7]
  have hown:w.ownsMap P kt yp7 g1 l.size (.map ((l.toList.map (WideElems.rg P kt yp7)).foldr DataW.insert [])):=by
   refine ⟨l,c1,b2,⟨?_,b5,fun e he=>?_⟩,W8 _,rfl⟩
   ·rw [<-Array.length_toList,<-hlen];exact W9 hn (by decide)
   ·obtain ⟨x,_,hx⟩:=hread e he;exact ⟨_,hx⟩
  have hsize:Maps.size (.map ((l.toList.map (WideElems.rg P kt yp7)).foldr DataW.insert []):DataW Unit)<=17592186044416:=by
   rw [Maps.size_eq,length_sorted,U9,<-hlen];exact hn
  have hperm:(intKeys (.map ((l.toList.map (WideElems.rg P kt yp7)).foldr DataW.insert []):DataW Unit)).Perm (m.map Prod.fst):=by
   show (((l.toList.map (WideElems.rg P kt yp7)).foldr DataW.insert []).map fun p=>Go.intOf p.1).Perm _;refine ((WideShapes.sorted_perm _).map _).trans ?_;rw [List.map_map];have: ∀ {es:List MapEntry} {ms:List (Int×α)},(∀e∈es,∃x:Int,e.key=.int .i64 x/\WideElems.rd P kt yp7 e=some (.int .i64 x,.nil))->es.map (fun e=>e.key)=ms.map (fun p=>Value.int .i64 p.1)->es.map ((fun p:Lit×DataW Unit=>Go.intOf p.1)∘WideElems.rg P kt yp7)=ms.map Prod.fst:=by
    intro es;induction es with
    |nil=>intro ms _ h;cases ms with|nil=>rfl|cons _ _=>cases h
    |cons e r ih=>
     intro ms hr h;cases ms with
     |nil=>cases h
     |cons p q=>
      simp only [U1,List.cons.injEq] at h⊢;obtain ⟨x,h1,h2⟩:=hr e (by simp);refine ⟨?_,ih (fun e' he'=>hr e' (by simp [he'])) h.2⟩;have hx:=h.1.symm.trans h1;simp only [Value.int.injEq,true_and] at hx;simp [WideElems.rg,h2,Go.intOf,hx]
   rw [this hread hkeys]
  have hlt:g0<w.heap.size:=Blk.lt a2;refine (hC g0 g1 l.size _ w hlt hc0 hown hsize).mono ?_
  rintro e w' ⟨v,ss,rfl,hss,hrow,hnil,hbelow⟩
  have hc:=Chg.ofBelow hbelow;have hsort:ss.mergeSort (fun x y=>decide (x<=y))=zu6 (m.map Prod.fst):=by
   rw [yv8];exact jm5 ((zu7 ss).trans ((hss.trans hperm).trans (zu7 _).symm)) (zs3 _) (zs3 _)
  rw [hsort] at hrow;have hl2:ss.length=(zu6 (m.map Prod.fst)).length:=by rw [(hss.trans hperm).length_eq,(zu7 _).length_eq]
  have hcells: ∀S',CellsR T w' S' ((zu6 (m.map Prod.fst):List (den T.U (.int .i64))).flatMap (za1 T (.int .i64))) ((zu6 (m.map Prod.fst)).map encZ):=by
   intro S';generalize zu6 (m.map Prod.fst)=ks;have hf:(ks:List (den T.U (.int .i64))).flatMap (za1 T (.int .i64))=ks.map fun x:Int=>(⟨.int .i64,x⟩:Cell T.U):=by
    induction ks with
    |nil=>rfl
    |cons a r ih=>rw [U1,<-ih];rfl
   rw [hf];refine ⟨by simp,fun j c v h1 h2=>?_⟩;rw [W4] at h1 h2;cases hj:ks[j]? with
   |none=>rw [hj] at h1;cases h1
   |some x=>
    rw [hj] at h1 h2;simp only [Z8,X0] at h1 h2;subst h1;subst h2;exact CR.int _ _
  have hids: ∀i∈j4 ([.own 2]:List (AV T.U)),i<3:=by intro i hi;simp [j4,AV.ids] at hi;omega
  rcases id hrow.2 with ⟨rfl,hz⟩|⟨gb,cap,cur,rfl,hbase,hgb,r1,r2,r3,r4⟩
  ·have h1:=hsim.pure hc;have h2:=h1.addG (Chg.refl [] w') (by simp) (by simp) (fun _ _ _ _ _ _=>by simp) (S':=S) (fun _ h=>h) (fun _ h=>.inl h) (r:=⟨none,0,0,[]⟩) (fun a h=>by cases yb2 h) (fun a h=>by cases yb2 h) (e:=.row et (.int .i64) (zu6 (m.map Prod.fst)))
    ⟨w.heap.size,_,by rw [z6];rw [hz] at hrow;exact .of hrow,by rw [z6];exact hz.symm.trans hl2,hc.size,hcells S,fun a ha=>by rw [z6] at ha;cases ha⟩ (fun j hj=>by cases hj)
   exact ⟨_,S,_,[.slice none 0 0],h2,⟨by rw [VR,show ([Ent.blk mt [AV.mp 1],en]:List (Ent T.U)).length=2 from rfl,z6],trivial⟩,rfl,hids⟩
  ·have hgl:=(Y3.1 hgb).1;have h2:=hsim.add (g:=gb) (r:=⟨some ⟨gb,0,none⟩,ss.length,cap,[]⟩) hc hbase hgl (fun a ha=>zs6 ha) (e:=.row et (.int .i64) (zu6 (m.map Prod.fst)))
    ⟨w.heap.size,_,by rw [z6];exact .of hrow,by rw [z6];exact hl2,hc.size,hcells _,fun a ha=>by rw [z6] at ha;simp only [X0] at ha;subst ha;simp⟩ (fun j hj=>by cases hj)
   exact ⟨_,_,_,[.slice (some ⟨gb,0,none⟩) ss.length cap],h2,⟨by rw [VR,show ([Ent.blk mt [AV.mp 1],en]:List (Ent T.U)).length=2 from rfl,z6],trivial⟩,rfl,hids⟩
def PRel.keys {w:World} {S:List Nat} {φ:Nat->RA} {r:RA} {k:IntKind} {be:TypeId} {d:Nat} {m:List (Int×T.U d)} {op:Option (Int×Nat)} {l:List MapEntry} {bs:List Nat} (h:PRel T w S φ r k be d m op l bs):l.map (fun e=>e.key)=m.map fun p=>.int k p.1:=by
 refine List.ext_getElem (by simp [h.len]) fun p h1 h2=>?_;simp only [U9] at h1 h2;have hb:p<bs.length:=by rw [<-h.lenb];exact h2
 obtain ⟨x,u⟩:Int×T.U d:=m[p];have:=(h.at_ p m[p].1 m[p].2 l[p] bs[p] (Y0 h2) (Y0 h1) (Y0 hb)).1;simp [this]
def jv0 {f g:FuncId} {kt et mt be:TypeId} {d:Nat} (hC:SortedCall P f g kt et) (hk:P.underlying kt=some (.int .i64)):
  GOk T P f ⟨[.fn g [] [.ptr 0 mt [.pm .i64 be d]]],[.blk mt [.mpo 1],.pm .i64 be d],[.row et (.int .i64)],fun x=>zo8 x.1.2.1.1⟩:=by
 intro x y hy w S φ hsim vs hvs hoks;have hy:zo8 x.1.2.1.1=some y:=hy;unfold zo8 at hy;split at hy<;>try (cases hy;done)
 rename_i hok;have hy:((((),()),x.1.2.1.1,()),zu6 (x.1.2.1.1.map Prod.fst),())=y:=X5 hy;subst hy;refine jv8 (m:=x.1.2.1.1) hC hk hok (fun h=>?_) hsim hvs;obtain ⟨g,l,c,bs,h1,h2,_,h4,h5⟩:=h;exact ⟨g,l,c,h1,h2,h4.keys,h5⟩
end
end Go.X
