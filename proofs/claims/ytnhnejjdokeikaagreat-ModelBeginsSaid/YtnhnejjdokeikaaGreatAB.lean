import Derived.Test.YtnhnejjdokeikaaGreatA9
import Derived.Test.YtnhnejjdokeikaaGreatA1
import Derived.Shelf.SlIterI.Nil
import Derived.Shelf.SortM.Plain
import Derived.Shelf.SortM.SortNone
set_option linter.defProp false
namespace Go.X
open Go.RowKit Go.V Go.ChangeShapes Go.WideShapes Go.ChangeAt Go.Deep
inductive GoodV (T:Tab):(t:Ty)->den T.U t->Prop
 |int (k:IntKind) (x:Int) (h:k.min<=x/\x<=k.max):GoodV T (.int k) x
 |bool (b:Bool):GoodV T .bool b
 |str (s:ByteArray) (h:s.size<=maxLen):GoodV T .str s
 |list (e:Ty) (xs:List (den T.U e)) (hl:xs.length<=maxLen) (h: ∀x∈xs,∀c∈zc4 T e x,GoodV T c.t c.x):GoodV T (.list e) xs
def Good (T:Tab) (t:Ty) (x:den T.U t):Prop:= ∀c∈zc4 T t x,GoodV T c.t c.x
def yd5 (ct:Nat->List Ty):Ty->List Ty| .user i=>ct i|t=> [t]
structure Packs (T:Tab) (ct:Nat->List Ty):Prop where
 pack: ∀(i:Nat) (cl:List (Cell T.U)),cl.map (·.t)=ct i-> ∃x,T.pack i cl=some x
 size: ∀i,T.size i=(ct i).length
def zz3 (P:Program) (g:TypeId->List Ty->Bool):List Field->Nat->List Ty->Bool
 | [],_,a=>match a with| []=>true|_::_=>false
 |f::r,o,a=>Nat.beq f.offset o&&(Nat.ble (P.cellsOf f.type) a.length&&(g f.type (a.take (P.cellsOf f.type))&&zz3 P g r (o+P.cellsOf f.type) (a.drop (P.cellsOf f.type))))
def qu5 (P:Program) (ct:Nat->List Ty):Nat->TypeId->List Ty->Bool
 |0,_,_=>false
 |n+1,t,a=>match P.underlying t with
  |some (.int k)=>match a with| [.int b]=>zf5 k b&&Nat.beq (P.cellsOf t) 1|_=>false
  |some .bool=>match a with| [.bool]=>Nat.beq (P.cellsOf t) 1|_=>false
  |some .string=>match a with| [.str]=>Nat.beq (P.cellsOf t) 1|_=>false
  |some (.slice e)=>match a with| [.list ty]=>Nat.ble 1 (yd5 ct ty).length&&(Nat.beq (P.cellsOf e) (yd5 ct ty).length&&qu5 P ct n e (yd5 ct ty))|_=>false
  |some (.struct c)=>zz3 P (qu5 P ct n) c.toList 0 a
  |_=>false
section
variable {T:Tab} {P:Program} {ct:Nat->List Ty} {H:Type} {enc:TypeId×Value->H} {w:World}
def vg8 (b:Packs T ct) {ty a} (h:a.map (·.t)=yd5 ct ty): ∃x:den T.U ty,zc4 T ty x=a:=by
 have one: ∀ty:Ty,ty.one=true->a.map (·.t)= [ty]-> ∃x:den T.U ty,zc4 T ty x=a:=by
  intro ty c h
  match a,h with
  | [⟨t,x⟩],h=>
   simp only [W8,K5,List.cons.injEq,and_true] at h;subst h;exact ⟨x,yr5 T c x⟩
 cases ty with
 |user i=>
  obtain ⟨x,d⟩:=b.pack i a h;exact ⟨x,T.packed _ _ _ d⟩
 |int k=>exact one _ rfl h
 |bool=>exact one _ rfl h
 |str=>exact one _ rfl h
 |list e=>exact one _ rfl h
 |nl e=>exact one _ rfl h
def vj9 (a:Packs T ct) (ty):szT T ty=(yd5 ct ty).length:=by
 cases ty with
 |user i=>exact a.size i
 |_=>rfl
def vo1 (hp:Packs T ct): ∀(n t p),qu5 P ct n t p=true-> ∀(m:Nat) (cs:List Value) (x:DataW H×List MemPlace),DataW.trod enc P w 0 (fun _=>true) true m t cs=some x->cs.length=p.length->
  ∃O:List (Cell T.U),O.map (·.t)=p/\CellsR T w [] O cs/\ ∀c∈O,GoodV T c.t c.x:=by
 have z: ∀(c:Cell T.U) (v:Value),CR T w [] c.t c.x v->CellsR T w [] [c] [v]:=fun c v h=>⟨rfl,fun j c' v' E G=>by
  cases j with
  |zero=>simp at E G;subst E;subst G;exact h
  |succ j=>simp at E⟩
 intro n;induction n with
 |zero=>intro t p h;unfold qu5 at h;cases h
 |succ n ih=>
  intro t p h m cs x V J;unfold qu5 at h;split at h<;>try (cases h;done)
  ·rename_i k L;split at h<;>try (cases h;done)
   rename_i k';simp only [X3] at h;have:=za9 h.1;subst this;obtain ⟨a,E,_,wa⟩:=DataW.trod_int L V;subst E;exact ⟨[⟨.int k,a⟩],rfl,z _ _ (.int k a),fun c C=>by simp at C;subst C;exact .int k a (by simpa [Lit.wf] using wa)⟩
  ·rename_i L;split at h<;>try (cases h;done)
   obtain ⟨b,E,_⟩:=DataW.trod_bool L V;subst E;exact ⟨[⟨.bool,b⟩],rfl,z _ _ (.bool b),fun c C=>by simp at C;subst C;exact .bool b⟩
  ·rename_i L;split at h<;>try (cases h;done)
   obtain ⟨s,E,_,W⟩:=DataW.trod_string L V;subst E;exact ⟨[⟨.str,s⟩],rfl,z _ _ (.str s),fun c C=>by simp at C;subst C;exact .str s W⟩
  ·rename_i e L;split at h<;>try (cases h;done)
   rename_i ty;simp only [X3] at h;obtain ⟨h1s,G,h3⟩:=h;have h1s:=Y1 h1s;have G:=X1 G;rcases DataW.trod_slice L V with ⟨rfl,_⟩|⟨a,d,cap,elems,rest,q,rfl,rfl,_,_,hl,hmx,hel,X,_,_⟩
   ·refine ⟨[⟨.list ty,([]:List (den T.U ty))⟩],rfl,z ⟨.list ty,([]:List (den T.U ty))⟩ _ CR.nilS,fun c C=>?_⟩;simp at C;subst C;exact .list ty [] (V1 _) (fun x V=>by cases V)
   ·have key: ∀i,∃y:den T.U ty,i<d->Good T ty y/\ ∃A,w.cells? 0 (a.add (i*P.cellsOf e)) (P.cellsOf e)=some A/\CellsR T w [] (zc4 T ty y) A:=by
     intro i;by_cases Y:i<d
     ·have h4:=X i Y;rw [Y0 (by omega)] at h4;obtain ⟨A,Z,h6⟩:=Option.bind_eq_some_iff.1 h4;obtain ⟨O,g1,g2,g3⟩:=ih e (yd5 ct ty) h3 _ A _ h6 (by rw [(jr1 Z).1,G]);obtain ⟨y,rfl⟩:=vg8 hp g1;exact ⟨y,fun _=>⟨g3,A,Z,g2⟩⟩
     ·exact ⟨zv2 T ty,fun h=>absurd h Y⟩
    let B:Nat->den T.U ty:=fun i=>(key i).choose
    have hB: ∀i,i<d->Good T ty (B i)/\ ∃A,w.cells? 0 (a.add (i*P.cellsOf e)) (P.cellsOf e)=some A/\CellsR T w [] (zc4 T ty (B i)) A:=fun i=>(key i).choose_spec;have hBl:((List.range d).map B).length=d:=by simp
    have K: ∀(k:Nat) (y:den T.U ty),((List.range d).map B)[k]?=some y->k<d/\y=B k:=by
     intro k y I;obtain ⟨E,G⟩:=X2.1 I;simp at E G;exact ⟨E,G.symm⟩
    have D: ∀i,i<d-> ∀(j:Nat) (c:Cell T.U),(zc4 T ty (B i))[j]?=some c-> ∃v,w.cell? ((a.add (i*P.cellsOf e)).add j)=some v/\CR T w [] c.t c.x v:=by
     intro i Y j c C;obtain ⟨_,A,Z,h6⟩:=hB i Y;have hj:=(X2.1 C).1;rw [h6.1] at hj;have F:A[j]?=some A[j]:=Y0 hj;exact ⟨_,(jr1 Z).2 j _ F,h6.2 j c _ C F⟩
    have Q:0<szT T ty-> ∀i,i<d->a.spot=none/\a.block<w.heap.size:=by
     intro hp0 i Y;have hfl:0<(zc4 T ty (B 0)).length:=by rw [za0];exact hp0
     obtain ⟨v,F,_⟩:=D 0 (by omega) 0 _ (Y0 hfl);simp only [K7,Addr.add,if_true] at F;have hblk:=World.block_lt_of_cell? w _ F;refine ⟨?_,hblk⟩;unfold World.cell? at F;split at F
     ·split at F
      ·cases F
      ·rename_i W;simpa using W
     ·cases F
    have hadd: ∀i j,a.spot=none->(a.add (i*P.cellsOf e)).add j=⟨a.block,a.off+(i*szT T ty+j),none⟩:=by
     intro i j W;obtain ⟨ab,ao,asp⟩:=a;have W:asp=none:=W;subst W;rw [vj9 hp,<-G];unfold Addr.add;split<;>split<;>simp_all<;>omega
    let u:Nat->Nat->Value:=fun k j=>(w.cell? ((a.add (k*P.cellsOf e)).add j)).getD undef
    refine ⟨[⟨.list ty,(List.range d).map B⟩],rfl,z ⟨.list ty,(List.range d).map B⟩ _ ?_,fun c C=>?_⟩
    ·
     ·have hz:0<szT T ty:=by rw [vj9 hp];omega
      have hcr:CR T w [] (.list ty) ((List.range d).map B) (.slice (some a) ((List.range d).map B).length cap):=by
       refine .list ty _ (some a) cap u (by rw [hBl];exact hl) (fun h=>by cases h) (fun hne=>?_) ?_ ?_
       ·have h0:0<d:=by
         rcases N3 d with h|h
         ·subst h;exact absurd rfl hne
         ·exact h
        obtain ⟨h7,h8⟩:=Q hz 0 h0;refine ⟨?_,h8,by simp⟩;obtain ⟨ab,ao,asp⟩:=a;have h7:asp=none:=h7;subst h7;rfl
       ·intro k j c I;cases N:((List.range d).map B)[k]? with
        |none=>rw [N] at I;cases I
        |some y=>
         rw [N] at I;simp only [Z8,X0] at I;obtain ⟨M,rfl⟩:=K k y N;obtain ⟨v,F,_⟩:=D k M j c I;obtain ⟨h7,_⟩:=Q hz k M;show w.cell? ⟨a.block,a.off+(k*szT T ty+j),none⟩=some (u k j);rw [<-hadd k j h7];show _=some ((w.cell? ((a.add (k*P.cellsOf e)).add j)).getD undef);rw [F];rfl
       ·intro k j c I;cases N:((List.range d).map B)[k]? with
        |none=>rw [N] at I;cases I
        |some y=>
         rw [N] at I;simp only [Z8,X0] at I;obtain ⟨M,rfl⟩:=K k y N;obtain ⟨v,F,hr⟩:=D k M j c I;show CR T w [] c.t c.x ((w.cell? ((a.add (k*P.cellsOf e)).add j)).getD undef);rw [F];exact hr
      rw [hBl] at hcr;exact hcr
    ·simp at C;subst C;refine .list ty _ (by rw [hBl];omega) fun y hy=>?_;obtain ⟨i,Y,rfl⟩:=U0.1 hy;exact (hB i (V9.1 Y)).1
  ·rename_i fs L;obtain ⟨xs,q,rfl,_,hcl,hxl,hf⟩:=DataW.trod_struct L V;have go: ∀(l:List Field) (o:Nat) (p:List Ty),zz3 P (qu5 P ct n) l o p=true-> ∀(i0:Nat),(∀(i:Nat) (f:Field),l[i]?=some f-> ∃y,DataW.trod enc P w 0 (fun _=>true) true q f.type ((cs.drop f.offset).take (P.cellsOf f.type))=some y)->o+p.length=cs.length->
     ∃O:List (Cell T.U),O.map (·.t)=p/\CellsR T w [] O (cs.drop o)/\ ∀c∈O,GoodV T c.t c.x:=by
    intro l;induction l with
    |nil=>
     intro o p h i0 _ J;unfold zz3 at h;split at h<;>try (cases h;done)
     refine ⟨[],rfl,⟨by simp at J;simp;omega,fun j c v h=>by simp at h⟩,fun c C=>by cases C⟩
    |cons f r ihl=>
     intro o p h i0 R J;unfold zz3 at h;simp only [X3] at h;obtain ⟨E,G,h3,h4⟩:=h;have E:=X1 E;have G:=Y1 G;obtain ⟨y,hy⟩:=R 0 f rfl;rw [E] at hy;obtain ⟨cl1,a1,a2,a3⟩:=ih f.type _ h3 q _ y hy (by rw [Y6,Y6,Q6];omega);obtain ⟨cl2,b1,b2,b3⟩:=ihl (o+P.cellsOf f.type) _ h4 0 (fun i g N=>R (i+1) g (by simpa using N)) (by rw [Q6];omega);refine ⟨cl1++cl2,by rw [V6,a1,b1,Q7],?_,fun c C=>(X4.1 C).elim (a3 c) (b3 c)⟩;have:=a2.app b2;rwa [<-List.drop_drop,Q7] at this
   have:=go fs.toList 0 p h 0 (fun i f hfi=>by
    have S:fs[i]?=some f:=by simpa using hfi
    have Z:=hf i f S;have hlt:=(Y3.1 S).1;rw [Y0 (by omega)] at Z;exact ⟨_,Z⟩) (by omega)
   simpa using this
def gk7 (P:Program) (t:TypeId):Bool:=match P.underlying t with|some (.struct _)=>false|_=>true
def openArg (u:Packs T ct) {t ty} (g: ∀i,ty≠.user i) (n) (l:qu5 P ct n t (yd5 ct ty)=true) (j:gk7 P t=true) {r base v d p} (o:Value.okWide P w r base t v) (h:DataW.Trod enc P w 0 (fun _=>true) true t v d p):
  ∃x:den T.U ty,VR T w [] (fun _=>⟨none,0,0,[]⟩) (zm8 T ty x) v/\Good T ty x:=by
 obtain ⟨m,y⟩:=h;have f:v.cells= #[v]:=by
  cases n with
  |zero=>unfold qu5 at l;cases l
  |succ n=>
   unfold qu5 at l;split at l<;>try (cases l;done)
   ·rename_i k c;obtain ⟨a,rfl⟩:=okWide_int c o;rfl
   ·rename_i c;obtain ⟨b,rfl,_⟩:=open_bool c o ⟨m,y⟩;rfl
   ·rename_i c;obtain ⟨s,rfl⟩:=okWide_string c o;rfl
   ·rename_i e c;obtain ⟨a,z,cap,rfl⟩:=okWide_slice c o;rfl
   ·rename_i D c;unfold gk7 at j;rw [c] at j;cases j
 obtain ⟨E,A,q,B⟩:=vo1 (T:=T) u n t _ l m _ _ y (by rw [f];cases ty<;>first|rfl|exact absurd rfl (g _));obtain ⟨x,rfl⟩:=vg8 u A;refine ⟨x,?_,B⟩;rw [f] at q;have C:zc4 T ty x= [⟨ty,x⟩]:=yr5 T (by cases ty<;>first|rfl|exact absurd rfl (g _)) x;rw [C] at q;have:=q.2 0 _ v rfl rfl;cases ty<;>first|exact this|exact absurd rfl (g _)
def GoodV.intB {k:IntKind} {x:Int} (h:GoodV T (.int k) x):k.min<=x/\x<=k.max:=by
 cases h with
 |int _ _ h=>exact h
def Good.int {k:IntKind} {x:Int} (h:Good T (.int k) x):k.min<=x/\x<=k.max:=GoodV.intB (h ⟨.int k,x⟩ (Q4.2 rfl))
def GoodV.listB {e} {xs:List (den T.U e)} (h:GoodV T (.list e) xs):xs.length<=maxLen/\ ∀x∈xs,Good T e x:=by
 cases h with
 |list _ _ a b=>exact ⟨a,b⟩
def lawRet {f:FuncId} {ps:List PT} {g:zy7 T ps->Option (zt5 T (zb8 ps) (zt6 T [.val .bool]))} (hok:vd1 T P f ⟨ps,[.val .bool],g⟩) (hio:zb8 ps= []) (hent: ∀x:zy7 T ps,zr4 T ps x= []) {x:zy7 T ps} {y:zt5 T (zb8 ps) (zt6 T [.val .bool])} (hy:g x=some y) (hl:ye8 T (zb8 ps) y=(true:Bool))
  {φ:Nat->RA} {vs:List Value} (hvs:VRL T w [] φ (yh2 T 0 ps x) vs):Calls P f vs.toArray w (ud5 w (.bool true)):=by
 have hio0:(zb8 ps).length=0:=by rw [hio];rfl
 refine (hok x y hy w [] φ vs hvs (fun b hb=>by cases hb) (fun k e hk=>by rw [show zr4 T (FnSpec.ps ⟨ps,[.val .bool],g⟩) x= [] from hent x] at hk;simp at hk) (fun j hj=>by
  have hj:j<(zb8 ps).length:=hj;omega) (fun j k hj=>by
  have hj:j<(zb8 ps).length:=hj;omega)).mono fun e w' hR=>?_
 cases e with
 |returned v=>
  obtain ⟨F1,H1,F1',S1,φ1,as1,us,g1,g2,rfl,g4,g5,g6⟩:=hR;have hchg:Chg [] w w':=by
   have:=g1.chg;rw [show zc9 φ (zb8 ps).length= [] by rw [hio0];rfl] at this;exact this
  refine ⟨hchg,?_⟩;have hlast:=(zz4 g4).1;rw [hl] at hlast
  match as1,hlast,us,g2 with
  | [a],hlast,[v],g2=>
   have hrd:jm4 T .bool a=some true:=hlast;exact (zf1 (φ:=φ1) (yb0 (t:=.bool) hrd g2.1 φ1))
  | [],hlast,_,_=>cases hlast
  |_::_::_,hlast,_,_=>cases hlast
 |panicked ch=>exact hR.elim
 |outgrown=>exact hR.elim
end
end Go.X
namespace Go.X
open Go.RowKit Go.V
structure PSpec (T:Tab) where
 ps:List Sh
 post:List PE
 rs:List Sh
 pv:Sh
 g:ze2 T ps->Option (zn7 T post×(ze2 T rs⊕ze2 T [pv]))
section
variable (T:Tab) (P:Program)
def POk (f:FuncId) (b:PSpec T):Prop:= ∀x y,b.g x=some y-> ∀(w:World) (S:List Nat) (φ:Nat->RA),Sim T w ⟨zc9 φ (zb0 b.ps),S,(List.range (zb0 b.ps)).map φ⟩ ⟨[],zh8 T id b.ps x 0⟩ [] w S φ->
 ∀vs:List Value,VRL T w S φ (zc3 T id b.ps x 0) vs->(∀a∈zc3 T id b.ps x 0,okA (zh8 T id b.ps x 0) a)->
 Calls P f vs.toArray w fun e w'=>match e with
  | .returned v=> ∃z,y.2=.inl z/\ ∃us,jd5 T b.post b.rs y.1 z w S φ (zb0 b.ps) w' us/\v=zw3 us
  | .panicked c=> ∃z,y.2=.inr z/\ ∃u,c= [{v:=u,recovered:=false}]/\jd5 T b.post [b.pv] y.1 z w S φ (zb0 b.ps) w' [u]
  | .outgrown=>False
def PSpec.toCall {T:Tab} (a:PSpec T) (b:CallSpec T):CallSpec T where
 call:=fun aS H K c=>match zq5 T H a.ps aS [] with
  |some (x,l)=>match ze6 (zd0 l)&&yl7 T H (zd0 l) a.post with
   |true=>j7 (a.g x) fun y=>match y.2 with
    | .inl z=>K (zl4 T (zc3 T (σJ (zd0 l) H.length) a.rs z (a.post.length+zh2 a.post))) (zf3 T H (zd0 l) (mkP T (σJ (zd0 l) H.length) a.post y.1 a.post.length)++(yc4 T (σJ (zd0 l) H.length) a.post y.1 a.post.length++zh8 T (σJ (zd0 l) H.length) a.rs z (a.post.length+zh2 a.post)))
    | .inr z=>c (zl4 T (zc3 T (σJ (zd0 l) H.length) [a.pv] z (a.post.length+zh2 a.post))) (zf3 T H (zd0 l) (mkP T (σJ (zd0 l) H.length) a.post y.1 a.post.length)++(yc4 T (σJ (zd0 l) H.length) a.post y.1 a.post.length++zh8 T (σJ (zd0 l) H.length) [a.pv] z (a.post.length+zh2 a.post)))
   |false=>none
  |none=>b.call aS H K c
 q:=b.q
 isq:=b.isq
 wr:=fun aS H=>match zq5 T H a.ps aS [] with|some (_,l)=>zd0 l|none=>b.wr aS H
def qb8 (nl:Nl) (b:List PE) (rs:List Sh) (c:Sh) (a:AV T.U) (st:St T):Option (zn7 T b×(ze2 T rs⊕ze2 T [c])):=
 match rdP T (ze8 T nl.bn st.H) b 0 (zn6 b 0) with
 |some (y,l)=>match zq5 T (ze8 T nl.bn st.H) [c] [a] l with
  |some (z,l')=>match zl8 l' with|true=>some (y,.inr z)|false=>none
  |none=>none
 |none=>none
def qb9 (fn:Func) (nl:Nl) (a:List PE) (rs:List Sh) (b:Sh):Ks T (zn7 T a×(ze2 T rs⊕ze2 T [b])):=
 ⟨fun st=>j7 (zw1 T P fn nl a rs st) fun y=>some (y.1,.inl y.2),fun _ _=>none,fun st=>j7 (zw1 T P fn nl a rs st) fun y=>some (y.1,.inl y.2),qb8 T nl a rs b⟩
noncomputable def un3 (C:Ctx T) (b:List (Pos×Cut)) (fn:Func) (c:Code) (nl:Nl) (ps:List Sh) (a:List PE) (rs:List Sh) (d:Sh) (m:Nat) (x:ze2 T ps):Option (zn7 T a×(ze2 T rs⊕ze2 T [d])):=
 evC P C fn.ntmps b (run P C fn.ntmps b c (qb9 T P fn nl a rs d) m) c [] (qb9 T P fn nl a rs d) ⟨zv6 T (zc3 T id ps x 0) 0,zh8 T id ps x 0⟩
noncomputable def uo3 (C:Ctx T) (b:List (Pos×Cut)) (fn:Func) (c:Code) (nl:Nl) (a:List PE) (rs:List Sh) (d:Sh) (m:Nat) (q:Pos) (st:St T):Option (zn7 T a×(ze2 T rs⊕ze2 T [d])):=
 run P C fn.ntmps b c (qb9 T P fn nl a rs d) m q st
end
section
variable {T:Tab} {P:Program} {w w':World} {S S':List Nat} {φ φ':Nat->RA} {w0:World} {S0:Ow} {F:AF T} {H:List (Ent T.U)} {F':PF}
def qh9 {f:FuncId} {sp:PSpec T} {alt:CallSpec T} (hok:POk T P f sp) (ha:w9 T P f alt):w9 T P f (sp.toCall alt):=by
 intro R aS H K Kp r hr w0 S0 F F' w S φ h vs hvs has;simp only [PSpec.toCall] at hr;split at hr
 ·rename_i x l hx;split at hr
  ·rename_i hb;simp only [X3] at hb;obtain ⟨hn,hro⟩:=hb;obtain ⟨y,hy,hK⟩:=za8 hr;obtain ⟨new,g1,g2,g3⟩:=zd8 sp.ps aS [] l x hx;have hl:l=new.map some:=by rw [g1.eq];rfl
   have hids:zd0 l=new:=by rw [hl,ya6]
   rw [hids] at hn hro hK;have hno:zl8 l=true:=by
    rw [hl];clear hK hro hids hx g1 g2 g3 hl;induction new with
    |nil=>rfl
    |cons i r ih=>
     rw [ze6,X3,V8] at hn;rw [W8,zl8,ih hn.2,Bool.and_true,V8];cases hm:ql1 i (r.map some) with
     |false=>rfl
     |true=>
      have:=ya8.1 hm;obtain ⟨j,hj,e⟩:=U0.1 this;simp only [X0] at e;subst e;rw [zb9.2 hj] at hn;exact absurd hn.1 (by simp)
   obtain ⟨q1,q2⟩:=g3 _ (yc7 hno);obtain ⟨hlen,hrow⟩:=zn3 hro;have hnewlen:new.length=zb0 sp.ps:=g2;obtain ⟨c0,x0,p0⟩:=S0;have hs:=(h.unpin.src (l:=l) hno (fun k hk=>by simp at hk) (fun i e hi he j hj=>by
    rw [hl] at hi;obtain ⟨i',hi',e'⟩:=U0.1 hi;simp only [X0] at e';subst e';obtain ⟨e0,h1,_,h3⟩:=g1.ents i' hi';rw [he] at h1;simp only [X0] at h1;subst h1;exact h3 j hj))
   rw [show zi3 T H (fun i=>yn3 i l) l=zd9 T H (fun i=>yn3 i l) new by rw [hl,zs7]] at hs;have hs:=(hs.imp q2).start;rw [zc8,<-hnewlen] at hs;have hφc: ∀k i,new[k]?=some i->φO l φ k=φ i:=fun k i hk=>φO_at (by rw [hl,W0,hk];rfl);have hvs':VRL T w S (φO l φ) (zc3 T id sp.ps x 0) vs:=q1.vrl (VRL.ren T (fun i hi=>φO_idx (g1.ids i hi)) hvs);have hoks: ∀a∈zc3 T id sp.ps x 0,okA (zh8 T id sp.ps x 0) a:=fun a ha=>zd7 (zp1 id _ _ _ a ha) fun i hi=>by
    have hi:=zh7 ha i hi;rw [show v8 (zc3 T id sp.ps x 0)=_ from q1.ids] at hi;rw [zc8,<-hnewlen];refine zk3 (fun j hj=>?_) i hi;have:=(X2.1 (zl3 (g1.ids j hj))).1;rw [hl,V0] at this;rw [hl];exact this
   have step: ∀(rs:List Sh) (z:ze2 T rs) (w':World) (us:List Value),jd5 T sp.post rs y.1 z w S (φO l φ) (zb0 sp.ps) w' us->
     ∃S1 φ2,Sim T w0 ⟨c0,x0,p0⟩ ⟨F,zf3 T H new (mkP T (σJ new H.length) sp.post y.1 sp.post.length)++(yc4 T (σJ new H.length) sp.post y.1 sp.post.length++zh8 T (σJ new H.length) rs z (sp.post.length+zh2 sp.post))⟩ F' w' S1 φ2/\VR T w' S1 φ2 (zl4 T (zc3 T (σJ new H.length) rs z (sp.post.length+zh2 sp.post))) (zw3 us)/\
      okA (zf3 T H new (mkP T (σJ new H.length) sp.post y.1 sp.post.length)++(yc4 T (σJ new H.length) sp.post y.1 sp.post.length++zh8 T (σJ new H.length) rs z (sp.post.length+zh2 sp.post))) (zl4 T (zc3 T (σJ new H.length) rs z (sp.post.length+zh2 sp.post))):=by
    intro rs z w' us hans;obtain ⟨F1,S1,φ1,k1,k2,k3⟩:=hans;rw [<-hnewlen] at k1;obtain ⟨φ2,m1,m2⟩:=h.join hn (fun i hi=>by obtain ⟨e,a,b,_⟩:=g1.ents i hi;exact ⟨e,a,b⟩) hφc k1 (by rw [zq3,hlen]) (fun k i e t ys hk hp=>hrow k i e t hk (yd8 hp));rw [jf8,V6,yr8,zi8] at m1;have hv2:VRL T w' S1 φ2 (zc3 T (σJ new H.length) rs z (sp.post.length+zh2 sp.post)) us:=by
     rw [<-zg0];rw [zq3,X9,zv0,zc8] at m2;generalize zc3 T id rs z (sp.post.length+zh2 sp.post)=as9 at k2 k3;clear m1 k1;induction as9 generalizing us with
     |nil=>cases us<;>exact k2
     |cons a r ih=>
      match us,k2 with
      |u::us,k2=>
       rw [zi5];exact ⟨m2 a u k2.1 fun i hi=>k3 i (by rw [v8];exact X4.2 (.inl hi)),ih _ k2.2 fun i hi=>k3 i (by rw [v8];exact X4.2 (.inr hi))⟩
    refine ⟨S1,φ2,m1,yb1 hv2,?_⟩;have hlt: ∀i∈v8 (zc3 T (σJ new H.length) rs z (sp.post.length+zh2 sp.post)),i<(zf3 T H new (mkP T (σJ new H.length) sp.post y.1 sp.post.length)++(yc4 T (σJ new H.length) sp.post y.1 sp.post.length++zh8 T (σJ new H.length) rs z (sp.post.length+zh2 sp.post))).length:=by
     rw [<-zg0];refine zk3 fun j hj=>?_;have hj:=k3 j hj;rw [X9,X9,za1,zv0,zc8];by_cases hlt:j<new.length
     ·have hs:=σJ_lo (n:=H.length) hlt;obtain ⟨e,h1,_,_⟩:=g1.ents _ (X6 hs);have:=(X2.1 h1).1;omega
     ·rw [σJ_hi (by omega)];omega
    have hne:zk7 (zl4 T (zc3 T (σJ new H.length) rs z (sp.post.length+zh2 sp.post)))=true:=by
     unfold zl4;split
     ·rename_i a hl;exact zp1 (σJ new H.length) rs z _ a (by rw [hl];simp)
     ·rfl
    refine zd7 hne fun i hi=>hlt i ?_;unfold zl4 at hi;split at hi
    ·rename_i a hl;rw [hl,v8];exact X4.2 (.inl hi)
    ·rw [AV.ids] at hi;exact hi
   refine (hok x y hy w S (φO l φ) (by rw [<-hnewlen];exact hs) vs hvs' hoks).mono fun e w' hR=>?_;cases e with
   |returned v=>
    obtain ⟨z,hz,us,hans,rfl⟩:=hR;rw [hz] at hK;exact ⟨_,_,hK,step _ z w' us hans⟩
   |panicked ch=>
    obtain ⟨z,hz,u,rfl,hans⟩:=hR;rw [hz] at hK;exact ⟨_,_,hK,u,rfl,step _ z w' [u] hans⟩
   |outgrown=>exact hR.elim
  ·cases hr
 ·exact ha aS H K Kp r hr w0 S0 F F' w S φ h vs hvs has
def wb2 {d:PSpec T} {b} (J:zp3 b):zp3 (d.toCall b):=by
 intro R aS H K L r j;simp only [PSpec.toCall] at j;split at j
 ·rename_i x l g;split at j
  ·rename_i m;obtain ⟨y,E,q⟩:=za8 j;simp only [X3] at m;obtain ⟨n,o⟩:=zn3 m.2;have s:(PSpec.toCall d b).wr aS H=zd0 l:=by simp only [PSpec.toCall,g]
   rw [s];have G:(mkP T (σJ (zd0 l) H.length) d.post y.1 d.post.length).length=(zd0 l).length:=by rw [zq3,n]
   have c: ∀(N:List (Ent T.U)),Keeps T (zd0 l) H (zf3 T H (zd0 l) (mkP T (σJ (zd0 l) H.length) d.post y.1 d.post.length)++N):=by
    intro N;refine ⟨by rw [X9,za1];omega,fun e u M=>?_,fun e ty t ys u h=>?_⟩
    ·rw [X8 (by rw [za1];exact u)];obtain ⟨f,I⟩: ∃f,(zf3 T H (zd0 l) (mkP T (σJ (zd0 l) H.length) d.post y.1 d.post.length))[e]?=some f:=⟨_,Y0 (by rw [za1];exact u)⟩;rcases ze1 _ _ H G I with ⟨k,v,_⟩|⟨_,p⟩
     ·exact absurd (X6 v) M
     ·rw [I,p]
    ·rw [X8 (by rw [za1];exact u)] at h;rcases ze1 _ _ H G h with ⟨k,v,p⟩|⟨_,p⟩
     ·exact o k e ty t v (yd8 p)
     ·exact ⟨ys,p⟩
   cases hz:y.2 with
   |inr z=>
    rw [hz] at q;exact .inr ⟨_,_,q,c _,fun A i=>by simp only [PSpec.toCall,g,m.1,m.2,M0,E,j7,hz]⟩
   |inl z=>
    rw [hz] at q;exact .inl ⟨_,_,q,c _,fun A i=>by simp only [PSpec.toCall,g,m.1,m.2,M0,E,j7,hz]⟩
  ·cases j
 ·rename_i g;have s:(PSpec.toCall d b).wr aS H=b.wr aS H:=by simp only [PSpec.toCall,g]
  rcases J aS H K L r j with ⟨a,H1,B,C,D⟩|⟨a,H1,B,C,D⟩
  ·exact .inl ⟨a,H1,B,by rw [s];exact C,fun A i=>by simp only [PSpec.toCall,g,D]⟩
  ·exact .inr ⟨a,H1,B,by rw [s];exact C,fun A i=>by simp only [PSpec.toCall,g,D]⟩
def we2 {C f fn c K ps rs nl b J g} (hm:P.follows .mixedOrders=true) (hE:zc5 T P C.E)
  (hf:P.funcs[f]?=some fn) (hb:fn.body=some c) (hs:Nat.ble ps.length fn.ntmps=true) (L:Nat.ble (zb0 ps) C.pin=true) (d:Nat.beq b.length (zb0 ps)=true)
  (hg: ∀x y,g x=some y-> ∃m,un3 T P C K fn c nl ps b rs J m x=some y):POk T P f ⟨ps,b,rs,J,g⟩:=by
 intro x y hy w S φ M vs O Q;obtain ⟨N,hN⟩:=hg x y hy;have d:=X1 d;have R:(zc3 T id ps x 0).length=ps.length:=by
  have: ∀(l:List Sh) (x:ze2 T l) (k:Nat),(zc3 T id l x k).length=l.length:=by
   intro l;induction l with
   |nil=>intro x k;rfl
   |cons s r ih=>intro x k;exact congrArg (· +1) (ih x.2 _)
  exact this ps x 0
 have U:vs.length=ps.length:=by rw [<-O.len T];exact R
 have hsz:vs.length<=fn.ntmps:=by rw [U];exact Y1 hs
 have hfr:Fr fn.ntmps [] (yx9 vs 0) {tmps:=vs.toArray++Array.replicate (fn.ntmps-vs.toArray.size) undef,defers:= []}:=by
  refine ⟨by simp;omega,rfl,fun i v hv=>?_⟩;obtain ⟨_,p⟩:=zu5 vs 0 i v hv;simp only [J5] at p;have hi:=(X2.1 p).1;refine ⟨?_,by omega⟩;rw [Y7,Array.getElem?_append_left (by simpa using hi)];simp [p]
 have q:=M.slots O Q;have j:((List.range (zb0 ps)).map φ).length<=C.pin:=by simpa using Y1 L
 have V: ∀st A,zw1 T P fn nl b rs st=some A-> ∀F1 o,zd2 T w ⟨zc9 φ (zb0 ps),S,(List.range (zb0 ps)).map φ⟩ st F1 o-> ∀a,Fr fn.ntmps [] F1 a-> ∃v,(results fn a.tmps).run P o=.ok v o/\
   ∃us,jd5 T b rs A.1 A.2 w S φ (zb0 ps) o us/\v=zw3 us:=by
  intro st0 A n F1 o W a t;exact yg2 d n W t
 have X:KsOk (bodyPost P fn fun e w'=>match e with
   | .returned v=> ∃z,y.2=.inl z/\ ∃us,jd5 T b rs y.1 z w S φ (zb0 ps) w' us/\v=zw3 us
   | .panicked ch=> ∃z,y.2=.inr z/\ ∃u,ch= [{v:=u,recovered:=false}]/\jd5 T b [J] y.1 z w S φ (zb0 ps) w' [u]
   | .outgrown=>False) fn.ntmps [] w ⟨zc9 φ (zb0 ps),S,(List.range (zb0 ps)).map φ⟩ y (qb9 T P fn nl b rs J):=by
  refine ⟨?_,fun i st h=>(by cases h),?_,fun a st h=>?_⟩
  ·intro st n F1 o B a t;obtain ⟨A,D,Y⟩:=za8 n;simp only [X0] at Y;obtain ⟨v,Z,us,p,h3⟩:=V st A D F1 o B a t;subst Y;exact ⟨t.defers,v,Z,_,rfl,us,p,h3⟩
  ·intro st n F1 o B a t;obtain ⟨A,D,Y⟩:=za8 n;simp only [X0] at Y;obtain ⟨v,Z,us,p,h3⟩:=V st A D F1 o B a t;subst Y;exact ⟨t.defers,v,Z,_,rfl,us,p,h3⟩
  ·intro F1 o S1 φ1 u G I hok act t;have h:qb8 T nl b rs J a st=some y:=h;obtain ⟨φ1,G,I,_⟩:=zg1 nl.bn G (aS:= [a]) (us:= [u]) ⟨I,trivial⟩ (fun i hi=>hok.1 i (by simpa [v8] using hi));unfold qb8 at h;split at h<;>try (cases h;done)
   rename_i y1 l1 Z;split at h<;>try (cases h;done)
   rename_i z l2 p;split at h<;>try (cases h;done)
   rename_i hn;simp only [X0] at h;subst h;exact ⟨t.defers,z,rfl,u,rfl,qa3 d Z p hn G I⟩
 exact calls_of_wp hf hb (zf2 hm j hE c [] _ _ _ _ w hN X (JOk.run hm j hE X N) ⟨S,φ,q⟩ _ hfr)
def ze9 {f b a} (h:POk T P f b) (c:w9 T P f a/\zh3 T P f a/\zp3 a):w9 T P f (b.toCall a)/\zh3 T P f (b.toCall a)/\zp3 (b.toCall a):=⟨qh9 h c.1,c.2.1,wb2 c.2.2⟩
end
end Go.X
namespace Go.X
open Go.RowKit Go.V
section
variable {T:Tab} {P:Program} {w w':World} {S S':List Nat} {φ φ':Nat->RA} {w0:World} {S0:Ow} {F:AF T} {H:List (Ent T.U)} {F':PF}
def qr4 {ps c aS x l} (hx:zq5 T H ps aS []=some (x,l)) (C:ze6 (zd0 l)=true) (v:yl7 T H (zd0 l) c=true) (h:Sim T w0 S0 ⟨F,H⟩ F' w S φ) {vs} (R:VRL T w S φ aS vs):
  ∃φ',Sim T w ⟨zc9 φ' (zb0 ps),S,(List.range (zb0 ps)).map φ'⟩ ⟨[],zh8 T id ps x 0⟩ [] w S φ'/\VRL T w S φ' (zc3 T id ps x 0) vs/\(∀a∈zc3 T id ps x 0,okA (zh8 T id ps x 0) a)/\
   ∀(p:zn7 T c) (rs:List Sh) (z:ze2 T rs) (w':World) (us:List Value),jd5 T c rs p z w S φ' (zb0 ps) w' us->
    ∃S1 o,Sim T w0 S0 ⟨F,zf3 T H (zd0 l) (mkP T (σJ (zd0 l) H.length) c p c.length)++(yc4 T (σJ (zd0 l) H.length) c p c.length++zh8 T (σJ (zd0 l) H.length) rs z (c.length+zh2 c))⟩ F' w' S1 o/\VR T w' S1 o (zl4 T (zc3 T (σJ (zd0 l) H.length) rs z (c.length+zh2 c))) (zw3 us)/\
     okA (zf3 T H (zd0 l) (mkP T (σJ (zd0 l) H.length) c p c.length)++(yc4 T (σJ (zd0 l) H.length) c p c.length++zh8 T (σJ (zd0 l) H.length) rs z (c.length+zh2 c))) (zl4 T (zc3 T (σJ (zd0 l) H.length) rs z (c.length+zh2 c))):=by
 obtain ⟨d,y,g2,g3⟩:=zd8 ps aS [] l x hx;have m:l=d.map some:=by rw [y.eq];rfl
 have q:zd0 l=d:=by rw [m,ya6]
 rw [q] at C v⊢;have E:zl8 l=true:=by
  rw [m];clear v q hx y g2 g3 m;induction d with
  |nil=>rfl
  |cons i r V=>
   rw [ze6,X3,V8] at C;rw [W8,zl8,V C.2,Bool.and_true,V8];cases hm:ql1 i (r.map some) with
   |false=>rfl
   |true=>
    have:=ya8.1 hm;obtain ⟨j,s,e⟩:=U0.1 this;simp only [X0] at e;subst e;rw [zb9.2 s] at C;exact absurd C.1 (by simp)
 obtain ⟨q1,q2⟩:=g3 _ (yc7 E);obtain ⟨G,I⟩:=zn3 v;have f:d.length=zb0 ps:=g2;obtain ⟨c0,x0,p0⟩:=S0;have A:=(h.unpin.src (l:=l) E (fun k J=>by simp at J) (fun i e g he j s=>by
  rw [m] at g;obtain ⟨i',W,e'⟩:=U0.1 g;simp only [X0] at e';subst e';obtain ⟨e0,K,_,h3⟩:=y.ents i' W;rw [he] at K;simp only [X0] at K;subst K;exact h3 j s))
 rw [show zi3 T H (fun i=>yn3 i l) l=zd9 T H (fun i=>yn3 i l) d by rw [m,zs7]] at A;have A:=(A.imp q2).start;rw [zc8,<-f] at A;have L: ∀k i,d[k]?=some i->φO l φ k=φ i:=fun k i J=>φO_at (by rw [m,W0,J];rfl);have M:VRL T w S (φO l φ) (zc3 T id ps x 0) vs:=q1.vrl (VRL.ren T (fun i g=>φO_idx (y.ids i g)) R);have N: ∀a∈zc3 T id ps x 0,okA (zh8 T id ps x 0) a:=fun a ha=>zd7 (zp1 id _ _ _ a ha) fun i g=>by
  have g:=zh7 ha i g;rw [show v8 (zc3 T id ps x 0)=_ from q1.ids] at g;rw [zc8,<-f];refine zk3 (fun j s=>?_) i g;have:=(X2.1 (zl3 (y.ids j s))).1;rw [m,V0] at this;rw [m];exact this
 refine ⟨φO l φ,by rw [<-f];exact A,M,N,?_⟩;intro p rs z w' us O;obtain ⟨F1,S1,φ1,X,D,Q⟩:=O;rw [<-f] at X;obtain ⟨o,Y,m2⟩:=h.join C (fun i g=>by obtain ⟨e,a,b,_⟩:=y.ents i g;exact ⟨e,a,b⟩) L X (by rw [zq3,G]) (fun k i e t ys J hp=>I k i e t J (yd8 hp));rw [jf8,V6,yr8,zi8] at Y;have Z:VRL T w' S1 o (zc3 T (σJ d H.length) rs z (c.length+zh2 c)) us:=by
  rw [<-zg0];rw [zq3,X9,zv0,zc8] at m2;generalize zc3 T id rs z (c.length+zh2 c)=as9 at D Q;clear Y X;induction as9 generalizing us with
  |nil=>cases us<;>exact D
  |cons a r V=>
   match us,D with
   |u::us,D=>
    rw [zi5];exact ⟨m2 a u D.1 fun i g=>Q i (by rw [v8];exact X4.2 (.inl g)),V _ D.2 fun i g=>Q i (by rw [v8];exact X4.2 (.inr g))⟩
 refine ⟨S1,o,Y,yb1 Z,?_⟩;have B: ∀i∈v8 (zc3 T (σJ d H.length) rs z (c.length+zh2 c)),i<(zf3 T H d (mkP T (σJ d H.length) c p c.length)++(yc4 T (σJ d H.length) c p c.length++zh8 T (σJ d H.length) rs z (c.length+zh2 c))).length:=by
  rw [<-zg0];refine zk3 fun j s=>?_;have s:=Q j s;rw [X9,X9,za1,zv0,zc8];by_cases B:j<d.length
  ·have A:=σJ_lo (n:=H.length) B;obtain ⟨e,K,_,_⟩:=y.ents _ (X6 A);have:=(X2.1 K).1;omega
  ·rw [σJ_hi (by omega)];omega
 have hne:zk7 (zl4 T (zc3 T (σJ d H.length) rs z (c.length+zh2 c)))=true:=by
  unfold zl4;split
  ·rename_i a m;exact zp1 (σJ d H.length) rs z _ a (by rw [m];simp)
  ·rfl
 refine zd7 hne fun i g=>B i ?_;unfold zl4 at g;split at g
 ·rename_i a m;rw [m,v8];exact X4.2 (.inl g)
 ·rw [AV.ids] at g;exact g
def Sim.fewer {c x p q st} (h:Sim T w0 ⟨c,x,p⟩ st F' w S φ) (b: ∀(k:Nat) (r:RA),q[k]?=some r-> ∃a,p[k]?=some a/\RSame a r):Sim T w0 ⟨c,x,q⟩ st F' w S φ:=
 ⟨h.fr,h.ids,h.chg,h.own,h.ex,h.lives,fun k r d=>(b k r d).elim fun a q=>⟨(h.pins k a q.1).1.trans q.2,(h.pins k a q.1).2⟩,h.ents,h.eids,h.apart⟩
def Sim.pinned {c x p st} (h:Sim T w0 ⟨c,x,p⟩ st F' w S φ) {m} (d:m<=st.H.length):Sim T w0 ⟨c,x,(List.range m).map φ⟩ st F' w S φ:=
 ⟨h.fr,h.ids,h.chg,h.own,h.ex,h.lives,fun k r b=>by
  have a:=(X2.1 b).1;simp at a;simp [a] at b;exact ⟨.of b,by omega⟩,h.ents,h.eids,h.apart⟩
end
structure DSpec (T:Tab) where
 ps:List Sh
 rv:Sh
 post:List PE
 g:ze2 T (ps++ [rv])->Option (zn7 T post)
def zw9:Value->FrameMode
 | .nilIface=>.returning
 |v=>.panicking [{v:=v,recovered:=false}]
def DOk (T:Tab) (P:Program) (f:FuncId) (b:DSpec T):Prop:=
 ∀x y,b.g x=some y-> ∀(w:World) (S:List Nat) (φ:Nat->RA),Sim T w ⟨zc9 φ (zb0 (b.ps++ [b.rv])),S,(List.range (zb0 (b.ps++ [b.rv]))).map φ⟩ ⟨[],zh8 T id (b.ps++ [b.rv]) x 0⟩ [] w S φ->
 ∀(vs:List Value) (v:Value),VRL T w S φ (zc3 T id (b.ps++ [b.rv]) x 0) (vs++ [v])->(∀a∈zc3 T id (b.ps++ [b.rv]) x 0,okA (zh8 T id (b.ps++ [b.rv]) x 0) a)->
 CallsD P f vs.toArray (zw9 v) w fun e c w'=>(∃d,e=.returned d)/\c=(jz8 (zw9 v)).2/\jd5 T b.post [] y () w S φ (zb0 (b.ps++ [b.rv])) w' []
section
variable {T:Tab} (P:Program)
def qb7 (a:List PE) (st:St T):Option (zn7 T a):=match rdP T st.H a 0 (zn6 a 0) with|some (y,l)=>(match zl8 l with|true=>some y|false=>none)|none=>none
def jy5 (a:List PE):Ks T (zn7 T a):=⟨qb7 a,fun _ _=>none,qb7 a,fun _ _=>none⟩
noncomputable def ys4 (C:Ctx T) (fn:Func) (c:Code) (ps:List Sh) (e:Sh) (b:List PE) (x:ze2 T (ps++ [e])):Option (zn7 T b):=
 match c with
 | .seq (.region _ ops false) rest=>match vw3 ops,(zc3 T id (ps++ [e]) x 0)[ps.length]? with
  |some d,some a=>(match zi4 fn.ntmps (some d) with
   |true=>qp0 (fun o st K=>stepA P C o st K fun _ _=>none) ops fn.ntmps (evC P C fn.ntmps [] (fun _ _=>none) rest [] (jy5 b)) (ops.toList.drop 1) ⟨(d,a)::zv6 T ((zc3 T id (ps++ [e]) x 0).take ps.length) 0,zh8 T id (ps++ [e]) x 0⟩
   |false=>none)
  |_,_=>none
 |_=>none
def jb6 {R:Type} (a:DSpec T) (aS:List (AV T.U)) (H:List (Ent T.U)) (K:List (Ent T.U)->Option R):Option R:=
 match zq5 T H (a.ps++ [a.rv]) aS [] with
 |some (x,l)=>match ze6 (zd0 l)&&yl7 T H (zd0 l) a.post with
  |true=>j7 (a.g x) fun y=>K (zf3 T H (zd0 l) (mkP T (σJ (zd0 l) H.length) a.post y a.post.length)++(yc4 T (σJ (zd0 l) H.length) a.post y a.post.length++zh8 T (σJ (zd0 l) H.length) [] () (a.post.length+zh2 a.post)))
  |false=>none
 |none=>none
structure DefP (T:Tab) where
 depth:Nat
 sl:Nat
 live:List Nat
 pin:Nat
 g:FuncId
 cp:List (Nat×Nat)
 dr:DSpec T
 dp:DSpec T
def ye2 {U:Nat->Type}:List (Nat×Nat)->List (AV U)
 | []=> []
 |(i,o)::r=>.ptr i o::ye2 r
def qa5 {U:Nat->Type}:List (Nat×Nat)->List (AV U)->Bool
 | [],[]=>true
 |(i,o)::r,.ptr j p::s=>Nat.beq i j&&(Nat.beq o p&&qa5 r s)
 |_,_=>false
def gj6 {U:Nat->Type}:AV U->Bool| .ifc _ _=>true|_=>false
def qy3 (fn:Func) (nl:Nl) (b:List PE) (rs:List Sh) (D:DefP T):Ks T (zn7 T b×ze2 T rs):=
 let c:=fun (st:St T)=>jb6 D.dr (ye2 D.cp++ [.raw .nilIface]) st.H fun H1=>zw1 T P fn nl b rs ⟨st.F,H1⟩
 ⟨c,fun _ _=>none,c,fun a st=>match gj6 a with|true=>jb6 D.dp (ye2 D.cp++ [a]) st.H fun H1=>zw1 T P fn nl b rs ⟨st.F,H1⟩|false=>none⟩
def jc0:Op->Bool| .defer _=>false|_=>true
def vt5 (o:Oper):Option Nat:=match o.op with| .defer c=>(match c.callee,c.args.toList,o.dst,o.guard with| .value (.tmp t),[],none,none=>some t|_,_,_,_=>none)|_=>none
def kh9 (ops:Array Oper) (sl:Nat):Bool:=(ops.toList.dropLast.all fun o=>jc0 o.op)&&(match ops.toList.getLast? with|some o=>(match vt5 o with|some t=>Nat.beq t sl|none=>false)|none=>false)
def vc9 {R:Type} (C:Ctx T) (a:AV T.U->St T->Option R) (o:Oper) (st:St T) (K:St T->Option R):Option R:=match jc0 o.op with|true=>stepA P C o st K a|false=>(match vt5 o with|some t=>(match st.F.get T t with|some (.fn _ [] _)=>K st|_=>none)|none=>none)
def Ctx.at (C:Ctx T) (m:Nat):Ctx T:=⟨C.ty,C.E,m,C.ms,C.lay,C.dr,C.pm⟩
noncomputable def vc7 (C:Ctx T) (b:List (Pos×Cut)) (fn:Func) (B:Code) (nl:Nl) (a:List PE) (rs:List Sh) (D:DefP T) (m:Nat) (st:St T):Option (zn7 T a×ze2 T rs):=
 match wa0 T C.pin D.live st with
 |some c=>match c.F.get T D.sl with
  |some (.fn (.func g) [] d)=>match Nat.beq g D.g&&(zl1 P g&&(qa5 D.cp d&&((D.cp.all fun p=>Nat.blt p.1 D.pin)&&(Nat.ble C.pin D.pin&&Nat.ble D.pin c.H.length)))) with
   |true=>evC P (C.at D.pin) fn.ntmps b (run P (C.at D.pin) fn.ntmps b B (qy3 P fn nl a rs D) m) B [] (qy3 P fn nl a rs D) c
   |false=>none
  |_=>none
 |none=>none
noncomputable def ki0 (C:Ctx T) (b:List (Pos×Cut)) (fn:Func) (nl:Nl) (a:List PE) (rs:List Sh) (D:DefP T) (m:Nat) (c:Code) (st:St T):Option (zn7 T a×ze2 T rs):=
 match c with
 | .seq (.region _ ops false) B=>match kh9 ops D.sl with
  |true=>qp0 (vc9 P C fun _ _=>none) ops fn.ntmps (vc7 P C b fn B nl a rs D m) ops.toList st
  |false=>none
 |_=>none
noncomputable def evS {R:Type} (C:Ctx T) (n:Nat) (K:Ks T R) (K2:Code->St T->Option R):Nat->Code->St T->Option R
 |0,c,st=>K2 c st
 |k+1,.seq x y,st=>evC P C n [] (fun _ _=>none) x [] (K.behind fun st=>evS C n K K2 k y st) st
 |_+1,_,_=>none
noncomputable def vy4 (C:Ctx T) (b:List (Pos×Cut)) (fn:Func) (c:Code) (nl:Nl) (ps:List Sh) (a:List PE) (rs:List Sh) (D:DefP T) (m:Nat) (x:ze2 T ps):Option (zn7 T a×ze2 T rs):=
 evS P C fn.ntmps (jb9 T P fn nl a rs) (ki0 P C b fn nl a rs D m) D.depth c ⟨zv6 T (zc3 T id ps x 0) 0,zh8 T id ps x 0⟩
end
section
variable {T:Tab} {P:Program} {w w':World} {S S':List Nat} {φ φ':Nat->RA} {w0:World} {S0:Ow} {F:AF T} {H:List (Ent T.U)} {F':PF}
def VRL.snoc_inv {aS a}: ∀ {vs v},VRL T w S φ (aS++ [a]) (vs++ [v])->VRL T w S φ aS vs/\VR T w S φ a v:=by
 induction aS with
 |nil=>
  intro vs v h
  match vs,h with
  | [],h=>exact ⟨trivial,h.1⟩
  |u::vs,h=>exact absurd (h.2.len T) (by simp)
 |cons b r c=>
  intro vs v h
  match vs,h with
  | [],h=>exact absurd (VRL.len T h) (by simp)
  |u::vs,h=>obtain ⟨d,e⟩:=c h.2;exact ⟨⟨h.1,d⟩,e⟩
def jj7 (a): ∀(l x k),(zc3 T a l x k).length=l.length
 | [],x,k=>rfl
 |s::r,x,k=>congrArg (· +1) (jj7 a r x.2 _)
def vj2 {fn} (b:fn.results.isEmpty=true) (a w):(results fn a).run P w=.ok (.tuple #[]) w:=by
 have:fn.results= #[]:=by simpa using b
 unfold results;rw [this,Array.mapM_eq_mapM_toList];simp [Sem.run_bind,Sem.run_map]
def yk2 {C f fn c ps m j g} (hm:P.follows .mixedOrders=true) (hE:zc5 T P C.E)
  (hf:P.funcs[f]?=some fn) (X:fn.body=some c) (Y:Nat.ble ps.length fn.ntmps=true) (M:Nat.ble (zb0 (ps++ [m])) C.pin=true) (n:Nat.beq j.length (zb0 (ps++ [m]))=true) (B:fn.results.isEmpty=true)
  (Z: ∀x y,g x=some y->ys4 P C fn c ps m j x=some y):DOk T P f ⟨ps,m,j,g⟩:=by
 intro x y hy w S φ D vs v I t;have G:=Z x y hy;have n:=X1 n;have N:(zc3 T id (ps++ [m]) x 0).length=ps.length+1:=by rw [jj7];simp
 unfold ys4 at G;split at G<;>try (cases G;done)
 rename_i rid ops rest;split at G<;>try (cases G;done)
 rename_i d a hd J;split at G<;>try (cases G;done)
 rename_i hdn;simp only at I t D;have q:zc3 T id (ps++ [m]) x 0=(zc3 T id (ps++ [m]) x 0).take ps.length++ [a]:=by
  conv=>lhs;rw [<-List.take_append_drop ps.length (zc3 T id (ps++ [m]) x 0)]
  congr 1;obtain ⟨hlt,Z⟩:=X2.1 J;rw [U3 hlt,Z,N4 (by omega)]
 rw [q] at I;obtain ⟨O,hv2⟩:=I.snoc_inv;have Q:vs.length=ps.length:=by rw [<-O.len T,Y6,N];omega
 have hsz:vs.length<=fn.ntmps:=by rw [Q];exact Y1 Y
 have hfr:Fr fn.ntmps [] (yx9 vs 0) {tmps:=vs.toArray++Array.replicate (fn.ntmps-vs.toArray.size) undef,defers:= []}:=by
  refine ⟨by simp;omega,rfl,fun i v hv=>?_⟩;obtain ⟨_,h2⟩:=zu5 vs 0 i v hv;simp only [J5] at h2;have hi:=(X2.1 h2).1;refine ⟨?_,by omega⟩;rw [Y7,Array.getElem?_append_left (by simpa using hi)];simp [h2]
 have A:=D.slots O (fun b X=>t b (J3 X));have L:((List.range (zb0 (ps++ [m]))).map φ).length<=C.pin:=by simpa using Y1 M
 have R:jz8 (zw9 v)=(v,(jz8 (zw9 v)).2):=by
  unfold zw9;split
  ·rfl
  ·rfl
 refine qf6 hf X rfl hfr d hd hdn R fun K hK=>?_;have hok:okA (zh8 T id (ps++ [m]) x 0) a:=t a (by rw [q];simp);have U:Sim T w ⟨zc9 φ (zb0 (ps++ [m])),S,(List.range (zb0 (ps++ [m]))).map φ⟩ ⟨(d,a)::zv6 T ((zc3 T id (ps++ [m]) x 0).take ps.length) 0,zh8 T id (ps++ [m]) x 0⟩ (upd (yx9 vs 0) (some d) v) w S φ:=A.slot (dst:=some d) hv2 hok;have hKs:KsOk (bodyPost P fn fun e w'=>(∃v0,e=.returned v0)/\(jz8 (zw9 v)).2=(jz8 (zw9 v)).2/\jd5 T j [] y () w S φ (zb0 (ps++ [m])) w' []) fn.ntmps [] w ⟨zc9 φ (zb0 (ps++ [m])),S,(List.range (zb0 (ps++ [m]))).map φ⟩ y (jy5 j):=by
  have V: ∀st,qb7 j st=some y-> ∀F1 s,zd2 T w ⟨zc9 φ (zb0 (ps++ [m])),S,(List.range (zb0 (ps++ [m]))).map φ⟩ st F1 s->jd5 T j [] y () w S φ (zb0 (ps++ [m])) s []:=by
   intro st l F1 s p;obtain ⟨S1,u,p⟩:=p;unfold qb7 at l;split at l<;>try (cases l;done)
   rename_i y1 l1 h1;split at l<;>try (cases l;done)
   rename_i hn;simp only [X0] at l;subst l;exact qa3 n h1 (rs:= []) (aS:= []) (z:=()) (l2:=l1) rfl hn p trivial
  refine ⟨?_,fun i st h=>(by cases h),?_,fun a st h=>(by cases h)⟩
  ·intro st l F1 s p a J;exact ⟨J.defers,_,vj2 B _ _,⟨_,rfl⟩,rfl,V st l F1 s p⟩
  ·intro st l F1 s p a J;exact ⟨J.defers,_,vj2 B _ _,⟨_,rfl⟩,rfl,V st l F1 s p⟩
 refine yl6 (w0:=w) (S0:=⟨zc9 φ (zb0 (ps++ [m])),S,(List.range (zb0 (ps++ [m]))).map φ⟩) (r:=y) (stp:=fun o st K=>stepA P C o st K fun _ _=>none)
  (K:=evC P C fn.ntmps [] (fun _ _=>none) rest [] (jy5 j))
  (fun k F' w2=>WR P ops (Exit.then K (bodyPost P fn fun e w'=>(∃v0,e=.returned v0)/\(jz8 (zw9 v)).2=(jz8 (zw9 v)).2/\jd5 T j [] y () w S φ (zb0 (ps++ [m])) w' [])) k fn.ntmps [] F' w2) ?_ ?_ ?_ (ops.toList.drop 1) 1 rfl _ _ _ _ S φ G U
 ·intro k o F1 H1 W s S1 u K hd Y h HK;exact zh6 hE hd Y h (fun st l F1 s ⟨S1,u,h1⟩=>HK st l F1 s S1 u h1) fun a st h=>(by cases h)
 ·intro k dst F' w hp K;exact WR.pass1 hp K
 ·intro k st W s S1 u hk l h;refine .fin (W3 hk) fun a J=>hK a s ?_;exact zf2 hm L hE rest [] _ st _ W s l hKs (JOk.none _ _ _) ⟨S1,u,h⟩ a J
def yu8 {R:Type} {r:R} {C:Ctx T} {n:Nat} {ds:List Deferred} (hm:P.follows .mixedOrders=true) (hp:S0.pin.length<=C.pin) (hE:zc5 T P C.E) {K:Ks T R} {K2:Code->St T->Option R}: ∀(k:Nat) (c:Code) (st:St T) (Q:Exit->Act->World->Prop) (F':PF) (w:World),
  evS P C n K K2 k c st=some r->KsOk Q n ds w0 S0 r K->(∀c st,K2 c st=some r-> ∀F1 w1,zd2 T w0 S0 st F1 w1-> ∀a,Fr n ds F1 a->c.wp P Q a w1)->zd2 T w0 S0 st F' w->CW P c Q n ds F' w
 |0,c,st,Q,F',w,h,hK,h2,hs=>fun a ha=>h2 c st h F' w hs a ha
 |k+1,c,st,Q,F',w,h,hK,h2,hs=>by
  cases c with
  |seq x y=>
   have h:evC P C n [] (fun _ _=>none) x [] (K.behind fun st=>evS P C n K K2 k y st) st=some r:=h;have:=zf2 hm hp hE x _ _ st _ F' w h (hK.behind (X:=y.wp P Q) fun st1 h1 F1 w1 hs1 a ha=>yu8 hm hp hE k y st1 Q F1 w1 h1 hK h2 hs1 a ha) (JOk.none _ _ _) hs;exact fun a ha=>wp_seq (this a ha)
  |_=>cases h
def jq8: ∀ {c:List (Nat×Nat)} {b:List (AV T.U)},qa5 c b=true->b=ye2 c
 | [],[],_=>rfl
 | [],_::_,h=>by cases h
 |(i,o)::r,[],h=>by cases h
 |(i,o)::r,a::s,h=>by
  cases a<;>try (cases h;done)
  simp only [qa5,X3] at h;rw [<-Nat.eq_of_beq_eq_true h.1,<-Nat.eq_of_beq_eq_true h.2.1,jq8 h.2.2];rfl
def jq9: ∀ {b vs m},(b.all fun p=>Nat.blt p.1 m)=true->VRL T w S φ (ye2 b) vs->(∀k,k<m->RSame (φ' k) (φ k))->VRL T w' S' φ' (ye2 b) vs
 | [],[],_,_,_,_=>trivial
 | [],_::_,_,_,h,_=>h.elim
 |_::_,[],_,_,h,_=>h.elim
 |(i,o)::r,v::s,m,c,h,a=>by
  rw [U4,X3] at c;obtain ⟨⟨g,d,e⟩,f⟩:=h;have j:i<m:=by have:=c.1;simpa [U9] using this
  exact ⟨⟨g,(a i j).1.trans d,e⟩,jq9 c.2 f a⟩
def qs2 {o sl} (h:vt5 o=some sl): ∃c,o.op=.defer c/\c.callee=.value (.tmp sl)/\c.args= #[]/\o.dst=none/\o.guard=none:=by
 unfold vt5 at h;split at h
 ·rename_i c a;split at h
  ·rename_i b d e f;simp only [X0] at h;subst h;exact ⟨c,a,b,by simpa using d,e,f⟩
  ·cases h
 ·cases h
def yo5 {R:Type} {r:R} {i:DSpec T} {g:FuncId} (b:DOk T P g i) {aS:List (AV T.U)} {a:AV T.U} {K:List (Ent T.U)->Option R} (h:jb6 i (aS++ [a]) H K=some r) (k:Sim T w0 S0 ⟨F,H⟩ F' w S φ) {vs:List Value} {v:Value} (c:VRL T w S φ aS vs) (m:VR T w S φ a v):
  ∃H1,K H1=some r/\CallsD P g vs.toArray (zw9 v) w fun e j w'=>(∃n,e=.returned n)/\j=(jz8 (zw9 v)).2/\zd2 T w0 S0 ⟨F,H1⟩ F' w':=by
 unfold jb6 at h;split at h<;>try (cases h;done)
 rename_i x l o;split at h<;>try (cases h;done)
 rename_i d;rw [X3] at d;obtain ⟨y,p,q⟩:=za8 h;obtain ⟨φ',s,t,u,z⟩:=qr4 o d.1 d.2 k (c.append (show VRL T w S φ [a] [v] from ⟨m,trivial⟩));refine ⟨_,q,(b x y p w S φ' s vs v t u).mono fun e j w' A=>?_⟩;obtain ⟨B,C,D⟩:=A;obtain ⟨S1,f,E,_⟩:=z y [] () w' [] D;exact ⟨B,C,S1,f,E⟩
def yk6 {C f fn c cuts ps rs nl d D g} (hm:P.follows .mixedOrders=true) (hE:zc5 T P C.E)
  (hf:P.funcs[f]?=some fn) (hb:fn.body=some c) (hs:Nat.ble ps.length fn.ntmps=true) (hpin:Nat.ble (zb0 ps) C.pin=true) (I:Nat.beq d.length (zb0 ps)=true) (hdr:DOk T P D.g D.dr) (hdp:DOk T P D.g D.dp)
  (hg: ∀x y,g x=some y-> ∃m,vy4 P C cuts fn c nl ps d rs D m x=some y):GOk T P f ⟨ps,d,rs,g⟩:=by
 intro x y hy w S φ hsim vs hvs hoks;obtain ⟨N,hN⟩:=hg x y hy;have I:=X1 I;have hall:(zc3 T id ps x 0).length=ps.length:=jj7 id ps x 0;have hlen:vs.length=ps.length:=by rw [<-hvs.len T];exact hall
 have hsz:vs.length<=fn.ntmps:=by rw [hlen];exact Y1 hs
 have hfr:Fr fn.ntmps [] (yx9 vs 0) {tmps:=vs.toArray++Array.replicate (fn.ntmps-vs.toArray.size) undef,defers:= []}:=by
  refine ⟨by simp;omega,rfl,fun i v hv=>?_⟩;obtain ⟨_,h2⟩:=zu5 vs 0 i v hv;simp only [J5] at h2;have hi:=(X2.1 h2).1;refine ⟨?_,by omega⟩;rw [Y7,Array.getElem?_append_left (by simpa using hi)];simp [h2]
 have U:=hsim.slots hvs hoks;have hpin1:=Y1 hpin;have Y:((List.range (zb0 ps)).map φ).length<=C.pin:=by simpa using hpin1
 generalize hR0:(fun (e:Ending) (w':World)=>match e with
   | .returned v=> ∃us,jd5 T d rs y.1 y.2 w S φ (zb0 ps) w' us/\v=zw3 us
   |_=>False)=R0
 have hcalls:Calls P f vs.toArray w R0:=by
  have hKs:KsOk (bodyPostD P fn R0) fn.ntmps [] w ⟨zc9 φ (zb0 ps),S,(List.range (zb0 ps)).map φ⟩ y (jb9 T P fn nl d rs):=by
   have key: ∀st,zw1 T P fn nl d rs st=some y-> ∀F1 w1,zd2 T w ⟨zc9 φ (zb0 ps),S,(List.range (zb0 ps)).map φ⟩ st F1 w1-> ∀a,Fr fn.ntmps [] F1 a->Leaves P fn a.tmps R0 a.defers .returning w1:=by
    intro st b F1 w1 Z a ha;obtain ⟨v,h1,us,h2,h3⟩:=yg2 I b Z ha;rw [ha.defers];exact ⟨v,h1,by subst hR0;exact ⟨us,h2,h3⟩⟩
   exact ⟨key,fun i st h=>(by cases h),key,fun a st h=>(by cases h)⟩
  refine calls_of_wp_defers hf hb (yu8 hm Y hE D.depth c _ _ _ w hN hKs ?_ ⟨S,φ,U⟩ _ hfr);clear hN U hfr hKs;intro c2 st b F1 w1 Z a ha;obtain ⟨S1,φ1,Z⟩:=Z;unfold ki0 at b;split at b<;>try (cases b;done)
  rename_i rid ops B;split at b<;>try (cases b;done)
  rename_i hdo;unfold kh9 at hdo;rw [X3] at hdo;obtain ⟨hd1,hd2⟩:=hdo;split at hd2<;>try (cases hd2;done)
  rename_i l s;split at hd2<;>try (cases hd2;done)
  rename_i sl0 hsl;have:=X1 hd2;subst this;obtain ⟨cl,hop,hcal,hargs,hdst,hgd⟩:=qs2 hsl;have j:ops.toList=ops.toList.dropLast++ [l]:=by
   have hne:ops.toList≠ []:=by intro e;rw [e] at s;cases s
   rw [List.getLast?_eq_some_getLast hne] at s;simp only [X0] at s;rw [<-s];exact (List.dropLast_concat_getLast hne).symm
  have hsize:ops.size=ops.toList.dropLast.length+1:=by
   have:=congrArg List.length j;rw [X9] at this;simpa using this
  refine wp_seq (CW.region (P:=P) (Q:=Exit.then (B.wp P (bodyPostD P fn R0)) (bodyPostD P fn R0)) (n:=fn.ntmps) (ds:= []) (F:=F1) (w:=w1) ?_ a ha);have hgen:=yl6 (w0:=w) (S0:=⟨zc9 φ (zb0 ps),S,(List.range (zb0 ps)).map φ⟩) (r:=y) (ops:=ops) (n:=fn.ntmps) (stp:=vc9 P C fun _ _=>none) (K:=vc7 P C cuts fn B nl d rs D N)
   (fun k F' w2=>(k<ops.size->WR P ops (Exit.then (B.wp P (bodyPostD P fn R0)) (bodyPostD P fn R0)) k fn.ntmps [] F' w2)/\
    (k=ops.size-> ∀fv V,F'.get D.sl=some (.func fv #[] V)->WR P ops (Exit.then (B.wp P (bodyPostD P fn R0)) (bodyPostD P fn R0)) k fn.ntmps [{target:=.fn fv V,args:= #[]}] F' w2)) ?_ ?_ ?_ ops.toList 0 rfl _ _ _ _ S1 φ1 b Z
  ·exact hgen.1 (by omega)
  ·intro k o F2 H2 F2' w2 S2 φ2 K hd hs h HK;have M:=(zi2 hd).1;have L:=(Y3.1 M).1;refine ⟨fun _=>?_,fun e=>absurd L (by omega)⟩;unfold vc9 at hs;split at hs
   ·rename_i hnd;have hne:k+1≠ops.size:=by
     intro e;have:ops.toList[k]?=some l:=by
      rw [j,Z2 (by omega),show k-ops.toList.dropLast.length=0 by omega];rfl
     rw [show ops.toList[k]?=some o by simpa using M] at this;simp only [X0] at this;subst this;rw [hop] at hnd;cases hnd
    exact zh6 hE hd hs h (fun st b F1 w1 ⟨S1,φ1,h1⟩=>(HK st b F1 w1 S1 φ1 h1).1 (by omega)) fun a st h=>(by cases h)
   ·rename_i hnd;have hko:k+1=ops.size:=by
     apply Classical.byContradiction;intro hne;have hmem:o∈ops.toList.dropLast:=by
      have h1:ops.toList[k]?=some o:=by simpa using M
      rw [j,X8 (by omega)] at h1;exact X6 h1
     have:=Y8.1 hd1 o hmem;rw [this] at hnd;cases hnd
    have hol:o=l:=by
     have:ops.toList[k]?=some l:=by
      rw [j,Z2 (by omega),show k-ops.toList.dropLast.length=0 by omega];rfl
     rw [show ops.toList[k]?=some o by simpa using M] at this;simpa using this
    subst hol;rw [hsl] at hs;simp only at hs;split at hs<;>try (cases hs;done)
    rename_i fv V hF;obtain ⟨v,W,va,vb,rfl,hv2,hv3⟩:=h.fr _ _ hF;have hva:va= #[]:=by
     have:=hv2.len T;simpa using this.symm
    subst hva;have hG:=(HK ⟨F2,H2⟩ hs F2' w2 S2 φ2 h).2 hko fv vb W;have hev:evD F2' (.tmp D.sl)=.func fv #[] vb:=by simp [evD,ev,W]
    have hrun:ye5 P ops k fn.ntmps F2' w2=some (o.dst,.ok (.defer {target:=.fn fv vb,args:= #[]}) w2):=by
     unfold ye5;rw [hd];simp [execOp,hop,resolve,hcal,hargs,hev,Deferred.ofValue]
    refine WR.defer hrun ?_;rw [hdst];exact hG
  ·intro k dst F' w2 hp hG;refine ⟨fun L=>?_,fun e=>?_⟩
   ·by_cases M:k+1<ops.size
    ·exact WR.pass1 hp (hG.1 M)
    ·exfalso;have hko:k+1=ops.size:=by omega
     unfold zy3 at hp;have:ops[k]?=some l:=by
      have:ops.toList[k]?=some l:=by
       rw [j,Z2 (by omega),show k-ops.toList.dropLast.length=0 by omega];rfl
      simpa using this
     rw [this] at hp;simp [zs1,hgd] at hp
   ·exfalso;unfold zy3 at hp;rw [Array.getElem?_eq_none (by omega)] at hp;cases hp
  ·intro k st F2' w2 S2 φ2 M b h;refine ⟨fun L=>absurd L (by omega),fun _ fv p hget=>.fin (W3 M) fun a ha=>?_⟩;show B.wp P (bodyPostD P fn R0) a w2;unfold vc7 at b;split at b<;>try (cases b;done)
   rename_i st2 htr;obtain ⟨S3,z,h3⟩:=ji2 (S0:=⟨zc9 φ (zb0 ps),S,(List.range (zb0 ps)).map φ⟩) Y ⟨S2,φ2,h⟩ htr;split at b<;>try (cases b;done)
   rename_i g0 V hF;split at b<;>try (cases b;done)
   rename_i hb;simp only [X3] at hb;obtain ⟨hb1,hb2,hb3,hb4,hb5,hb6⟩:=hb;have:=X1 hb1;subst this;have:=jq8 hb3;subst this;have hb5:=Y1 hb5;have hb6:=Y1 hb6;obtain ⟨v,W,va,vb,rfl,hv2,hv3⟩:=h3.fr _ _ hF;rw [hget] at W;simp only [X0,Value.func.injEq] at W;obtain ⟨rfl,_,rfl⟩:=W;have h3p:=h3.pinned hb6;have hphi: ∀k,k<zb0 ps->RSame (z k) (φ k):=fun k M=>(h3.pins k (φ k) (by simp [M])).1;have caps4: ∀ {X:St T} {F4:PF} {J:World} {S4:List Nat} {O:Nat->RA},Sim T w ⟨zc9 φ (zb0 ps),S,(List.range D.pin).map z⟩ X F4 J S4 O->VRL T J S4 O (ye2 D.cp) p.toList:=fun h4=>
    jq9 hb4 hv3 fun k M=>(h4.pins k (z k) (by simp [M])).1
   have back: ∀ {X:St T} {F4:PF} {J:World} {a4:Act},zw1 T P fn nl d rs X=some y->zd2 T w ⟨zc9 φ (zb0 ps),S,(List.range D.pin).map z⟩ X F4 J->Fr fn.ntmps [{target:=.fn (.func D.g) p,args:= #[]}] F4 a4-> ∃v,(results fn a4.tmps).run P J=.ok v J/\R0 (.returned v) J:=by
    intro X F4 J a4 hl A R;obtain ⟨S4,O,A⟩:=A;have hs5:=A.fewer (q:=(List.range (zb0 ps)).map φ) fun k r M=>by
     have L:=(X2.1 M).1;simp at L;simp [L] at M;subst M;have:k<D.pin:=by omega
     exact ⟨z k,by simp [this],hphi k L⟩
    obtain ⟨v,k1,us,k2,k3⟩:=yg2 I hl ⟨S4,O,hs5⟩ R;exact ⟨v,k1,by subst hR0;exact ⟨us,k2,k3⟩⟩
   have hinv: ∀J,(invoke (.fn (.func D.g) p) #[]).run P J=.ok (.enter D.g p) J:=fun J=>by simp [invoke,zw6 hb2]
   have hKs2:KsOk (bodyPostD P fn R0) fn.ntmps [{target:=.fn (.func D.g) p,args:= #[]}] w ⟨zc9 φ (zb0 ps),S,(List.range D.pin).map z⟩ y (qy3 P fn nl d rs D):=by
    have ret: ∀st,jb6 D.dr (ye2 D.cp++ [.raw .nilIface]) st.H (fun H1=>zw1 T P fn nl d rs ⟨st.F,H1⟩)=some y-> ∀F1 w1,zd2 T w ⟨zc9 φ (zb0 ps),S,(List.range D.pin).map z⟩ st F1 w1-> ∀a,Fr fn.ntmps [{target:=.fn (.func D.g) p,args:= #[]}] F1 a->Leaves P fn a.tmps R0 a.defers .returning w1:=by
     intro X G F4 J A a4 R;obtain ⟨S4,O,A⟩:=A;obtain ⟨H1,hK1,hc⟩:=yo5 hdr G A (caps4 A) (show VR T J S4 O (.raw .nilIface) .nilIface from rfl);rw [R.defers];refine ⟨by simp,_,_,_,_,rfl,hinv J,?_⟩;refine hc.mono fun e u' w' hR=>?_;obtain ⟨⟨v0,rfl⟩,rfl,hS⟩:=hR;exact back hK1 hS R
    refine ⟨ret,fun i st h=>(by cases h),ret,fun a st G=>?_⟩;intro F4 J S4 O v A hv hok a4 R;have G:(match gj6 a with|true=>jb6 D.dp (ye2 D.cp++ [a]) st.H fun H1=>zw1 T P fn nl d rs ⟨st.F,H1⟩|false=>none)=some y:=G;split at G<;>try (cases G;done)
    rename_i hif;obtain ⟨t,u,rfl⟩: ∃t u,v=.iface t u:=by
     cases a<;>try (cases hif;done)
     obtain ⟨u,rfl,_⟩:=hv;exact ⟨_,u,rfl⟩
    obtain ⟨H1,hK1,hc⟩:=yo5 hdp G A (caps4 A) hv;show Leaves P fn a4.tmps R0 a4.defers (.panicking [{v:=.iface t u,recovered:=false}]) J;rw [R.defers];refine ⟨by simp,_,_,_,_,rfl,hinv J,?_⟩;refine hc.mono fun e u' w' hR=>?_;obtain ⟨⟨v0,rfl⟩,rfl,hS⟩:=hR;exact back hK1 hS R
   exact zf2 (C:=C.at D.pin) (S0:=⟨zc9 φ (zb0 ps),S,(List.range D.pin).map z⟩) hm (show ((List.range D.pin).map z).length<=D.pin by simp) hE B [] _ st2 _ F2' w2 b hKs2 (JOk.run (C:=C.at D.pin) hm (show ((List.range D.pin).map z).length<=D.pin by simp) hE hKs2 N) ⟨S3,z,h3p⟩ a ha
 subst hR0;refine hcalls.mono fun e w' hR=>?_;cases e with
 |returned v=>
  obtain ⟨us,⟨F1,S1,φ1,k1,k2,k3⟩,k4⟩:=hR;exact ⟨F1,S1,φ1,us,k1,k2,k4,k3⟩
 |panicked ch=>exact hR.elim
 |outgrown=>exact hR.elim
end
end Go.X
namespace Go.X
open Go.RowKit Go.V
def Sh.simple:Sh->Bool
 | .val _=>true| .arr _ _=>true| .at_ _ _=>true| .ap _ _ _ _ _=>true| .nilp=>true| .rw _=>true| .own _=>true|_=>false
def qy7 {U:Nat->Type}:AV U->Bool| .raw (.slice none 0 0)=>false|_=>true
section
variable {T:Tab}
def uc7 {H} (s) (m:s.simple=true) (a l l' x) (h:rdS T H s a l=some (x,l')) (r:qy7 a=true):
  l'=l/\ ∀(d:Nat->Nat) (k:Nat),(∀p i,l[p]?=some (some i)->d p=i)->mkA T d s x k=a:=by
 cases s<;>try (cases m;done)
 ·rename_i t;unfold rdS at h;split at h<;>try (cases h;done)
  rename_i y u;simp only [X0,X7] at h;obtain ⟨rfl,rfl⟩:=h;refine ⟨rfl,fun d k _=>?_⟩;have:=vg7 u (by intro e;subst e;cases r);exact this.symm
 ·rename_i i o;unfold rdS at h;split at h<;>try (cases h;done)
  rename_i j o' g;split at h<;>try (cases h;done)
  rename_i b;simp only [X3] at b;simp only [X0,X7] at h;obtain ⟨_,rfl⟩:=h;have:=jg6 g;subst this;refine ⟨rfl,fun d k f=>?_⟩;show AV.ptr (d i) o=_;rw [f _ _ (zh1 b.2),X1 b.1]
 ·rename_i i;unfold rdS at h;split at h<;>try (cases h;done)
  rename_i j g;split at h<;>try (cases h;done)
  rename_i b;simp only [X0,X7] at h;obtain ⟨_,rfl⟩:=h;have:=jg1 g;subst this;refine ⟨rfl,fun d k f=>?_⟩;show AV.own (d i)=_;rw [f _ _ (zh1 b)]
 ·unfold rdS at h;split at h<;>try (cases h;done)
  rename_i b;simp only [X0,X7] at h;obtain ⟨_,rfl⟩:=h;have:=ql3 b;subst this;exact ⟨rfl,fun d k _=>rfl⟩
 ·rename_i t n;unfold rdS at h;split at h<;>try (cases h;done)
  rename_i xs g;simp only [X0,X7] at h;obtain ⟨rfl,rfl⟩:=h;have:=qi9 g;subst this;exact ⟨rfl,fun d k _=>rfl⟩
 ·rename_i i o sz n c;unfold rdS at h;split at h<;>try (cases h;done)
  rename_i j o' v w q c' g;split at h<;>try (cases h;done)
  rename_i b;simp only [X3] at b;simp only [X0,X7] at h;obtain ⟨rfl,rfl⟩:=h;have:=qi7 g;subst this;refine ⟨rfl,fun d k f=>?_⟩;show AV.aptr (d i) o sz n x c=_;rw [f _ _ (zh1 b.1),X1 b.2.1,X1 b.2.2.1,X1 b.2.2.2.1,X1 b.2.2.2.2]
 ·rename_i n;unfold rdS at h;split at h<;>try (cases h;done)
  rename_i b;simp only [X0,X7] at h;obtain ⟨_,rfl⟩:=h;have:=vi2 b;subst this;exact ⟨rfl,fun d k _=>rfl⟩
def vi5 {H}: ∀(d),d.all Sh.simple=true-> ∀(aS:List (AV T.U)) (l l':Src) (x:ze2 T d),zq5 T H d aS l=some (x,l')->aS.all qy7=true->
  l'=l/\ ∀(b:Nat->Nat) (k:Nat),(∀p i,l[p]?=some (some i)->b p=i)->zc3 T b d x k=aS
 | [],_,aS,l,l',x,h,_=>by
  unfold zq5 at h;split at h
  ·have h:=congrArg Prod.snd (X5 h);exact ⟨h.symm,fun _ _ _=>rfl⟩
  ·cases h
 |s::r,e,aS,l,l',x,h,f=>by
  rw [U4,X3] at e;unfold zq5 at h;split at h<;>try (cases h;done)
  rename_i a aS;rw [U4,X3] at f;split at h<;>try (cases h;done)
  rename_i y o g;obtain ⟨z,j,rfl⟩:=zo5 h;obtain ⟨rfl,m⟩:=uc7 s e.1 a _ _ y g f.1;obtain ⟨rfl,n⟩:=vi5 r e.2 aS _ _ z j f.2;refine ⟨rfl,fun b k c=>?_⟩;show mkA T b s y k::zc3 T b r z (k+s.cnt)=a::aS;rw [m b k c,n b _ c]
end
structure KSpec (T:Tab) where
 o:Nat
 e:TypeId
 cs:List Sh
 ps:List Sh
 post:List PE
 rs:List Sh
 g:ze2 T (.ptr o e cs::ps)->Option (zn7 T (.blk e cs::post)×ze2 T rs)
def KSpec.toG {T:Tab} (a:KSpec T):GSpec T:=⟨.ptr a.o a.e a.cs::a.ps,.blk a.e a.cs::a.post,a.rs,a.g⟩
def qy2 {T:Tab} (H:List (Ent T.U)):List (AV T.U)->Bool
 | .ptr i _::_=>(match H[i]? with|some (.blk _ cs)=>cs.all qy7|_=>false)
 |_=>false
def KSpec.toCall {T:Tab} (a:KSpec T) (b:CallSpec T):CallSpec T where
 call:=fun aS H K c=>match zq5 T H a.toG.ps aS [] with
  |some (x,l)=>match ze6 (zd0 l)&&yl7 T H (zd0 l) a.toG.post with
   |true=>match a.cs.all Sh.simple&&qy2 H aS with
    |true=>j7 (a.g x) fun y=>K (zl4 T (zc3 T (σJ (zd0 l) H.length) a.rs y.2 (a.toG.post.length+zh2 a.toG.post))) (zf3 T H (zd0 l).tail (mkP T (σJ (zd0 l) H.length) a.toG.post y.1 a.toG.post.length).tail++(yc4 T (σJ (zd0 l) H.length) a.toG.post y.1 a.toG.post.length++zh8 T (σJ (zd0 l) H.length) a.rs y.2 (a.toG.post.length+zh2 a.toG.post)))
    |false=>none
   |false=>none
  |none=>b.call aS H K c
 q:=b.q
 isq:=b.isq
 wr:=fun aS H=>match zq5 T H a.toG.ps aS [] with|some (_,l)=>(zd0 l).tail|none=>b.wr aS H
section
variable {T:Tab} {P:Program}
def σJ_at {ids n j i} (h:ids[j]?=some i):σJ ids n j=i:=by
 have a:=(X2.1 h).1;have:=σJ_lo (ids:=ids) (n:=n) a;rw [h] at this;exact (X5 this).symm
def KSpec.first {b:KSpec T} {aS:List (AV T.U)} {H:List (Ent T.U)} {x:ze2 T b.toG.ps} {l:Src} (d:zq5 T H b.toG.ps aS []=some (x,l)) (A:(b.cs.all Sh.simple&&qy2 H aS)=true) {y:zn7 T b.toG.post} (D:y.1=x.1) (m:Nat):
  ∃i r,zd0 l=i::r/\H[i]?=some (vx6 T (σJ (zd0 l) H.length) (.blk b.e b.cs) y.1 m):=by
 rw [X3] at A;obtain ⟨j,g⟩:=A;obtain ⟨k,E,N,_⟩:=zd8 b.toG.ps aS [] l x d;have F:l=k.map some:=by rw [E.eq];rfl
 have B:zd0 l=k:=by rw [F,ya6]
 have G:=d;unfold KSpec.toG at d;simp only at d;unfold zq5 at d;cases aS with
 |nil=>cases d
 |cons a s=>
 simp only at d;split at d<;>try (cases d;done)
 rename_i z I f;obtain ⟨J,t,rfl⟩:=zo5 d;unfold rdS at f;split at f<;>try (cases f;done)
 rename_i i o' K;have:=jg6 K;subst this;split at f<;>try (cases f;done)
 rename_i n L;split at f<;>try (cases f;done)
 have C:=zt4 L;unfold qy2 at g;simp only [C] at g;obtain ⟨u,v⟩:=vi5 b.cs j n _ _ z f g;obtain ⟨o,M,_,_⟩:=zd8 b.ps s I l J t;have w:l=some i::o.map some:=by rw [M.eq,u];rfl
 have c:zd0 l=i::o:=by rw [w];show i::zd0 (o.map some)=_;rw [ya6]
 refine ⟨i,o,c,?_⟩;rw [C];show some (Ent.blk b.e n)=some (Ent.blk b.e (zc3 T (σJ (zd0 l) H.length) b.cs y.1 m));rw [D,v _ _ fun p q h=>?_];rw [c]
 match p,h with
 |0,h=>simp at h;subst h;exact σJ_at (by simp)
 |p+1,h=>simp at h
def KSpec.call_eq {a:KSpec T} {b:CallSpec T} (o: ∀x y,a.g x=some y->y.1.1=x.1) {R:Type} {aS:List (AV T.U)} {H:List (Ent T.U)} {K j:AV T.U->List (Ent T.U)->Option R} {r:R} (h:(a.toCall b).call aS H K j=some r):
  (a.toG.toCall b).call aS H K j=some r:=by
 simp only [KSpec.toCall] at h;simp only [GSpec.toCall];split at h
 ·rename_i x l c;rw [c];simp only;split at h<;>try (cases h;done)
  rename_i p;split at h<;>try (cases h;done)
  rename_i d;obtain ⟨y,k,q⟩:=za8 h;simp only [p];have f:a.toG.g x=some y:=k;rw [f];simp only [j7];obtain ⟨i,m,s,n⟩:=KSpec.first (y:=y.1) c d (o x y k) a.toG.post.length;rw [<-q];congr 2;generalize t:σJ (zd0 l) H.length=σ at n⊢;rw [s];show zf3 T H (i::m) (vx6 T σ (.blk a.e a.cs) y.1.1 _::mkP T σ a.post y.1.2 _)=zf3 T H m (mkP T σ a.post y.1.2 _);rw [zf3];congr 1;obtain ⟨u,v⟩:=X2.1 n;rw [<-v,M1]
 ·rename_i c;rw [c];exact h
def qh8 {f} {b:KSpec T} {a} (c:GOk T P f b.toG) (d: ∀x y,b.g x=some y->y.1.1=x.1) (e:w9 T P f a):w9 T P f (b.toCall a):=
 fun aS H K h r i=>yz6 c e aS H K h r (KSpec.call_eq d i)
def wb1 {c:KSpec T} {b} (E:zp3 b):zp3 (c.toCall b):=by
 intro R aS H K F r d;simp only [KSpec.toCall] at d;split at d
 ·rename_i x l g;split at d<;>try (cases d;done)
  rename_i A;split at d<;>try (cases d;done)
  rename_i u;obtain ⟨y,G,I⟩:=za8 d;have j:=A;simp only [X3] at j;obtain ⟨m,n⟩:=zn3 j.2;refine .inl ⟨_,_,I,?_,fun B o=>by simp only [KSpec.toCall,g,A,u,G,j7]⟩;have p:(KSpec.toCall c b).wr aS H=(zd0 l).tail:=by simp only [KSpec.toCall,g]
  rw [p];have C:(mkP T (σJ (zd0 l) H.length) c.toG.post y.1 c.toG.post.length).tail.length=(zd0 l).tail.length:=by
   have J:=zq3 (T:=T) (σJ (zd0 l) H.length) c.toG.post y.1 c.toG.post.length;rw [List.length_tail,List.length_tail,m];exact congrArg (· -1) J
  refine ⟨by rw [X9,za1];omega,fun e q L=>?_,fun e ty t ys q h=>?_⟩
  ·rw [X8 (by rw [za1];exact q)];obtain ⟨f,D⟩: ∃f,(zf3 T H (zd0 l).tail (mkP T (σJ (zd0 l) H.length) c.toG.post y.1 c.toG.post.length).tail)[e]?=some f:=⟨_,Y0 (by rw [za1];exact q)⟩;rcases ze1 _ _ H C D with ⟨k,s,_⟩|⟨_,i⟩
   ·exact absurd (X6 s) L
   ·rw [D,i]
  ·rw [X8 (by rw [za1];exact q)] at h;rcases ze1 _ _ H C h with ⟨k,s,i⟩|⟨_,i⟩
   ·rw [List.getElem?_tail] at s i;exact n (k+1) e ty t s (yd8 i)
   ·exact ⟨ys,i⟩
 ·rename_i g;have p:(KSpec.toCall c b).wr aS H=b.wr aS H:=by simp only [KSpec.toCall,g]
  rcases E aS H K F r d with ⟨a,H1,v,w,z⟩|⟨a,H1,v,w,z⟩
  ·exact .inl ⟨a,H1,v,by rw [p];exact w,fun B o=>by simp only [KSpec.toCall,g,z]⟩
  ·exact .inr ⟨a,H1,v,by rw [p];exact w,fun B o=>by simp only [KSpec.toCall,g,z]⟩
def zj8 {f} {b:KSpec T} {a} (h:GOk T P f b.toG) (d: ∀x y,b.g x=some y->y.1.1=x.1) (c:w9 T P f a/\zh3 T P f a/\zp3 a):w9 T P f (b.toCall a)/\zh3 T P f (b.toCall a)/\zp3 (b.toCall a):=⟨qh8 h d c.1,c.2.1,wb1 c.2.2⟩
def CallSpec.forkH {T:Tab} (c:List (AV T.U)->List (Ent T.U)->Bool) (a b:CallSpec T):CallSpec T where
 call:=fun aS H K d=>j8 (c aS H) (a.call aS H K d) (b.call aS H K d)
 q:=fun aS H K=>j8 (c aS H) (a.q aS H K) (b.q aS H K)
 isq:=a.isq
 wr:=fun aS H=>a.wr aS H++b.wr aS H
def CallSpec.forkS {T:Tab} (ps:List Sh) (c:ze2 T ps->Bool) (a b:CallSpec T):CallSpec T:=CallSpec.forkH (fun aS H=>match zq5 T H ps aS [] with|some (x,_)=>c x|none=>false) a b
def jx4 {f} (c) {a b} (o:w9 T P f a/\zh3 T P f a/\zp3 a) (p:w9 T P f b/\zh3 T P f b/\zp3 b):w9 T P f (CallSpec.forkH c a b)/\zh3 T P f (CallSpec.forkH c a b)/\zp3 (CallSpec.forkH c a b):=by
 refine ⟨fun aS H K n r h=>?_,fun aS H K r h=>?_,fun aS H K n r h=>?_⟩
 ·rcases zh9 h with ⟨_,h⟩|⟨_,h⟩
  ·exact o.1 aS H K n r h
  ·exact p.1 aS H K n r h
 ·rcases zh9 h with ⟨_,h⟩|⟨_,h⟩
  ·exact o.2.1 aS H K r h
  ·exact p.2.1 aS H K r h
 ·have m: ∀q,c aS H=q-> ∀ {w:Type} (g d:AV T.U->List (Ent T.U)->Option w),(CallSpec.forkH c a b).call aS H g d=j8 q (a.call aS H g d) (b.call aS H g d):=fun q i _ g d=>by
   subst i;rfl
  have y:(CallSpec.forkH c a b).wr aS H=a.wr aS H++b.wr aS H:=rfl;rw [y];have kl: ∀ {H1:List (Ent T.U)},Keeps T (a.wr aS H) H H1->Keeps T (a.wr aS H++b.wr aS H) H H1:=fun h=>⟨h.len,fun e s t=>h.same e s fun u=>t (X4.2 (.inl u)),h.row⟩;have v: ∀ {H1:List (Ent T.U)},Keeps T (b.wr aS H) H H1->Keeps T (a.wr aS H++b.wr aS H) H H1:=fun h=>⟨h.len,fun e s t=>h.same e s fun u=>t (X4.2 (.inr u)),h.row⟩;cases i:c aS H with
  |true=>
   rw [m _ i] at h;have:=o.2.2 aS H K n r h;rcases this with ⟨x,H1,j,k,l⟩|⟨x,H1,j,k,l⟩
   ·exact .inl ⟨x,H1,j,kl k,fun g d=>(m _ i g d).trans (l g d)⟩
   ·exact .inr ⟨x,H1,j,kl k,fun g d=>(m _ i g d).trans (l g d)⟩
  |false=>
   rw [m _ i] at h;have:=p.2.2 aS H K n r h;rcases this with ⟨x,H1,j,k,l⟩|⟨x,H1,j,k,l⟩
   ·exact .inl ⟨x,H1,j,v k,fun g d=>(m _ i g d).trans (l g d)⟩
   ·exact .inr ⟨x,H1,j,v k,fun g d=>(m _ i g d).trans (l g d)⟩
def zb4 {f} (ps c) {a b} (d:w9 T P f a/\zh3 T P f a/\zp3 a) (e:w9 T P f b/\zh3 T P f b/\zp3 b):w9 T P f (CallSpec.forkS ps c a b)/\zh3 T P f (CallSpec.forkS ps c a b)/\zp3 (CallSpec.forkS ps c a b):=jx4 _ d e
end
end Go.X
namespace Go.X
open Go.RowKit Go.V Go.Maps
def vx5 (x:Int):List Int->List Int
 | []=> [x]
 |y::r=>if x<=y then x::y::r else y::vx5 x r
def zm7:List Int->List Int
 | []=> []
 |x::r=>vx5 x (zm7 r)
def yv3 (x): ∀l:List Int,(vx5 x l).Perm (x::l)
 | []=>.refl _
 |y::r=>by
  unfold vx5;split
  ·exact .refl _
  ·exact ((yv3 x r).cons y).trans (.swap x y r)
def zo7: ∀l:List Int,(zm7 l).Perm l
 | []=>.refl _
 |x::r=>(yv3 x _).trans ((zo7 r).cons x)
def yy6 (x): ∀ {l},l.Pairwise (· <= ·)->(vx5 x l).Pairwise (· <= ·)
 | [],_=>by simp [vx5]
 |y::r,h=>by
  unfold vx5;rw [List.pairwise_cons] at h;split
  ·rename_i a;refine List.pairwise_cons.2 ⟨fun z b=>?_,List.pairwise_cons.2 h⟩;rcases Z0.1 b with rfl|b
   ·exact a
   ·exact Int.le_trans a (h.1 z b)
  ·rename_i a;refine List.pairwise_cons.2 ⟨fun z b=>?_,yy6 x h.2⟩;rcases Z0.1 ((yv3 x r).mem_iff.1 b) with rfl|b
   ·omega
   ·exact h.1 z b
def zs0: ∀l:List Int,(zm7 l).Pairwise (· <= ·)
 | []=>.nil
 |x::r=>yy6 x (zs0 r)
def jw0: ∀ {a b:List Int},a.Perm b->a.Pairwise (· <= ·)->b.Pairwise (· <= ·)->a=b:=
 fun h c d=>List.Perm.eq_of_pairwise (le:=fun a b=>a<=b) (fun _ _ _ _ c d=>Int.le_antisymm c d) c d h
def jb0 (l):l.mergeSort (fun x y=>decide (x<=y))=zm7 l:=by
 have d: ∀a b c:Int,decide (a<=b)=true->decide (b<=c)=true->decide (a<=c)=true:=fun a b c e f=>by simp only [decide_eq_true_eq] at *;exact Int.le_trans e f
 have g: ∀a b:Int,(decide (a<=b)||decide (b<=a))=true:=fun a b=>by simp only [K1,decide_eq_true_eq];exact Int.le_total a b
 refine jw0 ((List.mergeSort_perm l _).trans (zo7 l).symm) ?_ (zs0 l);exact (List.pairwise_mergeSort d g l).imp fun h=>by simpa using h
def yp4 {α:Type} (m:List (Int×α)):Bool:=m.all (fun p=>decide (-9223372036854775808<=p.1)&&decide (p.1<=9223372036854775807))&&Nat.ble m.length 17592186044416
def zj3 {α:Type} (m:List (Int×α)):Option (((Unit×Unit)×List (Int×α)×Unit)×List Int×Unit):=match yp4 m with|true=>some ((((),()),m,()),zm7 (m.map Prod.fst),())|false=>none
section
variable {T:Tab} {P:Program}
def TR.keys {w S t}: ∀ {m l},TR T w S .i64 t m l->l.map (fun e=>e.key)=m.map fun p=>.int .i64 p.1
 | [],[],_=>rfl
 | [],_::_,h=>h.elim
 |_::_,[],h=>h.elim
 |(_,_)::_,_::_,h=>by simp [h.1,TR.keys h.2.2]
def ys5:Value->Option (DataW Unit×List MemPlace):=fun _=>some (.nil,[])
abbrev SortedCall (P:Program) (f g:FuncId) (h i:TypeId):Prop:= ∀(c b j:Nat) (d:DataW Unit) (w:World),c<w.heap.size->w.cell? ⟨c,0,none⟩=some (.map (some b))->w.ownsMap P h ys5 b j d->Maps.size d<=17592186044416->
 Calls P f #[.func (.func g) #[] #[.pointer (some ⟨c,0,none⟩)]] w fun e w'=> ∃(v:Value) (a:List Int),e=.returned v/\a.Perm (intKeys d)/\
  w'.ownsRow w.heap.size i 1 v a.length ((a.mergeSort (fun x y=>decide (x<=y))).map encZ)/\(v=.slice none 0 0↔a= [])/\Below w.heap.size w w'
def qg3 {α} {m:List (Int×α)} (h:yp4 m=true):(∀p∈m,-9223372036854775808<=p.1/\p.1<=9223372036854775807)/\m.length<=17592186044416:=by
 unfold yp4 at h;rw [X3,Y8] at h;refine ⟨fun p a=>?_,Y1 h.2⟩;have:=h.1 p a;rwa [X3,decide_eq_true_eq,decide_eq_true_eq] at this
def qh6 {f g t et mt α N} (hC:SortedCall P f g t et) (hk:P.underlying t=some (.int .i64)) {m:List (Int×α)} (hok:yp4 m=true)
  (hen: ∀ {w:World} {S:List Nat} {φ:Nat->RA},EntR T w S φ 1 N-> ∃g l c,(φ 1).ad=some ⟨g,0,none⟩/\Mp w g l c/\l.toList.map (fun e=>e.key)=m.map (fun p=>.int .i64 p.1)/\MapKept.Stamped l c) {w S φ} (k:Sim T w ⟨zc9 φ 2,S,(List.range 2).map φ⟩ ⟨[],[.blk mt [.mp 1],N]⟩ [] w S φ)
  {vs:List Value} (F:VRL T w S φ [.fn (.func g) [] [.ptr 0 0]] vs):Calls P f vs.toArray w fun e w'=>match e with
   | .returned v=> ∃(F1:PF) (S1:List Nat) (O:Nat->RA) (us:List Value),Sim T w ⟨zc9 φ 2,S,(List.range 2).map φ⟩ ⟨[],[.blk mt [.mp 1],N]++ [.row et (.int .i64) (zm7 (m.map Prod.fst))]⟩ F1 w' S1 O/\VRL T w' S1 O [.own 2] us/\v=zw3 us/\ ∀i∈v8 ([.own 2]:List (AV T.U)),i<3
   |_=>False:=by
 obtain ⟨hb,hn⟩:=qg3 hok
 match vs,F with
 | [v],F=>
  obtain ⟨va,vb,rfl,s,n⟩:=F.1;obtain ⟨Q,c0,a1,a2,a3,a4⟩:=k.ents 0 _ rfl;obtain ⟨g1,l,c1,b1,b2,d,b5⟩:=hen (k.ents 1 _ rfl);have hva:va= #[]:=by
   cases G:va.toList with
   |nil=>exact Array.toList_eq_nil_iff.1 G
   |cons _ _=>rw [G] at s;exact s.elim
  subst hva;have hvb:vb= #[.pointer (some ⟨Q,0,none⟩)]:=by
   match G:vb.toList,n with
   | [u],n=>
    obtain ⟨g',H,e2⟩:=n.1;rw [a1] at H;simp only [X0,Addr.mk.injEq,and_true] at H;subst H;rw [e2] at G;exact Array.toList_inj.1 G
  subst hvb;have hc0:w.cell? ⟨Q,0,none⟩=some (.map (some g1)):=by
   have a5:=a4.vrl T (by rfl)
   match G:c0.toList,a5 with
   | [u],a5=>
    obtain ⟨g',H,e2⟩:=a5.1;rw [b1] at H;simp only [X0,Addr.mk.injEq,and_true] at H;subst H;have:c0= #[u]:=Array.toList_inj.1 G;subst this;subst e2;unfold World.cell?;have a2:w.heap[Q]?=_:=a2;simp [a2]
  have C:m.length=l.toList.length:=by have:=congrArg List.length d;simpa using this.symm
  have z: ∀e∈l.toList,∃x:Int,e.key=.int .i64 x/\WideElems.rd P t ys5 e=some (.int .i64 x,.nil):=by
   intro e he;have hm:e.key∈l.toList.map (fun e=>e.key):=U0.2 ⟨e,he,rfl⟩;rw [d] at hm;obtain ⟨p,hp,R⟩:=U0.1 hm;have hbp:=hb p hp;refine ⟨p.1,R.symm,?_⟩;have V:keyOf P t e.key=some (.int .i64 p.1):=by
    rw [<-R];have hwf:(Lit.int .i64 p.1).wf=true:=by
     simp only [Lit.wf,IntKind.min,IntKind.max,IntKind.signed,IntKind.bits];simp;omega
    simp [keyOf,hk,mapKey,hwf]
   simp [WideElems.rd,V,ys5]
  have W:w.ownsMap P t ys5 g1 l.size (.map ((l.toList.map (WideElems.rg P t ys5)).foldr DataW.insert [])):=by
   refine ⟨l,c1,b2,⟨?_,b5,fun e he=>?_⟩,W6 _,rfl⟩
   ·rw [<-Array.length_toList,<-C];exact W9 hn (by decide)
   ·obtain ⟨x,_,hx⟩:=z e he;exact ⟨_,hx⟩
  have I:Maps.size (.map ((l.toList.map (WideElems.rg P t ys5)).foldr DataW.insert []):DataW Unit)<=17592186044416:=by
   rw [Maps.size_eq,length_sorted,V0,<-C];exact hn
  have A:(intKeys (.map ((l.toList.map (WideElems.rg P t ys5)).foldr DataW.insert []):DataW Unit)).Perm (m.map Prod.fst):=by
   show (((l.toList.map (WideElems.rg P t ys5)).foldr DataW.insert []).map fun p=>Go.intOf p.1).Perm _;refine ((WideShapes.sorted_perm _).map _).trans ?_;rw [List.map_map];have: ∀ {es:List MapEntry} {L:List (Int×α)},(∀e∈es,∃x:Int,e.key=.int .i64 x/\WideElems.rd P t ys5 e=some (.int .i64 x,.nil))->es.map (fun e=>e.key)=L.map (fun p=>Value.int .i64 p.1)->es.map ((fun p:Lit×DataW Unit=>Go.intOf p.1)∘WideElems.rg P t ys5)=L.map Prod.fst:=by
    intro es;induction es with
    |nil=>intro L _ h;cases L with|nil=>rfl|cons _ _=>cases h
    |cons e r ih=>
     intro L hr h;cases L with
     |nil=>cases h
     |cons p q=>
      simp only [W8,List.cons.injEq] at h⊢;obtain ⟨x,s,n⟩:=hr e (by simp);refine ⟨?_,ih (fun e' he'=>hr e' (by simp [he'])) h.2⟩;have hx:=h.1.symm.trans s;simp only [Value.int.injEq,true_and] at hx;simp [WideElems.rg,n,Go.intOf,hx]
   rw [this z d]
  have hlt:Q<w.heap.size:=Blk.lt a2;refine (hC Q g1 l.size _ w hlt hc0 W I).mono ?_
  rintro e w' ⟨v,X,rfl,Y,b,hnil,B⟩
  have hc:=Chg.ofBelow B;have J:X.mergeSort (fun x y=>decide (x<=y))=zm7 (m.map Prod.fst):=by
   rw [jb0];exact jw0 ((zo7 X).trans ((Y.trans A).trans (zo7 _).symm)) (zs0 _) (zs0 _)
  rw [J] at b;have Z:X.length=(zm7 (m.map Prod.fst)).length:=by rw [(Y.trans A).length_eq,(zo7 _).length_eq]
  have o: ∀S',CellsR T w' S' ((zm7 (m.map Prod.fst):List (den T.U (.int .i64))).flatMap (zc4 T (.int .i64))) ((zm7 (m.map Prod.fst)).map encZ):=by
   intro S';generalize zm7 (m.map Prod.fst)=ks;have hf:(ks:List (den T.U (.int .i64))).flatMap (zc4 T (.int .i64))=ks.map fun x:Int=>(⟨.int .i64,x⟩:Cell T.U):=by
    induction ks with
    |nil=>rfl
    |cons a r ih=>rw [W8,<-ih];rfl
   rw [hf];refine ⟨by simp,fun j c v s n=>?_⟩;rw [W0] at s n;cases M:ks[j]? with
   |none=>rw [M] at s;cases s
   |some x=>
    rw [M] at s n;simp only [Z8,X0] at s n;subst s;subst n;exact CR.int _ _
  have D: ∀i∈v8 ([.own 2]:List (AV T.U)),i<3:=by intro i hi;simp [v8,AV.ids] at hi;omega
  rcases id b.2 with ⟨rfl,hz⟩|⟨gb,cap,cur,rfl,K,hgb,r1,r2,r3,r4⟩
  ·have s:=k.pure hc;have n:=s.addG (Chg.refl [] w') (by simp) (by simp) (fun _ _ _ _ _ _=>by simp) (S':=S) (fun _ h=>h) (fun _ h=>.inl h) (r:=⟨none,0,0,[]⟩) (fun a h=>by cases yb7 h) (fun a h=>by cases yb7 h) (e:=.row et (.int .i64) (zm7 (m.map Prod.fst)))
    ⟨w.heap.size,_,by rw [w6];rw [hz] at b;exact b,by rw [w6];exact hz.symm.trans Z,hc.size,o S,fun a E=>by rw [w6] at E;cases E⟩ (fun j M=>by cases M)
   exact ⟨_,S,_,[.slice none 0 0],n,⟨by rw [VR,show ([Ent.blk mt [AV.mp 1],N]:List (Ent T.U)).length=2 from rfl,w6],trivial⟩,rfl,D⟩
  ·have hgl:=(Y3.1 hgb).1;have n:=k.add (g:=gb) (r:=⟨some ⟨gb,0,none⟩,X.length,cap,[]⟩) hc K hgl (fun a E=>yj6 E) (e:=.row et (.int .i64) (zm7 (m.map Prod.fst)))
    ⟨w.heap.size,_,by rw [w6];exact b,by rw [w6];exact Z,hc.size,o _,fun a E=>by rw [w6] at E;simp only [X0] at E;subst E;simp⟩ (fun j M=>by cases M)
   exact ⟨_,_,_,[.slice (some ⟨gb,0,none⟩) X.length cap],n,⟨by rw [VR,show ([Ent.blk mt [AV.mp 1],N]:List (Ent T.U)).length=2 from rfl,w6],trivial⟩,rfl,D⟩
def je6 {f g i j k ty} (o:SortedCall P f g i j) (p:P.underlying i=some (.int .i64)):
  GOk T P f ⟨[.fn g [] [.ptr 0 k [.tm .i64 ty]]],[.blk k [.mpo 1],.tmap .i64 ty],[.row j (.int .i64)],fun x=>zj3 x.1.2.1.1⟩:=by
 intro x y a w S φ b vs d n;have a:zj3 x.1.2.1.1=some y:=a;unfold zj3 at a;split at a<;>try (cases a;done)
 rename_i e;have a:((((),()),x.1.2.1.1,()),zm7 (x.1.2.1.1.map Prod.fst),())=y:=X5 a;subst a;refine qh6 (m:=x.1.2.1.1) o p e (fun h=>?_) b d;obtain ⟨g,l,c,q,r,_,s,t⟩:=h;exact ⟨g,l,c,q,r,s.keys,t⟩
end
end Go.X
