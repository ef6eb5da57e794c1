import Derived.Test.YtbanjakljpjknaaGreatA9
import Derived.Test.YtbanjakljpjknaaGreatA1
set_option linter.defProp false
namespace Go.X
open Go.RowKit Go.V Go.ChangeShapes Go.WideShapes Go.ChangeAt Go.Deep
inductive GoodV (T:Tab):(t:Ty)->den T.U t->Prop
 |int (k:IntKind) (x:Int) (h:k.min<=x/\x<=k.max):GoodV T (.int k) x
 |bool (b:Bool):GoodV T .bool b
 |str (s:ByteArray) (h:s.size<=maxLen):GoodV T .str s
 |list (e:Ty) (xs:List (den T.U e)) (hl:xs.length<=maxLen) (h: ∀x∈xs,∀c∈zc6 T e x,GoodV T c.t c.x):GoodV T (.list e) xs
def Good (T:Tab) (t:Ty) (x:den T.U t):Prop:= ∀c∈zc6 T t x,GoodV T c.t c.x
def yk1 (ct:Nat->List Ty):Ty->List Ty| .user i=>ct i|t=> [t]
structure Packs (T:Tab) (ct:Nat->List Ty):Prop where
 pack: ∀(i:Nat) (cl:List (Cell T.U)),cl.map (·.t)=ct i-> ∃x,T.pack i cl=some x
 size: ∀i,T.size i=(ct i).length
def ye8 (P:Program) (g:TypeId->List Ty->Bool):List Field->Nat->List Ty->Bool
 | [],_,a=>match a with| []=>true|_::_=>false
 |f::r,o,a=>Nat.beq f.offset o&&(Nat.ble (P.cellsOf f.type) a.length&&(g f.type (a.take (P.cellsOf f.type))&&ye8 P g r (o+P.cellsOf f.type) (a.drop (P.cellsOf f.type))))
def vi3 (P:Program) (ct:Nat->List Ty):Nat->TypeId->List Ty->Bool
 |0,_,_=>false
 |n+1,t,a=>match P.underlying t with
  |some (.int k)=>match a with| [.int b]=>zf9 k b&&Nat.beq (P.cellsOf t) 1|_=>false
  |some .bool=>match a with| [.bool]=>Nat.beq (P.cellsOf t) 1|_=>false
  |some .string=>match a with| [.str]=>Nat.beq (P.cellsOf t) 1|_=>false
  |some (.slice e)=>match a with| [.list ty]=>Nat.ble 1 (yk1 ct ty).length&&(Nat.beq (P.cellsOf e) (yk1 ct ty).length&&vi3 P ct n e (yk1 ct ty))|_=>false
  |some (.struct c)=>ye8 P (vi3 P ct n) c.toList 0 a
  |_=>false
section
variable {T:Tab} {P:Program} {ct:Nat->List Ty} {H:Type} {enc:TypeId×Value->H} {w:World}
def vu5 (b:Packs T ct) {ty a} (h:a.map (·.t)=yk1 ct ty): ∃x:den T.U ty,zc6 T ty x=a:=by
 have one: ∀ty:Ty,ty.one=true->a.map (·.t)= [ty]-> ∃x:den T.U ty,zc6 T ty x=a:=by
  intro ty c h
  match a,h with
  | [⟨t,x⟩],h=>
   simp only [U0,J7,List.cons.injEq,and_true] at h;subst h;exact ⟨x,ja2 T c x⟩
 cases ty with
 |user i=>
  obtain ⟨x,d⟩:=b.pack i a h;exact ⟨x,T.packed _ _ _ d⟩
 |int k=>exact one _ rfl h
 |bool=>exact one _ rfl h
 |str=>exact one _ rfl h
 |list e=>exact one _ rfl h
 |nl e=>exact one _ rfl h
def vy8 (a:Packs T ct) (ty):szT T ty=(yk1 ct ty).length:=by
 cases ty with
 |user i=>exact a.size i
 |_=>rfl
def ke3 (hp:Packs T ct): ∀(n t p),vi3 P ct n t p=true-> ∀(m:Nat) (cs:List Value) (x:DataW H×List MemPlace),DataW.trod enc P w 0 (fun _=>true) true m t cs=some x->cs.length=p.length->
  ∃O:List (Cell T.U),O.map (·.t)=p/\CellsR T w [] O cs/\ ∀c∈O,GoodV T c.t c.x:=by
 have z: ∀(c:Cell T.U) (v:Value),CR T w [] c.t c.x v->CellsR T w [] [c] [v]:=fun c v h=>⟨rfl,fun j c' v' E G=>by
  cases j with
  |zero=>simp at E G;subst E;subst G;exact h
  |succ j=>simp at E⟩
 intro n;induction n with
 |zero=>intro t p h;unfold vi3 at h;cases h
 |succ n ih=>
  intro t p h m cs x V J;unfold vi3 at h;split at h<;>try (cases h;done)
  ·rename_i k L;split at h<;>try (cases h;done)
   rename_i k';simp only [X3] at h;have:=zb6 h.1;subst this;obtain ⟨a,E,_,wa⟩:=DataW.trod_int L V;subst E;exact ⟨[⟨.int k,a⟩],rfl,z _ _ (.int k a),fun c C=>by simp at C;subst C;exact .int k a (by simpa [Lit.wf] using wa)⟩
  ·rename_i L;split at h<;>try (cases h;done)
   obtain ⟨b,E,_⟩:=DataW.trod_bool L V;subst E;exact ⟨[⟨.bool,b⟩],rfl,z _ _ (.bool b),fun c C=>by simp at C;subst C;exact .bool b⟩
  ·rename_i L;split at h<;>try (cases h;done)
   obtain ⟨s,E,_,W⟩:=DataW.trod_string L V;subst E;exact ⟨[⟨.str,s⟩],rfl,z _ _ (.str s),fun c C=>by simp at C;subst C;exact .str s W⟩
  ·rename_i e L;split at h<;>try (cases h;done)
   rename_i ty;simp only [X3] at h;obtain ⟨h1s,G,h3⟩:=h;have h1s:=Y1 h1s;have G:=X1 G;rcases DataW.trod_slice L V with ⟨rfl,_⟩|⟨a,d,cap,elems,rest,q,rfl,rfl,_,_,hl,hmx,hel,X,_,_⟩
   ·refine ⟨[⟨.list ty,([]:List (den T.U ty))⟩],rfl,z ⟨.list ty,([]:List (den T.U ty))⟩ _ CR.nilS,fun c C=>?_⟩;simp at C;subst C;exact .list ty [] (U8 _) (fun x V=>by cases V)
   ·have key: ∀i,∃y:den T.U ty,i<d->Good T ty y/\ ∃A,w.cells? 0 (a.add (i*P.cellsOf e)) (P.cellsOf e)=some A/\CellsR T w [] (zc6 T ty y) A:=by
     intro i;by_cases Y:i<d
     ·have h4:=X i Y;rw [Y0 (by omega)] at h4;obtain ⟨A,Z,h6⟩:=Option.bind_eq_some_iff.1 h4;obtain ⟨O,g1,g2,g3⟩:=ih e (yk1 ct ty) h3 _ A _ h6 (by rw [(qe4 Z).1,G]);obtain ⟨y,rfl⟩:=vu5 hp g1;exact ⟨y,fun _=>⟨g3,A,Z,g2⟩⟩
     ·exact ⟨ya7 T ty,fun h=>absurd h Y⟩
    let B:Nat->den T.U ty:=fun i=>(key i).choose
    have hB: ∀i,i<d->Good T ty (B i)/\ ∃A,w.cells? 0 (a.add (i*P.cellsOf e)) (P.cellsOf e)=some A/\CellsR T w [] (zc6 T ty (B i)) A:=fun i=>(key i).choose_spec;have hBl:((List.range d).map B).length=d:=by simp
    have K: ∀(k:Nat) (y:den T.U ty),((List.range d).map B)[k]?=some y->k<d/\y=B k:=by
     intro k y I;obtain ⟨E,G⟩:=X2.1 I;simp at E G;exact ⟨E,G.symm⟩
    have D: ∀i,i<d-> ∀(j:Nat) (c:Cell T.U),(zc6 T ty (B i))[j]?=some c-> ∃v,w.cell? ((a.add (i*P.cellsOf e)).add j)=some v/\CR T w [] c.t c.x v:=by
     intro i Y j c C;obtain ⟨_,A,Z,h6⟩:=hB i Y;have hj:=(X2.1 C).1;rw [h6.1] at hj;have F:A[j]?=some A[j]:=Y0 hj;exact ⟨_,(qe4 Z).2 j _ F,h6.2 j c _ C F⟩
    have Q:0<szT T ty-> ∀i,i<d->a.spot=none/\a.block<w.heap.size:=by
     intro hp0 i Y;have hfl:0<(zc6 T ty (B 0)).length:=by rw [za9];exact hp0
     obtain ⟨v,F,_⟩:=D 0 (by omega) 0 _ (Y0 hfl);simp only [M9,Addr.add,if_true] at F;have hblk:=World.block_lt_of_cell? w _ F;refine ⟨?_,hblk⟩;unfold World.cell? at F;split at F
     ·split at F
      ·cases F
      ·rename_i W;simpa using W
     ·cases F
    have hadd: ∀i j,a.spot=none->(a.add (i*P.cellsOf e)).add j=⟨a.block,a.off+(i*szT T ty+j),none⟩:=by
     intro i j W;obtain ⟨ab,ao,asp⟩:=a;have W:asp=none:=W;subst W;rw [vy8 hp,<-G];unfold Addr.add;split<;>split<;>simp_all<;>omega
    let u:Nat->Nat->Value:=fun k j=>(w.cell? ((a.add (k*P.cellsOf e)).add j)).getD undef
    refine ⟨[⟨.list ty,(List.range d).map B⟩],rfl,z ⟨.list ty,(List.range d).map B⟩ _ ?_,fun c C=>?_⟩
    ·
     ·have hz:0<szT T ty:=by rw [vy8 hp];omega
      have hcr:CR T w [] (.list ty) ((List.range d).map B) (.slice (some a) ((List.range d).map B).length cap):=by
       refine .list ty _ (some a) cap u (by rw [hBl];exact hl) (fun h=>by cases h) (fun hne=>?_) ?_ ?_
       ·have h0:0<d:=by
         rcases T5 d with h|h
         ·subst h;exact absurd rfl hne
         ·exact h
        obtain ⟨h7,h8⟩:=Q hz 0 h0;refine ⟨?_,h8,by simp⟩;obtain ⟨ab,ao,asp⟩:=a;have h7:asp=none:=h7;subst h7;rfl
       ·intro k j c I;cases N:((List.range d).map B)[k]? with
        |none=>rw [N] at I;cases I
        |some y=>
         rw [N] at I;simp only [Z8,X0] at I;obtain ⟨M,rfl⟩:=K k y N;obtain ⟨v,F,_⟩:=D k M j c I;obtain ⟨h7,_⟩:=Q hz k M;show w.cell? ⟨a.block,a.off+(k*szT T ty+j),none⟩=some (u k j);rw [<-hadd k j h7];show _=some ((w.cell? ((a.add (k*P.cellsOf e)).add j)).getD undef);rw [F];rfl
       ·intro k j c I;cases N:((List.range d).map B)[k]? with
        |none=>rw [N] at I;cases I
        |some y=>
         rw [N] at I;simp only [Z8,X0] at I;obtain ⟨M,rfl⟩:=K k y N;obtain ⟨v,F,hr⟩:=D k M j c I;show CR T w [] c.t c.x ((w.cell? ((a.add (k*P.cellsOf e)).add j)).getD undef);rw [F];exact hr
      rw [hBl] at hcr;exact hcr
    ·simp at C;subst C;refine .list ty _ (by rw [hBl];omega) fun y hy=>?_;obtain ⟨i,Y,rfl⟩:=U5.1 hy;exact (hB i (J3.1 Y)).1
  ·rename_i fs L;obtain ⟨xs,q,rfl,_,hcl,hxl,hf⟩:=DataW.trod_struct L V;have go: ∀(l:List Field) (o:Nat) (p:List Ty),ye8 P (vi3 P ct n) l o p=true-> ∀(i0:Nat),(∀(i:Nat) (f:Field),l[i]?=some f-> ∃y,DataW.trod enc P w 0 (fun _=>true) true q f.type ((cs.drop f.offset).take (P.cellsOf f.type))=some y)->o+p.length=cs.length->
     ∃O:List (Cell T.U),O.map (·.t)=p/\CellsR T w [] O (cs.drop o)/\ ∀c∈O,GoodV T c.t c.x:=by
    intro l;induction l with
    |nil=>
     intro o p h i0 _ J;unfold ye8 at h;split at h<;>try (cases h;done)
     refine ⟨[],rfl,⟨by simp at J;simp;omega,fun j c v h=>by simp at h⟩,fun c C=>by cases C⟩
    |cons f r ihl=>
     intro o p h i0 R J;unfold ye8 at h;simp only [X3] at h;obtain ⟨E,G,h3,h4⟩:=h;have E:=X1 E;have G:=Y1 G;obtain ⟨y,hy⟩:=R 0 f rfl;rw [E] at hy;obtain ⟨cl1,a1,a2,a3⟩:=ih f.type _ h3 q _ y hy (by rw [Y6,Y6,Q7];omega);obtain ⟨cl2,b1,b2,b3⟩:=ihl (o+P.cellsOf f.type) _ h4 0 (fun i g N=>R (i+1) g (by simpa using N)) (by rw [Q7];omega);refine ⟨cl1++cl2,by rw [V8,a1,b1,Q8],?_,fun c C=>(X4.1 C).elim (a3 c) (b3 c)⟩;have:=a2.app b2;rwa [<-List.drop_drop,Q8] at this
   have:=go fs.toList 0 p h 0 (fun i f hfi=>by
    have S:fs[i]?=some f:=by simpa using hfi
    have Z:=hf i f S;have hlt:=(Y3.1 S).1;rw [Y0 (by omega)] at Z;exact ⟨_,Z⟩) (by omega)
   simpa using this
def wm0 (P:Program) (t:TypeId):Bool:=match P.underlying t with|some (.struct _)=>false|_=>true
def openArg (u:Packs T ct) {t ty} (g: ∀i,ty≠.user i) (n) (l:vi3 P ct n t (yk1 ct ty)=true) (j:wm0 P t=true) {r base v d p} (o:Value.okWide P w r base t v) (h:DataW.Trod enc P w 0 (fun _=>true) true t v d p):
  ∃x:den T.U ty,VR T w [] (fun _=>⟨none,0,0,[]⟩) (zp6 T ty x) v/\Good T ty x:=by
 obtain ⟨m,y⟩:=h;have f:v.cells= #[v]:=by
  cases n with
  |zero=>unfold vi3 at l;cases l
  |succ n=>
   unfold vi3 at l;split at l<;>try (cases l;done)
   ·rename_i k c;obtain ⟨a,rfl⟩:=okWide_int c o;rfl
   ·rename_i c;obtain ⟨b,rfl,_⟩:=open_bool c o ⟨m,y⟩;rfl
   ·rename_i c;obtain ⟨s,rfl⟩:=okWide_string c o;rfl
   ·rename_i e c;obtain ⟨a,z,cap,rfl⟩:=okWide_slice c o;rfl
   ·rename_i D c;unfold wm0 at j;rw [c] at j;cases j
 obtain ⟨E,A,q,B⟩:=ke3 (T:=T) u n t _ l m _ _ y (by rw [f];cases ty<;>first|rfl|exact absurd rfl (g _));obtain ⟨x,rfl⟩:=vu5 u A;refine ⟨x,?_,B⟩;rw [f] at q;have C:zc6 T ty x= [⟨ty,x⟩]:=ja2 T (by cases ty<;>first|rfl|exact absurd rfl (g _)) x;rw [C] at q;have:=q.2 0 _ v rfl rfl;cases ty<;>first|exact this|exact absurd rfl (g _)
def lawRet {f:FuncId} {ps:List PT} {g:zr4 T ps->Option (zt8 T (zc5 ps) (zp7 T [.val .bool]))} (hok:vr3 T P f ⟨ps,[.val .bool],g⟩) (hio:zc5 ps= []) (hent: ∀x:zr4 T ps,zw7 T ps x= []) {x:zr4 T ps} {y:zt8 T (zc5 ps) (zp7 T [.val .bool])} (hy:g x=some y) (hl:yl5 T (zc5 ps) y=(true:Bool))
  {φ:Nat->RA} {vs:List Value} (hvs:VRL T w [] φ (yo2 T 0 ps x) vs):Calls P f vs.toArray w (zu2 w (.bool true)):=by
 have hio0:(zc5 ps).length=0:=by rw [hio];rfl
 refine (hok x y hy w [] φ vs hvs (fun b hb=>by cases hb) (fun k e hk=>by rw [show zw7 T (FnSpec.ps ⟨ps,[.val .bool],g⟩) x= [] from hent x] at hk;simp at hk) (fun j hj=>by
  have hj:j<(zc5 ps).length:=hj;omega) (fun j k hj=>by
  have hj:j<(zc5 ps).length:=hj;omega)).mono fun e w' hR=>?_
 cases e with
 |returned v=>
  obtain ⟨F1,H1,F1',S1,φ1,as1,us,g1,g2,rfl,g4,g5,g6⟩:=hR;have hchg:Chg [] w w':=by
   have:=g1.chg;rw [show zd8 φ (zc5 ps).length= [] by rw [hio0];rfl] at this;exact this
  refine ⟨hchg,?_⟩;have hlast:=(yf0 g4).1;rw [hl] at hlast
  match as1,hlast,us,g2 with
  | [a],hlast,[v],g2=>
   have hrd:qa5 T .bool a=some true:=hlast;exact (zh2 (φ:=φ1) (yg8 (t:=.bool) hrd g2.1 φ1))
  | [],hlast,_,_=>cases hlast
  |_::_::_,hlast,_,_=>cases hlast
 |panicked ch=>exact hR.elim
 |outgrown=>exact hR.elim
end
end Go.X
namespace Go.X
open Go.RowKit Go.V
structure PSpec (T:Tab) where
 ps:List Sh
 post:List PE
 rs:List Sh
 pv:Sh
 g:ze8 T ps->Option (zn9 T post×(ze8 T rs⊕ze8 T [pv]))
section
variable (T:Tab) (P:Program)
def POk (f:FuncId) (b:PSpec T):Prop:= ∀x y,b.g x=some y-> ∀(w:World) (S:List Nat) (φ:Nat->RA),Sim T w ⟨zd8 φ (zb9 b.ps),S,(List.range (zb9 b.ps)).map φ⟩ ⟨[],zh8 T id b.ps x 0⟩ [] w S φ->
 ∀vs:List Value,VRL T w S φ (zd0 T id b.ps x 0) vs->(∀a∈zd0 T id b.ps x 0,okA (zh8 T id b.ps x 0) a)->
 Calls P f vs.toArray w fun e w'=>match e with
  | .returned v=> ∃z,y.2=.inl z/\ ∃us,jn1 T b.post b.rs y.1 z w S φ (zb9 b.ps) w' us/\v=ye2 us
  | .panicked c=> ∃z,y.2=.inr z/\ ∃u,c= [{v:=u,recovered:=false}]/\jn1 T b.post [b.pv] y.1 z w S φ (zb9 b.ps) w' [u]
  | .outgrown=>False
def PSpec.toCall {T:Tab} (sp:PSpec T) (alt:CallSpec T):CallSpec T where
 call:=fun aS H K Kp=>match zq2 T H sp.ps aS [] with
  |some (x,l)=>match ze4 (zd9 l)&&ym0 T H (zd9 l) sp.post with
   |true=>j6 (sp.g x) fun y=>match y.2 with
    | .inl z=>K (zl6 T (zd0 T (σJ (zd9 l) H.length) sp.rs z (sp.post.length+zf5 sp.post))) (zh0 T H (zd9 l) (mkP T (σJ (zd9 l) H.length) sp.post y.1 sp.post.length)++(yc8 T (σJ (zd9 l) H.length) sp.post y.1 sp.post.length++zh8 T (σJ (zd9 l) H.length) sp.rs z (sp.post.length+zf5 sp.post)))
    | .inr z=>Kp (zl6 T (zd0 T (σJ (zd9 l) H.length) [sp.pv] z (sp.post.length+zf5 sp.post))) (zh0 T H (zd9 l) (mkP T (σJ (zd9 l) H.length) sp.post y.1 sp.post.length)++(yc8 T (σJ (zd9 l) H.length) sp.post y.1 sp.post.length++zh8 T (σJ (zd9 l) H.length) [sp.pv] z (sp.post.length+zf5 sp.post)))
   |false=>none
  |none=>alt.call aS H K Kp
 q:=alt.q
 isq:=alt.isq
 wr:=fun aS H=>match zq2 T H sp.ps aS [] with|some (_,l)=>zd9 l|none=>alt.wr aS H
def gq9 (nl:Nl) (b:List PE) (rs:List Sh) (c:Sh) (a:AV T.U) (st:St T):Option (zn9 T b×(ze8 T rs⊕ze8 T [c])):=
 match rdP T (zf7 T nl.bn st.H) b 0 (zp5 b 0) with
 |some (y,l)=>match zq2 T (zf7 T nl.bn st.H) [c] [a] l with
  |some (z,l')=>match zn2 l' with|true=>some (y,.inr z)|false=>none
  |none=>none
 |none=>none
def qq1 (fn:Func) (nl:Nl) (a:List PE) (rs:List Sh) (b:Sh):Ks T (zn9 T a×(ze8 T rs⊕ze8 T [b])):=
 ⟨fun st=>j6 (yi7 T P fn nl a rs st) fun y=>some (y.1,.inl y.2),fun _ _=>none,fun st=>j6 (yi7 T P fn nl a rs st) fun y=>some (y.1,.inl y.2),gq9 T nl a rs b⟩
noncomputable def yc4 (C:Ctx T) (b:List (Pos×Cut)) (fn:Func) (c:Code) (nl:Nl) (ps:List Sh) (a:List PE) (rs:List Sh) (d:Sh) (m:Nat) (x:ze8 T ps):Option (zn9 T a×(ze8 T rs⊕ze8 T [d])):=
 evC P C fn.ntmps b (run P C fn.ntmps b c (qq1 T P fn nl a rs d) m) c [] (qq1 T P fn nl a rs d) ⟨yd6 T (zd0 T id ps x 0) 0,zh8 T id ps x 0⟩
noncomputable def yu6 (C:Ctx T) (b:List (Pos×Cut)) (fn:Func) (c:Code) (nl:Nl) (a:List PE) (rs:List Sh) (d:Sh) (m:Nat) (q:Pos) (st:St T):Option (zn9 T a×(ze8 T rs⊕ze8 T [d])):=
 run P C fn.ntmps b c (qq1 T P fn nl a rs d) m q st
end
section
variable {T:Tab} {P:Program} {w w':World} {S S':List Nat} {φ φ':Nat->RA} {w0:World} {S0:Ow} {F:AF T} {H:List (Ent T.U)} {F':PF}
def ji3 {f:FuncId} {sp:PSpec T} {alt:CallSpec T} (hok:POk T P f sp) (ha:zc0 T P f alt):zc0 T P f (sp.toCall alt):=by
 intro R aS H K Kp r hr w0 S0 F F' w S φ h vs hvs has;simp only [PSpec.toCall] at hr;split at hr
 ·rename_i x l hx;split at hr
  ·rename_i hb;simp only [X3] at hb;obtain ⟨hn,hro⟩:=hb;obtain ⟨y,hy,hK⟩:=zb8 hr;obtain ⟨new,g1,g2,g3⟩:=ze7 sp.ps aS [] l x hx;have hl:l=new.map some:=by rw [g1.eq];rfl
   have hids:zd9 l=new:=by rw [hl,yn2]
   rw [hids] at hn hro hK;have hno:zn2 l=true:=by
    rw [hl];clear hK hro hids hx g1 g2 g3 hl;induction new with
    |nil=>rfl
    |cons i r ih=>
     rw [ze4,X3,V7] at hn;rw [U0,zn2,ih hn.2,Bool.and_true,V7];cases hm:qx8 i (r.map some) with
     |false=>rfl
     |true=>
      have:=yg6.1 hm;obtain ⟨j,hj,e⟩:=U5.1 this;simp only [X0] at e;subst e;rw [zc9.2 hj] at hn;exact absurd hn.1 (by simp)
   obtain ⟨q1,q2⟩:=g3 _ (yj1 hno);obtain ⟨hlen,hrow⟩:=zt7 hro;have hnewlen:new.length=zb9 sp.ps:=g2;obtain ⟨c0,x0,p0⟩:=S0;have hs:=(h.unpin.src (l:=l) hno (fun k hk=>by simp at hk) (fun i e hi he j hj=>by
    rw [hl] at hi;obtain ⟨i',hi',e'⟩:=U5.1 hi;simp only [X0] at e';subst e';obtain ⟨e0,h1,_,h3⟩:=g1.ents i' hi';rw [he] at h1;simp only [X0] at h1;subst h1;exact h3 j hj))
   rw [show zj3 T H (fun i=>yv3 i l) l=zf4 T H (fun i=>yv3 i l) new by rw [hl,zx7]] at hs;have hs:=(hs.imp q2).start;rw [zd2,<-hnewlen] at hs;have hφc: ∀k i,new[k]?=some i->φO l φ k=φ i:=fun k i hk=>φO_at (by rw [hl,W2,hk];rfl);have hvs':VRL T w S (φO l φ) (zd0 T id sp.ps x 0) vs:=q1.vrl (VRL.ren T (fun i hi=>φO_idx (g1.ids i hi)) hvs);have hoks: ∀a∈zd0 T id sp.ps x 0,okA (zh8 T id sp.ps x 0) a:=fun a ha=>ze6 (zt1 id _ _ _ a ha) fun i hi=>by
    have hi:=zi2 ha i hi;rw [show za1 (zd0 T id sp.ps x 0)=_ from q1.ids] at hi;rw [zd2,<-hnewlen];refine zl7 (fun j hj=>?_) i hi;have:=(X2.1 (zm7 (g1.ids j hj))).1;rw [hl,V1] at this;rw [hl];exact this
   have step: ∀(rs:List Sh) (z:ze8 T rs) (w':World) (us:List Value),jn1 T sp.post rs y.1 z w S (φO l φ) (zb9 sp.ps) w' us->
     ∃S1 φ2,Sim T w0 ⟨c0,x0,p0⟩ ⟨F,zh0 T H new (mkP T (σJ new H.length) sp.post y.1 sp.post.length)++(yc8 T (σJ new H.length) sp.post y.1 sp.post.length++zh8 T (σJ new H.length) rs z (sp.post.length+zf5 sp.post))⟩ F' w' S1 φ2/\VR T w' S1 φ2 (zl6 T (zd0 T (σJ new H.length) rs z (sp.post.length+zf5 sp.post))) (ye2 us)/\
      okA (zh0 T H new (mkP T (σJ new H.length) sp.post y.1 sp.post.length)++(yc8 T (σJ new H.length) sp.post y.1 sp.post.length++zh8 T (σJ new H.length) rs z (sp.post.length+zf5 sp.post))) (zl6 T (zd0 T (σJ new H.length) rs z (sp.post.length+zf5 sp.post))):=by
    intro rs z w' us hans;obtain ⟨F1,S1,φ1,k1,k2,k3⟩:=hans;rw [<-hnewlen] at k1;obtain ⟨φ2,m1,m2⟩:=h.join hn (fun i hi=>by obtain ⟨e,a,b,_⟩:=g1.ents i hi;exact ⟨e,a,b⟩) hφc k1 (by rw [zz4,hlen]) (fun k i e t ys hk hp=>hrow k i e t hk (yt0 hp));rw [jp6,V8,ja9,zj4] at m1;have hv2:VRL T w' S1 φ2 (zd0 T (σJ new H.length) rs z (sp.post.length+zf5 sp.post)) us:=by
     rw [<-zf6];rw [zz4,X9,ya4,zd2] at m2;generalize zd0 T id rs z (sp.post.length+zf5 sp.post)=as9 at k2 k3;clear m1 k1;induction as9 generalizing us with
     |nil=>cases us<;>exact k2
     |cons a r ih=>
      match us,k2 with
      |u::us,k2=>
       rw [zk5];exact ⟨m2 a u k2.1 fun i hi=>k3 i (by rw [za1];exact X4.2 (.inl hi)),ih _ k2.2 fun i hi=>k3 i (by rw [za1];exact X4.2 (.inr hi))⟩
    refine ⟨S1,φ2,m1,yg9 hv2,?_⟩;have hlt: ∀i∈za1 (zd0 T (σJ new H.length) rs z (sp.post.length+zf5 sp.post)),i<(zh0 T H new (mkP T (σJ new H.length) sp.post y.1 sp.post.length)++(yc8 T (σJ new H.length) sp.post y.1 sp.post.length++zh8 T (σJ new H.length) rs z (sp.post.length+zf5 sp.post))).length:=by
     rw [<-zf6];refine zl7 fun j hj=>?_;have hj:=k3 j hj;rw [X9,X9,zb2,ya4,zd2];by_cases hlt:j<new.length
     ·have hs:=σJ_lo (n:=H.length) hlt;obtain ⟨e,h1,_,_⟩:=g1.ents _ (X6 hs);have:=(X2.1 h1).1;omega
     ·rw [σJ_hi (by omega)];omega
    have hne:zj5 (zl6 T (zd0 T (σJ new H.length) rs z (sp.post.length+zf5 sp.post)))=true:=by
     unfold zl6;split
     ·rename_i a hl;exact zt1 (σJ new H.length) rs z _ a (by rw [hl];simp)
     ·rfl
    refine ze6 hne fun i hi=>hlt i ?_;unfold zl6 at hi;split at hi
    ·rename_i a hl;rw [hl,za1];exact X4.2 (.inl hi)
    ·rw [AV.ids] at hi;exact hi
   refine (hok x y hy w S (φO l φ) (by rw [<-hnewlen];exact hs) vs hvs' hoks).mono fun e w' hR=>?_;cases e with
   |returned v=>
    obtain ⟨z,hz,us,hans,rfl⟩:=hR;rw [hz] at hK;exact ⟨_,_,hK,step _ z w' us hans⟩
   |panicked ch=>
    obtain ⟨z,hz,u,rfl,hans⟩:=hR;rw [hz] at hK;exact ⟨_,_,hK,u,rfl,step _ z w' [u] hans⟩
   |outgrown=>exact hR.elim
  ·cases hr
 ·exact ha aS H K Kp r hr w0 S0 F F' w S φ h vs hvs has
def uh1 {sp:PSpec T} {alt:CallSpec T} (ha:yj9 alt):yj9 (sp.toCall alt):=by
 intro R aS H K Kp r hr;simp only [PSpec.toCall] at hr;split at hr
 ·rename_i x l hx;split at hr
  ·rename_i hb;obtain ⟨y,hy,hK⟩:=zb8 hr;simp only [X3] at hb;obtain ⟨hlen,hrow⟩:=zt7 hb.2;have hw:(PSpec.toCall sp alt).wr aS H=zd9 l:=by simp only [PSpec.toCall,hx]
   rw [hw];have hl:(mkP T (σJ (zd9 l) H.length) sp.post y.1 sp.post.length).length=(zd9 l).length:=by rw [zz4,hlen]
   have keeps: ∀(N:List (Ent T.U)),Keeps T (zd9 l) H (zh0 T H (zd9 l) (mkP T (σJ (zd9 l) H.length) sp.post y.1 sp.post.length)++N):=by
    intro N;refine ⟨by rw [X9,zb2];omega,fun e he hn=>?_,fun e ty t ys he h=>?_⟩
    ·rw [X8 (by rw [zb2];exact he)];obtain ⟨f,hf⟩: ∃f,(zh0 T H (zd9 l) (mkP T (σJ (zd9 l) H.length) sp.post y.1 sp.post.length))[e]?=some f:=⟨_,Y0 (by rw [zb2];exact he)⟩;rcases zh3 _ _ H hl hf with ⟨k,g1,_⟩|⟨_,g2⟩
     ·exact absurd (X6 g1) hn
     ·rw [hf,g2]
    ·rw [X8 (by rw [zb2];exact he)] at h;rcases zh3 _ _ H hl h with ⟨k,g1,g2⟩|⟨_,g2⟩
     ·exact hrow k e ty t g1 (yt0 g2)
     ·exact ⟨ys,g2⟩
   cases hz:y.2 with
   |inr z=>
    rw [hz] at hK;exact .inr ⟨_,_,hK,keeps _,fun K' Kp'=>by simp only [PSpec.toCall,hx,hb.1,hb.2,V2,hy,j6,hz]⟩
   |inl z=>
    rw [hz] at hK;exact .inl ⟨_,_,hK,keeps _,fun K' Kp'=>by simp only [PSpec.toCall,hx,hb.1,hb.2,V2,hy,j6,hz]⟩
  ·cases hr
 ·rename_i hx;have hw:(PSpec.toCall sp alt).wr aS H=alt.wr aS H:=by simp only [PSpec.toCall,hx]
  rcases ha aS H K Kp r hr with ⟨a,H1,h1,h2,h3⟩|⟨a,H1,h1,h2,h3⟩
  ·exact .inl ⟨a,H1,h1,by rw [hw];exact h2,fun K' Kp'=>by simp only [PSpec.toCall,hx,h3]⟩
  ·exact .inr ⟨a,H1,h1,by rw [hw];exact h2,fun K' Kp'=>by simp only [PSpec.toCall,hx,h3]⟩
def zg5 {C:Ctx T} {f:FuncId} {fn:Func} {c:Code} {cuts:List (Pos×Cut)} {ps rs:List Sh} {nl:Nl} {post:List PE} {pv:Sh} {g:ze8 T ps->Option (zn9 T post×(ze8 T rs⊕ze8 T [pv]))} (hm:P.follows .mixedOrders=true) (hE:zb1 T P C.E)
  (hf:P.funcs[f]?=some fn) (hb:fn.body=some c) (hs:Nat.ble ps.length fn.ntmps=true) (hpin:Nat.ble (zb9 ps) C.pin=true) (hpost:Nat.beq post.length (zb9 ps)=true)
  (hg: ∀x y,g x=some y-> ∃m,yc4 T P C cuts fn c nl ps post rs pv m x=some y):POk T P f ⟨ps,post,rs,pv,g⟩:=by
 intro x y hy w S φ hsim vs hvs hoks;obtain ⟨N,hN⟩:=hg x y hy;have hpost:=X1 hpost;have hall:(zd0 T id ps x 0).length=ps.length:=by
  have: ∀(l:List Sh) (x:ze8 T l) (k:Nat),(zd0 T id l x k).length=l.length:=by
   intro l;induction l with
   |nil=>intro x k;rfl
   |cons s r ih=>intro x k;exact congrArg (· +1) (ih x.2 _)
  exact this ps x 0
 have hlen:vs.length=ps.length:=by rw [<-hvs.len T];exact hall
 have hsz:vs.length<=fn.ntmps:=by rw [hlen];exact Y1 hs
 have hfr:Fr fn.ntmps [] (jm8 vs 0) {tmps:=vs.toArray++Array.replicate (fn.ntmps-vs.toArray.size) undef,defers:= []}:=by
  refine ⟨by simp;omega,rfl,fun i v hv=>?_⟩;obtain ⟨_,h2⟩:=yf4 vs 0 i v hv;simp only [M4] at h2;have hi:=(X2.1 h2).1;refine ⟨?_,by omega⟩;rw [Y7,Array.getElem?_append_left (by simpa using hi)];simp [h2]
 have hstart:=hsim.slots hvs hoks;have hpin':((List.range (zb9 ps)).map φ).length<=C.pin:=by simpa using Y1 hpin
 have key: ∀st y',yi7 T P fn nl post rs st=some y'-> ∀F1 w1,zd1 T w ⟨zd8 φ (zb9 ps),S,(List.range (zb9 ps)).map φ⟩ st F1 w1-> ∀a,Fr fn.ntmps [] F1 a-> ∃v,(results fn a.tmps).run P w1=.ok v w1/\
   ∃us,jn1 T post rs y'.1 y'.2 w S φ (zb9 ps) w1 us/\v=ye2 us:=by
  intro st0 y' hst F1 w1 hsm0 a ha;exact ja8 hpost hst hsm0 ha
 have hKs:KsOk (bodyPost P fn fun e w'=>match e with
   | .returned v=> ∃z,y.2=.inl z/\ ∃us,jn1 T post rs y.1 z w S φ (zb9 ps) w' us/\v=ye2 us
   | .panicked ch=> ∃z,y.2=.inr z/\ ∃u,ch= [{v:=u,recovered:=false}]/\jn1 T post [pv] y.1 z w S φ (zb9 ps) w' [u]
   | .outgrown=>False) fn.ntmps [] w ⟨zd8 φ (zb9 ps),S,(List.range (zb9 ps)).map φ⟩ y (qq1 T P fn nl post rs pv):=by
  refine ⟨?_,fun i st h=>(by cases h),?_,fun a st h=>?_⟩
  ·intro st hst F1 w1 hs1 a ha;obtain ⟨y',hy',he⟩:=zb8 hst;simp only [X0] at he;obtain ⟨v,h1,us,h2,h3⟩:=key st y' hy' F1 w1 hs1 a ha;subst he;exact ⟨ha.defers,v,h1,_,rfl,us,h2,h3⟩
  ·intro st hst F1 w1 hs1 a ha;obtain ⟨y',hy',he⟩:=zb8 hst;simp only [X0] at he;obtain ⟨v,h1,us,h2,h3⟩:=key st y' hy' F1 w1 hs1 a ha;subst he;exact ⟨ha.defers,v,h1,_,rfl,us,h2,h3⟩
  ·intro F1 w1 S1 φ1 u hsm hvr hok act ha;have h:gq9 T nl post rs pv a st=some y:=h;obtain ⟨φ1,hsm,hvr,_⟩:=zj1 nl.bn hsm (aS:= [a]) (us:= [u]) ⟨hvr,trivial⟩ (fun i hi=>hok.1 i (by simpa [za1] using hi));unfold gq9 at h;split at h<;>try (cases h;done)
   rename_i y1 l1 h1;split at h<;>try (cases h;done)
   rename_i z l2 h2;split at h<;>try (cases h;done)
   rename_i hn;simp only [X0] at h;subst h;exact ⟨ha.defers,z,rfl,u,rfl,vm1 hpost h1 h2 hn hsm hvr⟩
 exact calls_of_wp hf hb (zg0 hm hpin' hE c [] _ _ _ _ w hN hKs (JOk.run hm hpin' hE hKs N) ⟨S,φ,hstart⟩ _ hfr)
def za6 {f b a} (h:POk T P f b) (c:zc0 T P f a/\zl5 T P f a/\yj9 a):zc0 T P f (b.toCall a)/\zl5 T P f (b.toCall a)/\yj9 (b.toCall a):=⟨ji3 h c.1,c.2.1,uh1 c.2.2⟩
end
end Go.X
namespace Go.X
open Go.RowKit Go.V
section
variable {T:Tab} {P:Program} {w w':World} {S S':List Nat} {φ φ':Nat->RA} {w0:World} {S0:Ow} {F:AF T} {H:List (Ent T.U)} {F':PF}
def vf1 {ps:List Sh} {post:List PE} {aS:List (AV T.U)} {x:ze8 T ps} {l:Src} (hx:zq2 T H ps aS []=some (x,l)) (hn:ze4 (zd9 l)=true) (hro:ym0 T H (zd9 l) post=true) (h:Sim T w0 S0 ⟨F,H⟩ F' w S φ) {vs:List Value} (hvs:VRL T w S φ aS vs):
  ∃φ',Sim T w ⟨zd8 φ' (zb9 ps),S,(List.range (zb9 ps)).map φ'⟩ ⟨[],zh8 T id ps x 0⟩ [] w S φ'/\VRL T w S φ' (zd0 T id ps x 0) vs/\(∀a∈zd0 T id ps x 0,okA (zh8 T id ps x 0) a)/\
   ∀(y1:zn9 T post) (rs:List Sh) (z:ze8 T rs) (w':World) (us:List Value),jn1 T post rs y1 z w S φ' (zb9 ps) w' us->
    ∃S1 φ2,Sim T w0 S0 ⟨F,zh0 T H (zd9 l) (mkP T (σJ (zd9 l) H.length) post y1 post.length)++(yc8 T (σJ (zd9 l) H.length) post y1 post.length++zh8 T (σJ (zd9 l) H.length) rs z (post.length+zf5 post))⟩ F' w' S1 φ2/\VR T w' S1 φ2 (zl6 T (zd0 T (σJ (zd9 l) H.length) rs z (post.length+zf5 post))) (ye2 us)/\
     okA (zh0 T H (zd9 l) (mkP T (σJ (zd9 l) H.length) post y1 post.length)++(yc8 T (σJ (zd9 l) H.length) post y1 post.length++zh8 T (σJ (zd9 l) H.length) rs z (post.length+zf5 post))) (zl6 T (zd0 T (σJ (zd9 l) H.length) rs z (post.length+zf5 post))):=by
 obtain ⟨new,g1,g2,g3⟩:=ze7 ps aS [] l x hx;have hl:l=new.map some:=by rw [g1.eq];rfl
 have hids:zd9 l=new:=by rw [hl,yn2]
 rw [hids] at hn hro⊢;have hno:zn2 l=true:=by
  rw [hl];clear hro hids hx g1 g2 g3 hl;induction new with
  |nil=>rfl
  |cons i r ih=>
   rw [ze4,X3,V7] at hn;rw [U0,zn2,ih hn.2,Bool.and_true,V7];cases hm:qx8 i (r.map some) with
   |false=>rfl
   |true=>
    have:=yg6.1 hm;obtain ⟨j,hj,e⟩:=U5.1 this;simp only [X0] at e;subst e;rw [zc9.2 hj] at hn;exact absurd hn.1 (by simp)
 obtain ⟨q1,q2⟩:=g3 _ (yj1 hno);obtain ⟨hlen,hrow⟩:=zt7 hro;have hnewlen:new.length=zb9 ps:=g2;obtain ⟨c0,x0,p0⟩:=S0;have hs:=(h.unpin.src (l:=l) hno (fun k hk=>by simp at hk) (fun i e hi he j hj=>by
  rw [hl] at hi;obtain ⟨i',hi',e'⟩:=U5.1 hi;simp only [X0] at e';subst e';obtain ⟨e0,h1,_,h3⟩:=g1.ents i' hi';rw [he] at h1;simp only [X0] at h1;subst h1;exact h3 j hj))
 rw [show zj3 T H (fun i=>yv3 i l) l=zf4 T H (fun i=>yv3 i l) new by rw [hl,zx7]] at hs;have hs:=(hs.imp q2).start;rw [zd2,<-hnewlen] at hs;have hφc: ∀k i,new[k]?=some i->φO l φ k=φ i:=fun k i hk=>φO_at (by rw [hl,W2,hk];rfl);have hvs':VRL T w S (φO l φ) (zd0 T id ps x 0) vs:=q1.vrl (VRL.ren T (fun i hi=>φO_idx (g1.ids i hi)) hvs);have hoks: ∀a∈zd0 T id ps x 0,okA (zh8 T id ps x 0) a:=fun a ha=>ze6 (zt1 id _ _ _ a ha) fun i hi=>by
  have hi:=zi2 ha i hi;rw [show za1 (zd0 T id ps x 0)=_ from q1.ids] at hi;rw [zd2,<-hnewlen];refine zl7 (fun j hj=>?_) i hi;have:=(X2.1 (zm7 (g1.ids j hj))).1;rw [hl,V1] at this;rw [hl];exact this
 refine ⟨φO l φ,by rw [<-hnewlen];exact hs,hvs',hoks,?_⟩;intro y1 rs z w' us hans;obtain ⟨F1,S1,φ1,k1,k2,k3⟩:=hans;rw [<-hnewlen] at k1;obtain ⟨φ2,m1,m2⟩:=h.join hn (fun i hi=>by obtain ⟨e,a,b,_⟩:=g1.ents i hi;exact ⟨e,a,b⟩) hφc k1 (by rw [zz4,hlen]) (fun k i e t ys hk hp=>hrow k i e t hk (yt0 hp));rw [jp6,V8,ja9,zj4] at m1;have hv2:VRL T w' S1 φ2 (zd0 T (σJ new H.length) rs z (post.length+zf5 post)) us:=by
  rw [<-zf6];rw [zz4,X9,ya4,zd2] at m2;generalize zd0 T id rs z (post.length+zf5 post)=as9 at k2 k3;clear m1 k1;induction as9 generalizing us with
  |nil=>cases us<;>exact k2
  |cons a r ih=>
   match us,k2 with
   |u::us,k2=>
    rw [zk5];exact ⟨m2 a u k2.1 fun i hi=>k3 i (by rw [za1];exact X4.2 (.inl hi)),ih _ k2.2 fun i hi=>k3 i (by rw [za1];exact X4.2 (.inr hi))⟩
 refine ⟨S1,φ2,m1,yg9 hv2,?_⟩;have hlt: ∀i∈za1 (zd0 T (σJ new H.length) rs z (post.length+zf5 post)),i<(zh0 T H new (mkP T (σJ new H.length) post y1 post.length)++(yc8 T (σJ new H.length) post y1 post.length++zh8 T (σJ new H.length) rs z (post.length+zf5 post))).length:=by
  rw [<-zf6];refine zl7 fun j hj=>?_;have hj:=k3 j hj;rw [X9,X9,zb2,ya4,zd2];by_cases hlt:j<new.length
  ·have hs:=σJ_lo (n:=H.length) hlt;obtain ⟨e,h1,_,_⟩:=g1.ents _ (X6 hs);have:=(X2.1 h1).1;omega
  ·rw [σJ_hi (by omega)];omega
 have hne:zj5 (zl6 T (zd0 T (σJ new H.length) rs z (post.length+zf5 post)))=true:=by
  unfold zl6;split
  ·rename_i a hl;exact zt1 (σJ new H.length) rs z _ a (by rw [hl];simp)
  ·rfl
 refine ze6 hne fun i hi=>hlt i ?_;unfold zl6 at hi;split at hi
 ·rename_i a hl;rw [hl,za1];exact X4.2 (.inl hi)
 ·rw [AV.ids] at hi;exact hi
def Sim.fewer {c x p q st} (h:Sim T w0 ⟨c,x,p⟩ st F' w S φ) (b: ∀(k:Nat) (r:RA),q[k]?=some r-> ∃a,p[k]?=some a/\RSame a r):Sim T w0 ⟨c,x,q⟩ st F' w S φ:=
 ⟨h.fr,h.ids,h.chg,h.own,h.ex,h.lives,fun k r d=>(b k r d).elim fun a q=>⟨(h.pins k a q.1).1.trans q.2,(h.pins k a q.1).2⟩,h.ents,h.eids,h.apart⟩
def Sim.pinned {c x p st} (h:Sim T w0 ⟨c,x,p⟩ st F' w S φ) {m} (d:m<=st.H.length):Sim T w0 ⟨c,x,(List.range m).map φ⟩ st F' w S φ:=
 ⟨h.fr,h.ids,h.chg,h.own,h.ex,h.lives,fun k r b=>by
  have a:=(X2.1 b).1;simp at a;simp [a] at b;exact ⟨.of b,by omega⟩,h.ents,h.eids,h.apart⟩
end
structure DSpec (T:Tab) where
 ps:List Sh
 rv:Sh
 post:List PE
 g:ze8 T (ps++ [rv])->Option (zn9 T post)
def yc0:Value->FrameMode
 | .nilIface=>.returning
 |v=>.panicking [{v:=v,recovered:=false}]
def DOk (T:Tab) (P:Program) (f:FuncId) (b:DSpec T):Prop:=
 ∀x y,b.g x=some y-> ∀(w:World) (S:List Nat) (φ:Nat->RA),Sim T w ⟨zd8 φ (zb9 (b.ps++ [b.rv])),S,(List.range (zb9 (b.ps++ [b.rv]))).map φ⟩ ⟨[],zh8 T id (b.ps++ [b.rv]) x 0⟩ [] w S φ->
 ∀(vs:List Value) (v:Value),VRL T w S φ (zd0 T id (b.ps++ [b.rv]) x 0) (vs++ [v])->(∀a∈zd0 T id (b.ps++ [b.rv]) x 0,okA (zh8 T id (b.ps++ [b.rv]) x 0) a)->
 CallsD P f vs.toArray (yc0 v) w fun e c w'=>(∃d,e=.returned d)/\c=(qm8 (yc0 v)).2/\jn1 T b.post [] y () w S φ (zb9 (b.ps++ [b.rv])) w' []
section
variable {T:Tab} (P:Program)
def qp9 (a:List PE) (st:St T):Option (zn9 T a):=match rdP T st.H a 0 (zp5 a 0) with|some (y,l)=>(match zn2 l with|true=>some y|false=>none)|none=>none
def ql1 (a:List PE):Ks T (zn9 T a):=⟨qp9 a,fun _ _=>none,qp9 a,fun _ _=>none⟩
noncomputable def yq9 (C:Ctx T) (fn:Func) (c:Code) (ps:List Sh) (e:Sh) (b:List PE) (x:ze8 T (ps++ [e])):Option (zn9 T b):=
 match c with
 | .seq (.region _ ops false) rest=>match ko0 ops,(zd0 T id (ps++ [e]) x 0)[ps.length]? with
  |some d,some a=>(match zk1 fn.ntmps (some d) with
   |true=>vc4 (fun o st K=>stepA P C o st K fun _ _=>none) ops fn.ntmps (evC P C fn.ntmps [] (fun _ _=>none) rest [] (ql1 b)) (ops.toList.drop 1) ⟨(d,a)::yd6 T ((zd0 T id (ps++ [e]) x 0).take ps.length) 0,zh8 T id (ps++ [e]) x 0⟩
   |false=>none)
  |_,_=>none
 |_=>none
def jk2 {R:Type} (sp:DSpec T) (aS:List (AV T.U)) (H:List (Ent T.U)) (K:List (Ent T.U)->Option R):Option R:=
 match zq2 T H (sp.ps++ [sp.rv]) aS [] with
 |some (x,l)=>match ze4 (zd9 l)&&ym0 T H (zd9 l) sp.post with
  |true=>j6 (sp.g x) fun y=>K (zh0 T H (zd9 l) (mkP T (σJ (zd9 l) H.length) sp.post y sp.post.length)++(yc8 T (σJ (zd9 l) H.length) sp.post y sp.post.length++zh8 T (σJ (zd9 l) H.length) [] () (sp.post.length+zf5 sp.post)))
  |false=>none
 |none=>none
structure DefP (T:Tab) where
 depth:Nat
 sl:Nat
 live:List Nat
 pin:Nat
 g:FuncId
 cp:List (Nat×Nat)
 dr:DSpec T
 dp:DSpec T
def yk8 {U:Nat->Type}:List (Nat×Nat)->List (AV U)
 | []=> []
 |(i,o)::r=>.ptr i o::yk8 r
def qo0 {U:Nat->Type}:List (Nat×Nat)->List (AV U)->Bool
 | [],[]=>true
 |(i,o)::r,.ptr j p::s=>Nat.beq i j&&(Nat.beq o p&&qo0 r s)
 |_,_=>false
def wk8 {U:Nat->Type}:AV U->Bool| .ifc _ _=>true|_=>false
def qq0 (fn:Func) (nl:Nl) (b:List PE) (rs:List Sh) (D:DefP T):Ks T (zn9 T b×ze8 T rs):=
 let c:=fun (st:St T)=>jk2 D.dr (yk8 D.cp++ [.raw .nilIface]) st.H fun H1=>yi7 T P fn nl b rs ⟨st.F,H1⟩
 ⟨c,fun _ _=>none,c,fun a st=>match wk8 a with|true=>jk2 D.dp (yk8 D.cp++ [a]) st.H fun H1=>yi7 T P fn nl b rs ⟨st.F,H1⟩|false=>none⟩
def gk2:Op->Bool| .defer _=>false|_=>true
def kk9 (o:Oper):Option Nat:=match o.op with| .defer c=>(match c.callee,c.args.toList,o.dst,o.guard with| .value (.tmp t),[],none,none=>some t|_,_,_,_=>none)|_=>none
def gg7 (ops:Array Oper) (sl:Nat):Bool:=(ops.toList.dropLast.all fun o=>gk2 o.op)&&(match ops.toList.getLast? with|some o=>(match kk9 o with|some t=>Nat.beq t sl|none=>false)|none=>false)
def vr1 {R:Type} (C:Ctx T) (a:AV T.U->St T->Option R) (o:Oper) (st:St T) (K:St T->Option R):Option R:=match gk2 o.op with|true=>stepA P C o st K a|false=>(match kk9 o with|some t=>(match st.F.get T t with|some (.fn _ [] _)=>K st|_=>none)|none=>none)
def Ctx.at (C:Ctx T) (m:Nat):Ctx T:=⟨C.ty,C.E,m,C.ms,C.lay,C.dr,C.pm⟩
noncomputable def vr0 (C:Ctx T) (b:List (Pos×Cut)) (fn:Func) (B:Code) (nl:Nl) (a:List PE) (rs:List Sh) (D:DefP T) (m:Nat) (st:St T):Option (zn9 T a×ze8 T rs):=
 match uf4 T C.pin D.live st with
 |some c=>match c.F.get T D.sl with
  |some (.fn (.func g) [] d)=>match Nat.beq g D.g&&(zs6 P g&&(qo0 D.cp d&&((D.cp.all fun p=>Nat.blt p.1 D.pin)&&(Nat.ble C.pin D.pin&&Nat.ble D.pin c.H.length)))) with
   |true=>evC P (C.at D.pin) fn.ntmps b (run P (C.at D.pin) fn.ntmps b B (qq0 P fn nl a rs D) m) B [] (qq0 P fn nl a rs D) c
   |false=>none
  |_=>none
 |none=>none
noncomputable def gg8 (C:Ctx T) (b:List (Pos×Cut)) (fn:Func) (nl:Nl) (a:List PE) (rs:List Sh) (D:DefP T) (m:Nat) (c:Code) (st:St T):Option (zn9 T a×ze8 T rs):=
 match c with
 | .seq (.region _ ops false) B=>match gg7 ops D.sl with
  |true=>vc4 (vr1 P C fun _ _=>none) ops fn.ntmps (vr0 P C b fn B nl a rs D m) ops.toList st
  |false=>none
 |_=>none
noncomputable def evS {R:Type} (C:Ctx T) (n:Nat) (K:Ks T R) (K2:Code->St T->Option R):Nat->Code->St T->Option R
 |0,c,st=>K2 c st
 |k+1,.seq x y,st=>evC P C n [] (fun _ _=>none) x [] (K.behind fun st=>evS C n K K2 k y st) st
 |_+1,_,_=>none
def vs5:Nat->Code->Code
 |0,.seq _ B=>B
 |k+1,.seq _ y=>vs5 k y
 |_,_=>.skip
noncomputable def kq0 (C:Ctx T) (b:List (Pos×Cut)) (fn:Func) (c:Code) (nl:Nl) (ps:List Sh) (a:List PE) (rs:List Sh) (D:DefP T) (m:Nat) (x:ze8 T ps):Option (zn9 T a×ze8 T rs):=
 evS P C fn.ntmps (jl2 T P fn nl a rs) (gg8 P C b fn nl a rs D m) D.depth c ⟨yd6 T (zd0 T id ps x 0) 0,zh8 T id ps x 0⟩
noncomputable def cutD (C:Ctx T) (b:List (Pos×Cut)) (fn:Func) (c:Code) (nl:Nl) (a:List PE) (rs:List Sh) (D:DefP T) (m:Nat) (q:Pos) (st:St T):Option (zn9 T a×ze8 T rs):=
 run P (C.at D.pin) fn.ntmps b (vs5 D.depth c) (qq0 P fn nl a rs D) m q st
end
section
variable {T:Tab} {P:Program} {w w':World} {S S':List Nat} {φ φ':Nat->RA} {w0:World} {S0:Ow} {F:AF T} {H:List (Ent T.U)} {F':PF}
def VRL.snoc_inv {aS:List (AV T.U)} {a:AV T.U}: ∀ {vs:List Value} {v:Value},VRL T w S φ (aS++ [a]) (vs++ [v])->VRL T w S φ aS vs/\VR T w S φ a v:=by
 induction aS with
 |nil=>
  intro vs v h
  match vs,h with
  | [],h=>exact ⟨trivial,h.1⟩
  |u::vs,h=>exact absurd (h.2.len T) (by simp)
 |cons b r ih=>
  intro vs v h
  match vs,h with
  | [],h=>exact absurd (VRL.len T h) (by simp)
  |u::vs,h=>obtain ⟨h1,h2⟩:=ih h.2;exact ⟨⟨h.1,h1⟩,h2⟩
def ju9 (a): ∀(l x k),(zd0 T a l x k).length=l.length
 | [],x,k=>rfl
 |s::r,x,k=>congrArg (· +1) (ju9 a r x.2 _)
def vy0 {fn} (b:fn.results.isEmpty=true) (a w):(results fn a).run P w=.ok (.tuple #[]) w:=by
 have:fn.results= #[]:=by simpa using b
 unfold results;rw [this,T7];simp [Sem.run_bind,Sem.run_map]
def yf7 {C:Ctx T} {f:FuncId} {fn:Func} {c:Code} {ps:List Sh} {rv:Sh} {post:List PE} {g:ze8 T (ps++ [rv])->Option (zn9 T post)} (hm:P.follows .mixedOrders=true) (hE:zb1 T P C.E)
  (hf:P.funcs[f]?=some fn) (hb:fn.body=some c) (hs:Nat.ble ps.length fn.ntmps=true) (hpin:Nat.ble (zb9 (ps++ [rv])) C.pin=true) (hpost:Nat.beq post.length (zb9 (ps++ [rv]))=true) (hres:fn.results.isEmpty=true)
  (hg: ∀x y,g x=some y->yq9 P C fn c ps rv post x=some y):DOk T P f ⟨ps,rv,post,g⟩:=by
 intro x y hy w S φ hsim vs v hvs hoks;have hN:=hg x y hy;have hpost:=X1 hpost;have hall:(zd0 T id (ps++ [rv]) x 0).length=ps.length+1:=by rw [ju9];simp
 unfold yq9 at hN;split at hN<;>try (cases hN;done)
 rename_i rid ops rest;split at hN<;>try (cases hN;done)
 rename_i d a hd ha;split at hN<;>try (cases hN;done)
 rename_i hdn;simp only at hvs hoks hsim;have hsplit:zd0 T id (ps++ [rv]) x 0=(zd0 T id (ps++ [rv]) x 0).take ps.length++ [a]:=by
  conv=>lhs;rw [<-List.take_append_drop ps.length (zd0 T id (ps++ [rv]) x 0)]
  congr 1;obtain ⟨hlt,hg⟩:=X2.1 ha;rw [J8 hlt,hg,N7 (by omega)]
 rw [hsplit] at hvs;obtain ⟨hv1,hv2⟩:=hvs.snoc_inv;have hlen:vs.length=ps.length:=by rw [<-hv1.len T,Y6,hall];omega
 have hsz:vs.length<=fn.ntmps:=by rw [hlen];exact Y1 hs
 have hfr:Fr fn.ntmps [] (jm8 vs 0) {tmps:=vs.toArray++Array.replicate (fn.ntmps-vs.toArray.size) undef,defers:= []}:=by
  refine ⟨by simp;omega,rfl,fun i v hv=>?_⟩;obtain ⟨_,h2⟩:=yf4 vs 0 i v hv;simp only [M4] at h2;have hi:=(X2.1 h2).1;refine ⟨?_,by omega⟩;rw [Y7,Array.getElem?_append_left (by simpa using hi)];simp [h2]
 have hstart:=hsim.slots hv1 (fun b hb=>hoks b (J6 hb));have hpin':((List.range (zb9 (ps++ [rv]))).map φ).length<=C.pin:=by simpa using Y1 hpin
 have hrec:qm8 (yc0 v)=(v,(qm8 (yc0 v)).2):=by
  unfold yc0;split
  ·rfl
  ·rfl
 refine qu0 hf hb rfl hfr d hd hdn hrec fun K hK=>?_;have hok:okA (zh8 T id (ps++ [rv]) x 0) a:=hoks a (by rw [hsplit];simp);have hst2:Sim T w ⟨zd8 φ (zb9 (ps++ [rv])),S,(List.range (zb9 (ps++ [rv]))).map φ⟩ ⟨(d,a)::yd6 T ((zd0 T id (ps++ [rv]) x 0).take ps.length) 0,zh8 T id (ps++ [rv]) x 0⟩ (upd (jm8 vs 0) (some d) v) w S φ:=hstart.slot (dst:=some d) hv2 hok;have hKs:KsOk (bodyPost P fn fun e w'=>(∃v0,e=.returned v0)/\(qm8 (yc0 v)).2=(qm8 (yc0 v)).2/\jn1 T post [] y () w S φ (zb9 (ps++ [rv])) w' []) fn.ntmps [] w ⟨zd8 φ (zb9 (ps++ [rv])),S,(List.range (zb9 (ps++ [rv]))).map φ⟩ y (ql1 post):=by
  have key: ∀st,qp9 post st=some y-> ∀F1 w1,zd1 T w ⟨zd8 φ (zb9 (ps++ [rv])),S,(List.range (zb9 (ps++ [rv]))).map φ⟩ st F1 w1->jn1 T post [] y () w S φ (zb9 (ps++ [rv])) w1 []:=by
   intro st hst F1 w1 hs1;obtain ⟨S1,φ1,hs1⟩:=hs1;unfold qp9 at hst;split at hst<;>try (cases hst;done)
   rename_i y1 l1 h1;split at hst<;>try (cases hst;done)
   rename_i hn;simp only [X0] at hst;subst hst;exact vm1 hpost h1 (rs:= []) (aS:= []) (z:=()) (l2:=l1) rfl hn hs1 trivial
  refine ⟨?_,fun i st h=>(by cases h),?_,fun a st h=>(by cases h)⟩
  ·intro st hst F1 w1 hs1 a ha;exact ⟨ha.defers,_,vy0 hres _ _,⟨_,rfl⟩,rfl,key st hst F1 w1 hs1⟩
  ·intro st hst F1 w1 hs1 a ha;exact ⟨ha.defers,_,vy0 hres _ _,⟨_,rfl⟩,rfl,key st hst F1 w1 hs1⟩
 refine yt8 (w0:=w) (S0:=⟨zd8 φ (zb9 (ps++ [rv])),S,(List.range (zb9 (ps++ [rv]))).map φ⟩) (r:=y) (stp:=fun o st K=>stepA P C o st K fun _ _=>none)
  (K:=evC P C fn.ntmps [] (fun _ _=>none) rest [] (ql1 post))
  (fun k F' w2=>WR P ops (Exit.then K (bodyPost P fn fun e w'=>(∃v0,e=.returned v0)/\(qm8 (yc0 v)).2=(qm8 (yc0 v)).2/\jn1 T post [] y () w S φ (zb9 (ps++ [rv])) w' [])) k fn.ntmps [] F' w2) ?_ ?_ ?_ (ops.toList.drop 1) 1 rfl _ _ _ _ S φ hN hst2
 ·intro k o F1 H1 F1' w1 S1 φ1 K hd hs h HK;exact zi1 hE hd hs h (fun st hst F1 w1 ⟨S1,φ1,h1⟩=>HK st hst F1 w1 S1 φ1 h1) fun a st h=>(by cases h)
 ·intro k dst F' w hp K;exact WR.pass1 hp K
 ·intro k st F1' w1 S1 φ1 hk hst h;refine .fin (W3 hk) fun a ha=>hK a w1 ?_;exact zg0 hm hpin' hE rest [] _ st _ F1' w1 hst hKs (JOk.none _ _ _) ⟨S1,φ1,h⟩ a ha
def qe8 {R:Type} {r:R} {C:Ctx T} {n:Nat} {ds:List Deferred} (hm:P.follows .mixedOrders=true) (hp:S0.pin.length<=C.pin) (hE:zb1 T P C.E) {K:Ks T R} {K2:Code->St T->Option R}: ∀(k:Nat) (c:Code) (st:St T) (Q:Exit->Act->World->Prop) (F':PF) (w:World),
  evS P C n K K2 k c st=some r->KsOk Q n ds w0 S0 r K->(∀c st,K2 c st=some r-> ∀F1 w1,zd1 T w0 S0 st F1 w1-> ∀a,Fr n ds F1 a->c.wp P Q a w1)->zd1 T w0 S0 st F' w->CW P c Q n ds F' w
 |0,c,st,Q,F',w,h,hK,h2,hs=>fun a ha=>h2 c st h F' w hs a ha
 |k+1,c,st,Q,F',w,h,hK,h2,hs=>by
  cases c with
  |seq x y=>
   have h:evC P C n [] (fun _ _=>none) x [] (K.behind fun st=>evS P C n K K2 k y st) st=some r:=h;have:=zg0 hm hp hE x _ _ st _ F' w h (hK.behind (X:=y.wp P Q) fun st1 h1 F1 w1 hs1 a ha=>qe8 hm hp hE k y st1 Q F1 w1 h1 hK h2 hs1 a ha) (JOk.none _ _ _) hs;exact fun a ha=>wp_seq (this a ha)
  |_=>cases h
def qe0: ∀ {c:List (Nat×Nat)} {b:List (AV T.U)},qo0 c b=true->b=yk8 c
 | [],[],_=>rfl
 | [],_::_,h=>by cases h
 |(i,o)::r,[],h=>by cases h
 |(i,o)::r,a::s,h=>by
  cases a<;>try (cases h;done)
  simp only [qo0,X3] at h;rw [<-Nat.eq_of_beq_eq_true h.1,<-Nat.eq_of_beq_eq_true h.2.1,qe0 h.2.2];rfl
def qe1: ∀ {b vs m},(b.all fun p=>Nat.blt p.1 m)=true->VRL T w S φ (yk8 b) vs->(∀k,k<m->RSame (φ' k) (φ k))->VRL T w' S' φ' (yk8 b) vs
 | [],[],_,_,_,_=>trivial
 | [],_::_,_,_,h,_=>h.elim
 |_::_,[],_,_,h,_=>h.elim
 |(i,o)::r,v::s,m,c,h,a=>by
  rw [V6,X3] at c;obtain ⟨⟨g,d,e⟩,f⟩:=h;have j:i<m:=by have:=c.1;simpa [U7] using this
  exact ⟨⟨g,(a i j).1.trans d,e⟩,qe1 c.2 f a⟩
def vf6 {o:Oper} {sl:Nat} (h:kk9 o=some sl): ∃c,o.op=.defer c/\c.callee=.value (.tmp sl)/\c.args= #[]/\o.dst=none/\o.guard=none:=by
 unfold kk9 at h
 grind
def yw4 {R:Type} {r:R} {sp:DSpec T} {g:FuncId} (hok:DOk T P g sp) {aS:List (AV T.U)} {a:AV T.U} {K:List (Ent T.U)->Option R} (h:jk2 sp (aS++ [a]) H K=some r) (hs:Sim T w0 S0 ⟨F,H⟩ F' w S φ) {vs:List Value} {v:Value} (hvs:VRL T w S φ aS vs) (hv:VR T w S φ a v):
  ∃H1,K H1=some r/\CallsD P g vs.toArray (yc0 v) w fun e u' w'=>(∃v0,e=.returned v0)/\u'=(qm8 (yc0 v)).2/\zd1 T w0 S0 ⟨F,H1⟩ F' w':=by
 unfold jk2 at h;split at h<;>try (cases h;done)
 rename_i x l hx;split at h<;>try (cases h;done)
 rename_i hb;rw [X3] at hb;obtain ⟨y,hy,hK⟩:=zb8 h;obtain ⟨φ',k1,k2,k3,k4⟩:=vf1 hx hb.1 hb.2 hs (hvs.append (show VRL T w S φ [a] [v] from ⟨hv,trivial⟩));refine ⟨_,hK,(hok x y hy w S φ' k1 vs v k2 k3).mono fun e u' w' hR=>?_⟩;obtain ⟨h1,h2,h3⟩:=hR;obtain ⟨S1,φ2,h4,_⟩:=k4 y [] () w' [] h3;exact ⟨h1,h2,S1,φ2,h4⟩
def ys2 {C f fn c cuts ps rs nl d D g} (hm:P.follows .mixedOrders=true) (hE:zb1 T P C.E)
  (hf:P.funcs[f]?=some fn) (hb:fn.body=some c) (hs:Nat.ble ps.length fn.ntmps=true) (hpin:Nat.ble (zb9 ps) C.pin=true) (I:Nat.beq d.length (zb9 ps)=true) (hdr:DOk T P D.g D.dr) (hdp:DOk T P D.g D.dp)
  (hg: ∀x y,g x=some y-> ∃m,kq0 P C cuts fn c nl ps d rs D m x=some y):GOk T P f ⟨ps,d,rs,g⟩:=by
 intro x y hy w S φ hsim vs hvs hoks;obtain ⟨N,hN⟩:=hg x y hy;have I:=X1 I;have hall:(zd0 T id ps x 0).length=ps.length:=ju9 id ps x 0;have hlen:vs.length=ps.length:=by rw [<-hvs.len T];exact hall
 have hsz:vs.length<=fn.ntmps:=by rw [hlen];exact Y1 hs
 have hfr:Fr fn.ntmps [] (jm8 vs 0) {tmps:=vs.toArray++Array.replicate (fn.ntmps-vs.toArray.size) undef,defers:= []}:=by
  refine ⟨by simp;omega,rfl,fun i v hv=>?_⟩;obtain ⟨_,h2⟩:=yf4 vs 0 i v hv;simp only [M4] at h2;have hi:=(X2.1 h2).1;refine ⟨?_,by omega⟩;rw [Y7,Array.getElem?_append_left (by simpa using hi)];simp [h2]
 have U:=hsim.slots hvs hoks;have hpin1:=Y1 hpin;have Y:((List.range (zb9 ps)).map φ).length<=C.pin:=by simpa using hpin1
 generalize hR0:(fun (e:Ending) (w':World)=>match e with
   | .returned v=> ∃us,jn1 T d rs y.1 y.2 w S φ (zb9 ps) w' us/\v=ye2 us
   |_=>False)=R0
 have hcalls:Calls P f vs.toArray w R0:=by
  have hKs:KsOk (bodyPostD P fn R0) fn.ntmps [] w ⟨zd8 φ (zb9 ps),S,(List.range (zb9 ps)).map φ⟩ y (jl2 T P fn nl d rs):=by
   have key: ∀st,yi7 T P fn nl d rs st=some y-> ∀F1 w1,zd1 T w ⟨zd8 φ (zb9 ps),S,(List.range (zb9 ps)).map φ⟩ st F1 w1-> ∀a,Fr fn.ntmps [] F1 a->Leaves P fn a.tmps R0 a.defers .returning w1:=by
    intro st b F1 w1 Z a ha;obtain ⟨v,h1,us,h2,h3⟩:=ja8 I b Z ha;rw [ha.defers];exact ⟨v,h1,by subst hR0;exact ⟨us,h2,h3⟩⟩
   exact ⟨key,fun i st h=>(by cases h),key,fun a st h=>(by cases h)⟩
  refine calls_of_wp_defers hf hb (qe8 hm Y hE D.depth c _ _ _ w hN hKs ?_ ⟨S,φ,U⟩ _ hfr);clear hN U hfr hKs;intro c2 st b F1 w1 Z a ha;obtain ⟨S1,φ1,Z⟩:=Z;unfold gg8 at b;split at b<;>try (cases b;done)
  rename_i rid ops B;split at b<;>try (cases b;done)
  rename_i hdo;unfold gg7 at hdo;rw [X3] at hdo;obtain ⟨hd1,hd2⟩:=hdo;split at hd2<;>try (cases hd2;done)
  rename_i l s;split at hd2<;>try (cases hd2;done)
  rename_i sl0 hsl;have:=X1 hd2;subst this;obtain ⟨cl,hop,hcal,hargs,hdst,hgd⟩:=vf6 hsl;have j:ops.toList=ops.toList.dropLast++ [l]:=by
   have hne:ops.toList≠ []:=by intro e;rw [e] at s;cases s
   rw [List.getLast?_eq_some_getLast hne] at s;simp only [X0] at s;rw [<-s];exact (List.dropLast_concat_getLast hne).symm
  have hsize:ops.size=ops.toList.dropLast.length+1:=by
   have:=congrArg List.length j;rw [X9] at this;simpa using this
  refine wp_seq (CW.region (P:=P) (Q:=Exit.then (B.wp P (bodyPostD P fn R0)) (bodyPostD P fn R0)) (n:=fn.ntmps) (ds:= []) (F:=F1) (w:=w1) ?_ a ha);have hgen:=yt8 (w0:=w) (S0:=⟨zd8 φ (zb9 ps),S,(List.range (zb9 ps)).map φ⟩) (r:=y) (ops:=ops) (n:=fn.ntmps) (stp:=vr1 P C fun _ _=>none) (K:=vr0 P C cuts fn B nl d rs D N)
   (fun k F' w2=>(k<ops.size->WR P ops (Exit.then (B.wp P (bodyPostD P fn R0)) (bodyPostD P fn R0)) k fn.ntmps [] F' w2)/\
    (k=ops.size-> ∀fv V,F'.get D.sl=some (.func fv #[] V)->WR P ops (Exit.then (B.wp P (bodyPostD P fn R0)) (bodyPostD P fn R0)) k fn.ntmps [{target:=.fn fv V,args:= #[]}] F' w2)) ?_ ?_ ?_ ops.toList 0 rfl _ _ _ _ S1 φ1 b Z
  ·exact hgen.1 (by omega)
  ·intro k o F2 H2 F2' w2 S2 φ2 K hd hs h HK;have M:=(zl1 hd).1;have L:=(Y3.1 M).1;refine ⟨fun _=>?_,fun e=>absurd L (by omega)⟩;unfold vr1 at hs;split at hs
   ·rename_i hnd;have hne:k+1≠ops.size:=by
     intro e;have:ops.toList[k]?=some l:=by
      rw [j,Z2 (by omega),show k-ops.toList.dropLast.length=0 by omega];rfl
     rw [show ops.toList[k]?=some o by simpa using M] at this;simp only [X0] at this;subst this;rw [hop] at hnd;cases hnd
    exact zi1 hE hd hs h (fun st b F1 w1 ⟨S1,φ1,h1⟩=>(HK st b F1 w1 S1 φ1 h1).1 (by omega)) fun a st h=>(by cases h)
   ·rename_i hnd;have hko:k+1=ops.size:=by
     apply Classical.byContradiction;intro hne;have hmem:o∈ops.toList.dropLast:=by
      have h1:ops.toList[k]?=some o:=by simpa using M
      rw [j,X8 (by omega)] at h1;exact X6 h1
     have:=Y8.1 hd1 o hmem;rw [this] at hnd;cases hnd
    have hol:o=l:=by
     have:ops.toList[k]?=some l:=by
      rw [j,Z2 (by omega),show k-ops.toList.dropLast.length=0 by omega];rfl
     rw [show ops.toList[k]?=some o by simpa using M] at this;simpa using this
    subst hol;rw [hsl] at hs;simp only at hs;split at hs<;>try (cases hs;done)
    rename_i fv V hF;obtain ⟨v,W,va,vb,rfl,hv2,hv3⟩:=h.fr _ _ hF;have hva:va= #[]:=by
     have:=hv2.len T;simpa using this.symm
    subst hva;have hG:=(HK ⟨F2,H2⟩ hs F2' w2 S2 φ2 h).2 hko fv vb W;have hev:evD F2' (.tmp D.sl)=.func fv #[] vb:=by simp [evD,ev,W]
    have hrun:zo7 P ops k fn.ntmps F2' w2=some (o.dst,.ok (.defer {target:=.fn fv vb,args:= #[]}) w2):=by
     unfold zo7;rw [hd];simp [execOp,hop,resolve,hcal,hargs,hev,Deferred.ofValue]
    refine WR.defer hrun ?_;rw [hdst];exact hG
  ·intro k dst F' w2 hp hG;refine ⟨fun L=>?_,fun e=>?_⟩
   ·by_cases M:k+1<ops.size
    ·exact WR.pass1 hp (hG.1 M)
    ·exfalso;have hko:k+1=ops.size:=by omega
     unfold yd0 at hp;have:ops[k]?=some l:=by
      have:ops.toList[k]?=some l:=by
       rw [j,Z2 (by omega),show k-ops.toList.dropLast.length=0 by omega];rfl
      simpa using this
     rw [this] at hp;simp [zx3,hgd] at hp
   ·exfalso;unfold yd0 at hp;rw [Array.getElem?_eq_none (by omega)] at hp;cases hp
  ·intro k st F2' w2 S2 φ2 M b h;refine ⟨fun L=>absurd L (by omega),fun _ fv p hget=>.fin (W3 M) fun a ha=>?_⟩;show B.wp P (bodyPostD P fn R0) a w2;unfold vr0 at b;split at b<;>try (cases b;done)
   rename_i st2 htr;obtain ⟨S3,z,h3⟩:=js9 (S0:=⟨zd8 φ (zb9 ps),S,(List.range (zb9 ps)).map φ⟩) Y ⟨S2,φ2,h⟩ htr;split at b<;>try (cases b;done)
   rename_i g0 V hF;split at b<;>try (cases b;done)
   rename_i hb;simp only [X3] at hb;obtain ⟨hb1,hb2,hb3,hb4,hb5,hb6⟩:=hb;have:=X1 hb1;subst this;have:=qe0 hb3;subst this;have hb5:=Y1 hb5;have hb6:=Y1 hb6;obtain ⟨v,W,va,vb,rfl,hv2,hv3⟩:=h3.fr _ _ hF;rw [hget] at W;simp only [X0,Value.func.injEq] at W;obtain ⟨rfl,_,rfl⟩:=W;have h3p:=h3.pinned hb6;have hphi: ∀k,k<zb9 ps->RSame (z k) (φ k):=fun k M=>(h3.pins k (φ k) (by simp [M])).1;have caps4: ∀ {X:St T} {F4:PF} {J:World} {S4:List Nat} {O:Nat->RA},Sim T w ⟨zd8 φ (zb9 ps),S,(List.range D.pin).map z⟩ X F4 J S4 O->VRL T J S4 O (yk8 D.cp) p.toList:=fun h4=>
    qe1 hb4 hv3 fun k M=>(h4.pins k (z k) (by simp [M])).1
   have back: ∀ {X:St T} {F4:PF} {J:World} {a4:Act},yi7 T P fn nl d rs X=some y->zd1 T w ⟨zd8 φ (zb9 ps),S,(List.range D.pin).map z⟩ X F4 J->Fr fn.ntmps [{target:=.fn (.func D.g) p,args:= #[]}] F4 a4-> ∃v,(results fn a4.tmps).run P J=.ok v J/\R0 (.returned v) J:=by
    intro X F4 J a4 hl A R;obtain ⟨S4,O,A⟩:=A;have hs5:=A.fewer (q:=(List.range (zb9 ps)).map φ) fun k r M=>by
     have L:=(X2.1 M).1;simp at L;simp [L] at M;subst M;have:k<D.pin:=by omega
     exact ⟨z k,by simp [this],hphi k L⟩
    obtain ⟨v,k1,us,k2,k3⟩:=ja8 I hl ⟨S4,O,hs5⟩ R;exact ⟨v,k1,by subst hR0;exact ⟨us,k2,k3⟩⟩
   have hinv: ∀J,(invoke (.fn (.func D.g) p) #[]).run P J=.ok (.enter D.g p) J:=fun J=>by simp [invoke,yr9 hb2]
   have hKs2:KsOk (bodyPostD P fn R0) fn.ntmps [{target:=.fn (.func D.g) p,args:= #[]}] w ⟨zd8 φ (zb9 ps),S,(List.range D.pin).map z⟩ y (qq0 P fn nl d rs D):=by
    have ret: ∀st,jk2 D.dr (yk8 D.cp++ [.raw .nilIface]) st.H (fun H1=>yi7 T P fn nl d rs ⟨st.F,H1⟩)=some y-> ∀F1 w1,zd1 T w ⟨zd8 φ (zb9 ps),S,(List.range D.pin).map z⟩ st F1 w1-> ∀a,Fr fn.ntmps [{target:=.fn (.func D.g) p,args:= #[]}] F1 a->Leaves P fn a.tmps R0 a.defers .returning w1:=by
     intro X G F4 J A a4 R;obtain ⟨S4,O,A⟩:=A;obtain ⟨H1,hK1,hc⟩:=yw4 hdr G A (caps4 A) (show VR T J S4 O (.raw .nilIface) .nilIface from rfl);rw [R.defers];refine ⟨by simp,_,_,_,_,rfl,hinv J,?_⟩;refine hc.mono fun e u' w' hR=>?_;obtain ⟨⟨v0,rfl⟩,rfl,hS⟩:=hR;exact back hK1 hS R
    refine ⟨ret,fun i st h=>(by cases h),ret,fun a st G=>?_⟩;intro F4 J S4 O v A hv hok a4 R;have G:(match wk8 a with|true=>jk2 D.dp (yk8 D.cp++ [a]) st.H fun H1=>yi7 T P fn nl d rs ⟨st.F,H1⟩|false=>none)=some y:=G;split at G<;>try (cases G;done)
    rename_i hif;obtain ⟨t,u,rfl⟩: ∃t u,v=.iface t u:=by
     cases a<;>try (cases hif;done)
     obtain ⟨u,rfl,_⟩:=hv;exact ⟨_,u,rfl⟩
    obtain ⟨H1,hK1,hc⟩:=yw4 hdp G A (caps4 A) hv;show Leaves P fn a4.tmps R0 a4.defers (.panicking [{v:=.iface t u,recovered:=false}]) J;rw [R.defers];refine ⟨by simp,_,_,_,_,rfl,hinv J,?_⟩;refine hc.mono fun e u' w' hR=>?_;obtain ⟨⟨v0,rfl⟩,rfl,hS⟩:=hR;exact back hK1 hS R
   exact zg0 (C:=C.at D.pin) (S0:=⟨zd8 φ (zb9 ps),S,(List.range D.pin).map z⟩) hm (show ((List.range D.pin).map z).length<=D.pin by simp) hE B [] _ st2 _ F2' w2 b hKs2 (JOk.run (C:=C.at D.pin) hm (show ((List.range D.pin).map z).length<=D.pin by simp) hE hKs2 N) ⟨S3,z,h3p⟩ a ha
 subst hR0;refine hcalls.mono fun e w' hR=>?_;cases e with
 |returned v=>
  obtain ⟨us,⟨F1,S1,φ1,k1,k2,k3⟩,k4⟩:=hR;exact ⟨F1,S1,φ1,us,k1,k2,k4,k3⟩
 |panicked ch=>exact hR.elim
 |outgrown=>exact hR.elim
end
end Go.X
namespace Go.X
open Go.RowKit Go.V
def Sh.simple:Sh->Bool
 | .val _=>true| .arr _ _=>true| .at_ _ _=>true| .ap _ _ _ _ _=>true| .nilp=>true| .rw _=>true| .own _=>true|_=>false
def vo4 {U:Nat->Type}:AV U->Bool| .raw (.slice none 0 0)=>false|_=>true
section
variable {T:Tab}
def zak2 {H} (s) (m:s.simple=true) (a l l' x) (h:rdS T H s a l=some (x,l')) (r:vo4 a=true):
  l'=l/\ ∀(d:Nat->Nat) (k:Nat),(∀p i,l[p]?=some (some i)->d p=i)->mkA T d s x k=a:=by
 cases s<;>try (cases m;done)
 ·rename_i t;unfold rdS at h;split at h<;>try (cases h;done)
  rename_i y u;simp only [X0,X7] at h;obtain ⟨rfl,rfl⟩:=h;refine ⟨rfl,fun d k _=>?_⟩;have:=vu4 u (by intro e;subst e;cases r);exact this.symm
 ·rename_i i o;unfold rdS at h;split at h<;>try (cases h;done)
  rename_i j o' g;split at h<;>try (cases h;done)
  rename_i b;simp only [X3] at b;simp only [X0,X7] at h;obtain ⟨_,rfl⟩:=h;have:=jq8 g;subst this;refine ⟨rfl,fun d k f=>?_⟩;show AV.ptr (d i) o=_;rw [f _ _ (zg8 b.2),X1 b.1]
 ·rename_i i;unfold rdS at h;split at h<;>try (cases h;done)
  rename_i j g;split at h<;>try (cases h;done)
  rename_i b;simp only [X0,X7] at h;obtain ⟨_,rfl⟩:=h;have:=yt2 g;subst this;refine ⟨rfl,fun d k f=>?_⟩;show AV.own (d i)=_;rw [f _ _ (zg8 b)]
 ·unfold rdS at h;split at h<;>try (cases h;done)
  rename_i b;simp only [X0,X7] at h;obtain ⟨_,rfl⟩:=h;have:=qy2 b;subst this;exact ⟨rfl,fun d k _=>rfl⟩
 ·rename_i t n;unfold rdS at h;split at h<;>try (cases h;done)
  rename_i xs g;simp only [X0,X7] at h;obtain ⟨rfl,rfl⟩:=h;have:=qv8 g;subst this;exact ⟨rfl,fun d k _=>rfl⟩
 ·rename_i i o sz n c;unfold rdS at h;split at h<;>try (cases h;done)
  rename_i j o' v w q c' g;split at h<;>try (cases h;done)
  rename_i b;simp only [X3] at b;simp only [X0,X7] at h;obtain ⟨rfl,rfl⟩:=h;have:=qv6 g;subst this;refine ⟨rfl,fun d k f=>?_⟩;show AV.aptr (d i) o sz n x c=_;rw [f _ _ (zg8 b.1),X1 b.2.1,X1 b.2.2.1,X1 b.2.2.2.1,X1 b.2.2.2.2]
 ·rename_i n;unfold rdS at h;split at h<;>try (cases h;done)
  rename_i b;simp only [X0,X7] at h;obtain ⟨_,rfl⟩:=h;have:=vx2 b;subst this;exact ⟨rfl,fun d k _=>rfl⟩
end
structure KSpec (T:Tab) where
 o:Nat
 e:TypeId
 cs:List Sh
 ps:List Sh
 post:List PE
 rs:List Sh
 g:ze8 T (.ptr o e cs::ps)->Option (zn9 T (.blk e cs::post)×ze8 T rs)
def vn1 {T:Tab} (H:List (Ent T.U)):List (AV T.U)->Bool
 | .ptr i _::_=>(match H[i]? with|some (.blk _ cs)=>cs.all vo4|_=>false)
 |_=>false
section
variable {T:Tab} {P:Program}
def σJ_at {ids:List Nat} {n j i:Nat} (h:ids[j]?=some i):σJ ids n j=i:=by
 have hlt:=(X2.1 h).1;have:=σJ_lo (ids:=ids) (n:=n) hlt
 grind
def CallSpec.forkH {T:Tab} (c:List (AV T.U)->List (Ent T.U)->Bool) (a b:CallSpec T):CallSpec T where
 call:=fun aS H K Kp=>j9 (c aS H) (a.call aS H K Kp) (b.call aS H K Kp)
 q:=fun aS H K=>j9 (c aS H) (a.q aS H K) (b.q aS H K)
 isq:=a.isq
 wr:=fun aS H=>a.wr aS H++b.wr aS H
def CallSpec.forkS {T:Tab} (ps:List Sh) (c:ze8 T ps->Bool) (a b:CallSpec T):CallSpec T:=CallSpec.forkH (fun aS H=>match zq2 T H ps aS [] with|some (x,_)=>c x|none=>false) a b
def qj8 {f:FuncId} (c:List (AV T.U)->List (Ent T.U)->Bool) {a b:CallSpec T} (ha:zc0 T P f a/\zl5 T P f a/\yj9 a) (hb:zc0 T P f b/\zl5 T P f b/\yj9 b):zc0 T P f (CallSpec.forkH c a b)/\zl5 T P f (CallSpec.forkH c a b)/\yj9 (CallSpec.forkH c a b):=by
 refine ⟨fun aS H K Kp r h=>?_,fun aS H K r h=>?_,fun aS H K Kp r h=>?_⟩
 ·rcases zo8 h with ⟨_,h⟩|⟨_,h⟩
  ·exact ha.1 aS H K Kp r h
  ·exact hb.1 aS H K Kp r h
 ·rcases zo8 h with ⟨_,h⟩|⟨_,h⟩
  ·exact ha.2.1 aS H K r h
  ·exact hb.2.1 aS H K r h
 ·have ec: ∀c0,c aS H=c0-> ∀ {R':Type} (K' Kp':AV T.U->List (Ent T.U)->Option R'),(CallSpec.forkH c a b).call aS H K' Kp'=j9 c0 (a.call aS H K' Kp') (b.call aS H K' Kp'):=fun c0 hc _ K' Kp'=>by
   subst hc;rfl
  have ew:(CallSpec.forkH c a b).wr aS H=a.wr aS H++b.wr aS H:=rfl;rw [ew];have kl: ∀ {H1:List (Ent T.U)},Keeps T (a.wr aS H) H H1->Keeps T (a.wr aS H++b.wr aS H) H H1:=fun h=>⟨h.len,fun e he hn=>h.same e he fun hm=>hn (X4.2 (.inl hm)),h.row⟩;have kr: ∀ {H1:List (Ent T.U)},Keeps T (b.wr aS H) H H1->Keeps T (a.wr aS H++b.wr aS H) H H1:=fun h=>⟨h.len,fun e he hn=>h.same e he fun hm=>hn (X4.2 (.inr hm)),h.row⟩;cases hc:c aS H with
  |true=>
   rw [ec _ hc] at h;have:=ha.2.2 aS H K Kp r h;rcases this with ⟨x,H1,h1,h2,h3⟩|⟨x,H1,h1,h2,h3⟩
   ·exact .inl ⟨x,H1,h1,kl h2,fun K' Kp'=>(ec _ hc K' Kp').trans (h3 K' Kp')⟩
   ·exact .inr ⟨x,H1,h1,kl h2,fun K' Kp'=>(ec _ hc K' Kp').trans (h3 K' Kp')⟩
  |false=>
   rw [ec _ hc] at h;have:=hb.2.2 aS H K Kp r h;rcases this with ⟨x,H1,h1,h2,h3⟩|⟨x,H1,h1,h2,h3⟩
   ·exact .inl ⟨x,H1,h1,kr h2,fun K' Kp'=>(ec _ hc K' Kp').trans (h3 K' Kp')⟩
   ·exact .inr ⟨x,H1,h1,kr h2,fun K' Kp'=>(ec _ hc K' Kp').trans (h3 K' Kp')⟩
def zp8 {f} (ps c) {a b} (d:zc0 T P f a/\zl5 T P f a/\yj9 a) (e:zc0 T P f b/\zl5 T P f b/\yj9 b):zc0 T P f (CallSpec.forkS ps c a b)/\zl5 T P f (CallSpec.forkS ps c a b)/\yj9 (CallSpec.forkS ps c a b):=qj8 _ d e
end
end Go.X
