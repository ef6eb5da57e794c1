import Derived.Test.YthhhfnfgmijggaaGreatA9
import Derived.Test.YthhhfnfgmijggaaGreatA1
set_option linter.defProp false
namespace Go.X
open Go.RowKit Go.V Go.ChangeShapes Go.WideShapes Go.ChangeAt Go.Deep
inductive GoodV (T:Tab):(t:Ty)->den T.U t->Prop
 |int (k:IntKind) (x:Int) (h:k.min<=x/\x<=k.max):GoodV T (.int k) x
 |bool (b:Bool):GoodV T .bool b
 |str (s:ByteArray) (h:s.size<=maxLen):GoodV T .str s
 |list (e:Ty) (xs:List (den T.U e)) (a:xs.length<=maxLen) (h: ∀x∈xs,∀c∈zd1 T e x,GoodV T c.t c.x):GoodV T (.list e) xs
def Good (T:Tab) (t:Ty) (x:den T.U t):Prop:= ∀c∈zd1 T t x,GoodV T c.t c.x
def yk3 (ct:Nat->List Ty):Ty->List Ty| .user i=>ct i|t=> [t]
structure Packs (T:Tab) (ct:Nat->List Ty):Prop where
 pack: ∀(i:Nat) (a:List (Cell T.U)),a.map (·.t)=ct i-> ∃x,T.pack i a=some x
 size: ∀i,T.size i=(ct i).length
def yg0 (P:Program) (g:TypeId->List Ty->Bool):List Field->Nat->List Ty->Bool
 | [],_,a=>match a with| []=>true|_::_=>false
 |f::r,o,a=>Nat.beq f.offset o&&(Nat.ble (P.cellsOf f.type) a.length&&(g f.type (a.take (P.cellsOf f.type))&&yg0 P g r (o+P.cellsOf f.type) (a.drop (P.cellsOf f.type))))
def vi3 (P:Program) (ct:Nat->List Ty):Nat->TypeId->List Ty->Bool
 |0,_,_=>false
 |n+1,t,a=>match P.underlying t with
  |some (.int k)=>match a with| [.int b]=>zi7 k b&&Nat.beq (P.cellsOf t) 1|_=>false
  |some .bool=>match a with| [.bool]=>Nat.beq (P.cellsOf t) 1|_=>false
  |some .string=>match a with| [.str]=>Nat.beq (P.cellsOf t) 1|_=>false
  |some (.slice e)=>match a with| [.list ty]=>Nat.ble 1 (yk3 ct ty).length&&(Nat.beq (P.cellsOf e) (yk3 ct ty).length&&vi3 P ct n e (yk3 ct ty))|_=>false
  |some (.struct c)=>yg0 P (vi3 P ct n) c.toList 0 a
  |_=>false
section
variable {T:Tab} {P:Program} {ct:Nat->List Ty} {H:Type} {enc:TypeId×Value->H} {w:World}
def vv2 (b:Packs T ct) {ty a} (h:a.map (·.t)=yk3 ct ty): ∃x:den T.U ty,zd1 T ty x=a:=by
 have one: ∀ty:Ty,ty.one=true->a.map (·.t)= [ty]-> ∃x:den T.U ty,zd1 T ty x=a:=by
  intro ty c h
  match a,h with
  | [⟨t,x⟩],h=>
   simp only [U3,K7,List.cons.injEq,and_true] at h;subst h;exact ⟨x,yz1 T c x⟩
 cases ty with
 |user i=>
  obtain ⟨x,d⟩:=b.pack i a h;exact ⟨x,T.packed _ _ _ d⟩
 |int k=>exact one _ rfl h
 |bool=>exact one _ rfl h
 |str=>exact one _ rfl h
 |list e=>exact one _ rfl h
def vz0 (a:Packs T ct) (ty):szT T ty=(yk3 ct ty).length:=by
 cases ty with
 |user i=>exact a.size i
 |_=>rfl
def ke5 (hp:Packs T ct): ∀(n t d),vi3 P ct n t d=true-> ∀(m:Nat) (cs:List Value) (x:DataW H×List MemPlace),DataW.trod enc P w 0 (fun _=>true) true m t cs=some x->cs.length=d.length->
  ∃N:List (Cell T.U),N.map (·.t)=d/\CellsR T w [] N cs/\ ∀c∈N,GoodV T c.t c.x:=by
 have p: ∀(c:Cell T.U) (v:Value),CR T w [] c.t c.x v->CellsR T w [] [c] [v]:=fun c v h=>⟨rfl,fun j c' v' D F=>by
  cases j with
  |zero=>simp at D F;subst D;subst F;exact h
  |succ j=>simp at D⟩
 intro n;induction n with
 |zero=>intro t d h;unfold vi3 at h;cases h
 |succ n ih=>
  intro t d h m cs x S I;unfold vi3 at h;split at h<;>try (cases h;done)
  ·rename_i k K;split at h<;>try (cases h;done)
   rename_i k';simp only [X3] at h;have:=zb8 h.1;subst this;obtain ⟨a,D,_,wa⟩:=DataW.trod_int K S;subst D;exact ⟨[⟨.int k,a⟩],rfl,p _ _ (.int k a),fun c A=>by simp at A;subst A;exact .int k a (by simpa [Lit.wf] using wa)⟩
  ·rename_i K;split at h<;>try (cases h;done)
   obtain ⟨b,D,_⟩:=DataW.trod_bool K S;subst D;exact ⟨[⟨.bool,b⟩],rfl,p _ _ (.bool b),fun c A=>by simp at A;subst A;exact .bool b⟩
  ·rename_i K;split at h<;>try (cases h;done)
   obtain ⟨s,D,_,V⟩:=DataW.trod_string K S;subst D;exact ⟨[⟨.str,s⟩],rfl,p _ _ (.str s),fun c A=>by simp at A;subst A;exact .str s V⟩
  ·rename_i e K;split at h<;>try (cases h;done)
   rename_i ty;simp only [X3] at h;obtain ⟨h1s,F,h3⟩:=h;have h1s:=Y1 h1s;have F:=X1 F;rcases DataW.trod_slice K S with ⟨rfl,_⟩|⟨a,len,cap,elems,rest,q,rfl,rfl,_,_,hl,hmx,hel,X,_,_⟩
   ·refine ⟨[⟨.list ty,([]:List (den T.U ty))⟩],rfl,p ⟨.list ty,([]:List (den T.U ty))⟩ _ CR.nilS,fun c A=>?_⟩;simp at A;subst A;exact .list ty [] (J7 _) (fun x S=>by cases S)
   ·have key: ∀i,∃y:den T.U ty,i<len->Good T ty y/\ ∃z,w.cells? 0 (a.add (i*P.cellsOf e)) (P.cellsOf e)=some z/\CellsR T w [] (zd1 T ty y) z:=by
     intro i;by_cases Y:i<len
     ·have h4:=X i Y;rw [Y0 (by omega)] at h4;obtain ⟨z,Z,h6⟩:=Option.bind_eq_some_iff.1 h4;obtain ⟨N,g1,g2,g3⟩:=ih e (yk3 ct ty) h3 _ z _ h6 (by rw [(qb6 Z).1,F]);obtain ⟨y,rfl⟩:=vv2 hp g1;exact ⟨y,fun _=>⟨g3,z,Z,g2⟩⟩
     ·exact ⟨yb5 T ty,fun h=>absurd h Y⟩
    let B:Nat->den T.U ty:=fun i=>(key i).choose
    have hB: ∀i,i<len->Good T ty (B i)/\ ∃z,w.cells? 0 (a.add (i*P.cellsOf e)) (P.cellsOf e)=some z/\CellsR T w [] (zd1 T ty (B i)) z:=fun i=>(key i).choose_spec;have hBl:((List.range len).map B).length=len:=by simp
    have J: ∀(k:Nat) (y:den T.U ty),((List.range len).map B)[k]?=some y->k<len/\y=B k:=by
     intro k y G;obtain ⟨D,F⟩:=X2.1 G;simp at D F;exact ⟨D,F.symm⟩
    have C: ∀i,i<len-> ∀(j:Nat) (c:Cell T.U),(zd1 T ty (B i))[j]?=some c-> ∃v,w.cell? ((a.add (i*P.cellsOf e)).add j)=some v/\CR T w [] c.t c.x v:=by
     intro i Y j c A;obtain ⟨_,z,Z,h6⟩:=hB i Y;have hj:=(X2.1 A).1;rw [h6.1] at hj;have E:z[j]?=some z[j]:=Y0 hj;exact ⟨_,(qb6 Z).2 j _ E,h6.2 j c _ A E⟩
    have O:0<szT T ty-> ∀i,i<len->a.spot=none/\a.block<w.heap.size:=by
     intro hp0 i Y;have hfl:0<(zd1 T ty (B 0)).length:=by rw [w6];exact hp0
     obtain ⟨v,E,_⟩:=C 0 (by omega) 0 _ (Y0 hfl);simp only [M5,Addr.add,if_true] at E;have hblk:=World.block_lt_of_cell? w _ E;refine ⟨?_,hblk⟩;unfold World.cell? at E;split at E
     ·split at E
      ·cases E
      ·rename_i V;simpa using V
     ·cases E
    have hadd: ∀i j,a.spot=none->(a.add (i*P.cellsOf e)).add j=⟨a.block,a.off+(i*szT T ty+j),none⟩:=by
     intro i j V;obtain ⟨ab,ao,asp⟩:=a;have V:asp=none:=V;subst V;rw [vz0 hp,<-F];unfold Addr.add;split<;>split<;>simp_all<;>omega
    let u:Nat->Nat->Value:=fun k j=>(w.cell? ((a.add (k*P.cellsOf e)).add j)).getD undef
    refine ⟨[⟨.list ty,(List.range len).map B⟩],rfl,p ⟨.list ty,(List.range len).map B⟩ _ ?_,fun c A=>?_⟩
    ·
     ·have hz:0<szT T ty:=by rw [vz0 hp];omega
      have hcr:CR T w [] (.list ty) ((List.range len).map B) (.slice (some a) ((List.range len).map B).length cap):=by
       refine .list ty _ (some a) cap u (by rw [hBl];exact hl) (fun h=>by cases h) (fun hne=>?_) ?_ ?_
       ·have h0:0<len:=by
         rcases N5 len with h|h
         ·subst h;exact absurd rfl hne
         ·exact h
        obtain ⟨h7,h8⟩:=O hz 0 h0;refine ⟨?_,h8,by simp⟩;obtain ⟨ab,ao,asp⟩:=a;have h7:asp=none:=h7;subst h7;rfl
       ·intro k j c G;cases M:((List.range len).map B)[k]? with
        |none=>rw [M] at G;cases G
        |some y=>
         rw [M] at G;simp only [Z8,X0] at G;obtain ⟨L,rfl⟩:=J k y M;obtain ⟨v,E,_⟩:=C k L j c G;obtain ⟨h7,_⟩:=O hz k L;show w.cell? ⟨a.block,a.off+(k*szT T ty+j),none⟩=some (u k j);rw [<-hadd k j h7];show _=some ((w.cell? ((a.add (k*P.cellsOf e)).add j)).getD undef);rw [E];rfl
       ·intro k j c G;cases M:((List.range len).map B)[k]? with
        |none=>rw [M] at G;cases G
        |some y=>
         rw [M] at G;simp only [Z8,X0] at G;obtain ⟨L,rfl⟩:=J k y M;obtain ⟨v,E,hr⟩:=C k L j c G;show CR T w [] c.t c.x ((w.cell? ((a.add (k*P.cellsOf e)).add j)).getD undef);rw [E];exact hr
      rw [hBl] at hcr;exact hcr
    ·simp at A;subst A;refine .list ty _ (by rw [hBl];omega) fun y hy=>?_;obtain ⟨i,Y,rfl⟩:=U7.1 hy;exact (hB i (K1.1 Y)).1
  ·rename_i fs K;obtain ⟨xs,q,rfl,_,hcl,hxl,hf⟩:=DataW.trod_struct K S;have go: ∀(l:List Field) (o:Nat) (d:List Ty),yg0 P (vi3 P ct n) l o d=true-> ∀(i0:Nat),(∀(i:Nat) (f:Field),l[i]?=some f-> ∃y,DataW.trod enc P w 0 (fun _=>true) true q f.type ((cs.drop f.offset).take (P.cellsOf f.type))=some y)->o+d.length=cs.length->
     ∃N:List (Cell T.U),N.map (·.t)=d/\CellsR T w [] N (cs.drop o)/\ ∀c∈N,GoodV T c.t c.x:=by
    intro l;induction l with
    |nil=>
     intro o d h i0 _ I;unfold yg0 at h;split at h<;>try (cases h;done)
     refine ⟨[],rfl,⟨by simp at I;simp;omega,fun j c v h=>by simp at h⟩,fun c A=>by cases A⟩
    |cons f r ihl=>
     intro o d h i0 Q I;unfold yg0 at h;simp only [X3] at h;obtain ⟨D,F,h3,h4⟩:=h;have D:=X1 D;have F:=Y1 F;obtain ⟨y,hy⟩:=Q 0 f rfl;rw [D] at hy;obtain ⟨cl1,a1,a2,a3⟩:=ih f.type _ h3 q _ y hy (by rw [Y6,Y6,Q8];omega);obtain ⟨cl2,b1,b2,b3⟩:=ihl (o+P.cellsOf f.type) _ h4 0 (fun i g M=>Q (i+1) g (by simpa using M)) (by rw [Q8];omega);refine ⟨cl1++cl2,by rw [J9,a1,b1,Q9],?_,fun c A=>(X4.1 A).elim (a3 c) (b3 c)⟩;have:=a2.app b2;rwa [<-List.drop_drop,Q9] at this
   have:=go fs.toList 0 d h 0 (fun i f hfi=>by
    have R:fs[i]?=some f:=by simpa using hfi
    have Z:=hf i f R;have hlt:=(Y3.1 R).1;rw [Y0 (by omega)] at Z;exact ⟨_,Z⟩) (by omega)
   simpa using this
def ws1 (P:Program) (t:TypeId):Bool:=match P.underlying t with|some (.struct _)=>false|_=>true
def openArg (u:Packs T ct) {t ty} (g: ∀i,ty≠.user i) (n) (l:vi3 P ct n t (yk3 ct ty)=true) (j:ws1 P t=true) {r base v d p} (o:Value.okWide P w r base t v) (h:DataW.Trod enc P w 0 (fun _=>true) true t v d p):
  ∃x:den T.U ty,VR T w [] (fun _=>⟨none,0,0,[]⟩) (zq2 T ty x) v/\Good T ty x:=by
 obtain ⟨m,y⟩:=h;have f:v.cells= #[v]:=by
  cases n with
  |zero=>unfold vi3 at l;cases l
  |succ n=>
   unfold vi3 at l;split at l<;>try (cases l;done)
   ·rename_i k c;obtain ⟨a,rfl⟩:=okWide_int c o;rfl
   ·rename_i c;obtain ⟨b,rfl,_⟩:=open_bool c o ⟨m,y⟩;rfl
   ·rename_i c;obtain ⟨s,rfl⟩:=okWide_string c o;rfl
   ·rename_i e c;obtain ⟨a,len,cap,rfl⟩:=okWide_slice c o;rfl
   ·rename_i C c;unfold ws1 at j;rw [c] at j;cases j
 obtain ⟨D,z,q,A⟩:=ke5 (T:=T) u n t _ l m _ _ y (by rw [f];cases ty<;>first|rfl|exact absurd rfl (g _));obtain ⟨x,rfl⟩:=vv2 u z;refine ⟨x,?_,A⟩;rw [f] at q;have B:zd1 T ty x= [⟨ty,x⟩]:=yz1 T (by cases ty<;>first|rfl|exact absurd rfl (g _)) x;rw [B] at q;have:=q.2 0 _ v rfl rfl;cases ty<;>first|exact this|exact absurd rfl (g _)
def GoodV.intB {k:IntKind} {x:Int} (h:GoodV T (.int k) x):k.min<=x/\x<=k.max:=by
 cases h with
 |int _ _ h=>exact h
def lawRet {f:FuncId} {ps:List PT} {g:yi5 T ps->Option (zz4 T (zb7 ps) (zz5 T [.val .bool]))} (hok:kr8 T P f ⟨ps,[.val .bool],g⟩) (hio:zb7 ps= []) (hent: ∀x:yi5 T ps,zw3 T ps x= []) {x:yi5 T ps} {y:zz4 T (zb7 ps) (zz5 T [.val .bool])} (hy:g x=some y) (hl:yl5 T (zb7 ps) y=(true:Bool))
  {φ:Nat->RA} {vs:List Value} (hvs:VRL T w [] φ (yo4 T 0 ps x) vs):Calls P f vs.toArray w (RetV w (.bool true)):=by
 have hio0:(zb7 ps).length=0:=by rw [hio];rfl
 refine (hok x y hy w [] φ vs hvs (fun b hb=>by cases hb) (fun k e hk=>by rw [show zw3 T (FnSpec.ps ⟨ps,[.val .bool],g⟩) x= [] from hent x] at hk;simp at hk) (fun j hj=>by
  have hj:j<(zb7 ps).length:=hj;omega) (fun j k hj=>by
  have hj:j<(zb7 ps).length:=hj;omega)).mono fun e w' hR=>?_
 cases e with
 |returned v=>
  obtain ⟨F1,H1,F1',S1,φ1,as1,us,g1,g2,rfl,g4,g5,g6⟩:=hR;have hchg:Chg [] w w':=by
   have:=g1.chg;rw [show zd5 φ (zb7 ps).length= [] by rw [hio0];rfl] at this;exact this
  refine ⟨hchg,?_⟩;have hlast:=(yg2 g4).1;rw [hl] at hlast
  match as1,hlast,us,g2 with
  | [a],hlast,[v],g2=>
   have hrd:jx4 T .bool a=some true:=hlast;exact (zf6 (φ:=φ1) (yh6 (t:=.bool) hrd g2.1 φ1))
  | [],hlast,_,_=>cases hlast
  |_::_::_,hlast,_,_=>cases hlast
 |panicked ch=>exact hR.elim
 |outgrown=>exact hR.elim
end
end Go.X
namespace Go.X
open Go.RowKit Go.V
structure PSpec (T:Tab) where
 ps:List Sh
 post:List PE
 rs:List Sh
 pv:Sh
 g:zd9 T ps->Option (zq1 T post×(zd9 T rs⊕zd9 T [pv]))
section
variable (T:Tab) (P:Program)
def POk (f:FuncId) (b:PSpec T):Prop:= ∀x y,b.g x=some y-> ∀(w:World) (S:List Nat) (φ:Nat->RA),Sim T w ⟨zd5 φ (za2 b.ps),S,(List.range (za2 b.ps)).map φ⟩ ⟨[],zg6 T id b.ps x 0⟩ [] w S φ->
 ∀vs:List Value,VRL T w S φ (zc0 T id b.ps x 0) vs->(∀a∈zc0 T id b.ps x 0,okA (zg6 T id b.ps x 0) a)->
 Calls P f vs.toArray w fun e w'=>match e with
  | .returned v=> ∃z,y.2=.inl z/\ ∃us,jn2 T b.post b.rs y.1 z w S φ (za2 b.ps) w' us/\v=yf2 us
  | .panicked c=> ∃z,y.2=.inr z/\ ∃u,c= [{v:=u,recovered:=false}]/\jn2 T b.post [b.pv] y.1 z w S φ (za2 b.ps) w' [u]
  | .outgrown=>False
def PSpec.toCall {T:Tab} (a:PSpec T) (b:CallSpec T):CallSpec T where
 call:=fun as H K c=>match zm8 T H a.ps as [] with
  |some (x,l)=>match zd6 (zb0 l)&&yh8 T H (zb0 l) a.post with
   |true=>z6 (a.g x) fun y=>match y.2 with
    | .inl z=>K (zk3 T (zc0 T (σJ (zb0 l) H.length) a.rs z (a.post.length+zf0 a.post))) (ze1 T H (zb0 l) (mkP T (σJ (zb0 l) H.length) a.post y.1 a.post.length)++(yd1 T (σJ (zb0 l) H.length) a.post y.1 a.post.length++zg6 T (σJ (zb0 l) H.length) a.rs z (a.post.length+zf0 a.post)))
    | .inr z=>c (zk3 T (zc0 T (σJ (zb0 l) H.length) [a.pv] z (a.post.length+zf0 a.post))) (ze1 T H (zb0 l) (mkP T (σJ (zb0 l) H.length) a.post y.1 a.post.length)++(yd1 T (σJ (zb0 l) H.length) a.post y.1 a.post.length++zg6 T (σJ (zb0 l) H.length) [a.pv] z (a.post.length+zf0 a.post)))
   |false=>none
  |none=>b.call as H K c
 q:=b.q
 isq:=b.isq
 wr:=fun as H=>match zm8 T H a.ps as [] with|some (_,l)=>zb0 l|none=>b.wr as H
def qn8 (c:Nl) (b:List PE) (rs:List Sh) (d:Sh) (a:AV T.U) (st:St T):Option (zq1 T b×(zd9 T rs⊕zd9 T [d])):=
 match rdP T (zf2 T c.bn st.H) b 0 (zv3 b 0) with
 |some (y,l)=>match zm8 T (zf2 T c.bn st.H) [d] [a] l with
  |some (z,l')=>match zn4 l' with|true=>some (y,.inr z)|false=>none
  |none=>none
 |none=>none
def qo0 (fn:Func) (b:Nl) (a:List PE) (rs:List Sh) (c:Sh):Ks T (zq1 T a×(zd9 T rs⊕zd9 T [c])):=
 ⟨fun st=>z6 (yc0 T P fn b a rs st) fun y=>some (y.1,.inl y.2),fun _ _=>none,fun st=>z6 (yc0 T P fn b a rs st) fun y=>some (y.1,.inl y.2),qn8 T b a rs c⟩
noncomputable def topP (C:Ctx T) (b:List (Pos×Cut)) (fn:Func) (c:Code) (f:Nl) (d:List Sh) (a:List PE) (rs:List Sh) (e:Sh) (m:Nat) (x:zd9 T d):Option (zq1 T a×(zd9 T rs⊕zd9 T [e])):=
 evC P C fn.ntmps b (run P C fn.ntmps b c (qo0 T P fn f a rs e) m) c [] (qo0 T P fn f a rs e) ⟨yb6 T (zc0 T id d x 0) 0,zg6 T id d x 0⟩
noncomputable def cutP (C:Ctx T) (b:List (Pos×Cut)) (fn:Func) (c:Code) (e:Nl) (a:List PE) (rs:List Sh) (d:Sh) (m:Nat) (q:Pos) (st:St T):Option (zq1 T a×(zd9 T rs⊕zd9 T [d])):=
 run P C fn.ntmps b c (qo0 T P fn e a rs d) m q st
end
section
variable {T:Tab} {P:Program} {w w':World} {S S':List Nat} {φ φ':Nat->RA} {w0:World} {S0:Ow} {F:AF T} {H:List (Ent T.U)} {F':PF}
def jh2 {f:FuncId} {sp:PSpec T} {alt:CallSpec T} (hok:POk T P f sp) (ha:u0 T P f alt):u0 T P f (sp.toCall alt):=by
 intro R as H K Kp r hr w0 S0 F F' w S φ h vs hvs has;simp only [PSpec.toCall] at hr;split at hr
 ·rename_i x l hx;split at hr
  ·rename_i hb;simp only [X3] at hb;obtain ⟨hn,hro⟩:=hb;obtain ⟨y,hy,hK⟩:=za0 hr;obtain ⟨new,g1,g2,g3⟩:=zd7 sp.ps as [] l x hx;have hl:l=new.map some:=by rw [g1.eq];rfl
   have hids:zb0 l=new:=by rw [hl,yb1]
   rw [hids] at hn hro hK;have hno:zn4 l=true:=by
    rw [hl];clear hK hro hids hx g1 g2 g3 hl;induction new with
    |nil=>rfl
    |cons i r ih=>
     rw [zd6,X3,V4] at hn;rw [U3,zn4,ih hn.2,Bool.and_true,V4];cases hm:qy2 i (r.map some) with
     |false=>rfl
     |true=>
      have:=yh4.1 hm;obtain ⟨j,hj,e⟩:=U7.1 this;simp only [X0] at e;subst e;rw [zb9.2 hj] at hn;exact absurd hn.1 (by simp)
   obtain ⟨q1,q2⟩:=g3 _ (yj4 hno);obtain ⟨hlen,hrow⟩:=zp2 hro;have hnewlen:new.length=za2 sp.ps:=g2;obtain ⟨c0,x0,p0⟩:=S0;have hs:=(h.unpin.src (l:=l) hno (fun k hk=>by simp at hk) (fun i e hi he j hj=>by
    rw [hl] at hi;obtain ⟨i',hi',e'⟩:=U7.1 hi;simp only [X0] at e';subst e';obtain ⟨e0,h1,_,h3⟩:=g1.ents i' hi';rw [he] at h1;simp only [X0] at h1;subst h1;exact h3 j hj))
   rw [show zj0 T H (fun i=>yv0 i l) l=ze9 T H (fun i=>yv0 i l) new by rw [hl,zy1]] at hs;have hs:=(hs.imp q2).start;rw [zc8,<-hnewlen] at hs;have hφc: ∀k i,new[k]?=some i->φO l φ k=φ i:=fun k i hk=>φO_at (by rw [hl,W4,hk];rfl);have hvs':VRL T w S (φO l φ) (zc0 T id sp.ps x 0) vs:=q1.vrl (VRL.ren T (fun i hi=>φO_idx (g1.ids i hi)) hvs);have hoks: ∀a∈zc0 T id sp.ps x 0,okA (zg6 T id sp.ps x 0) a:=fun a ha=>zd3 (zt0 id _ _ _ a ha) fun i hi=>by
    have hi:=zh0 ha i hi;rw [show v5 (zc0 T id sp.ps x 0)=_ from q1.ids] at hi;rw [zc8,<-hnewlen];refine zl5 (fun j hj=>?_) i hi;have:=(X2.1 (zm5 (g1.ids j hj))).1;rw [hl,V9] at this;rw [hl];exact this
   have step: ∀(rs:List Sh) (z:zd9 T rs) (w':World) (us:List Value),jn2 T sp.post rs y.1 z w S (φO l φ) (za2 sp.ps) w' us->
     ∃S1 φ2,Sim T w0 ⟨c0,x0,p0⟩ ⟨F,ze1 T H new (mkP T (σJ new H.length) sp.post y.1 sp.post.length)++(yd1 T (σJ new H.length) sp.post y.1 sp.post.length++zg6 T (σJ new H.length) rs z (sp.post.length+zf0 sp.post))⟩ F' w' S1 φ2/\VR T w' S1 φ2 (zk3 T (zc0 T (σJ new H.length) rs z (sp.post.length+zf0 sp.post))) (yf2 us)/\
      okA (ze1 T H new (mkP T (σJ new H.length) sp.post y.1 sp.post.length)++(yd1 T (σJ new H.length) sp.post y.1 sp.post.length++zg6 T (σJ new H.length) rs z (sp.post.length+zf0 sp.post))) (zk3 T (zc0 T (σJ new H.length) rs z (sp.post.length+zf0 sp.post))):=by
    intro rs z w' us hans;obtain ⟨F1,S1,φ1,k1,k2,k3⟩:=hans;rw [<-hnewlen] at k1;obtain ⟨φ2,m1,m2⟩:=h.join hn (fun i hi=>by obtain ⟨e,a,b,_⟩:=g1.ents i hi;exact ⟨e,a,b⟩) hφc k1 (by rw [zu1,hlen]) (fun k i e t ys hk hp=>hrow k i e t hk (yk8 hp));rw [jp3,J9,yz6,zj1] at m1;have hv2:VRL T w' S1 φ2 (zc0 T (σJ new H.length) rs z (sp.post.length+zf0 sp.post)) us:=by
     rw [<-zg4];rw [zu1,X9,yb2,zc8] at m2;generalize zc0 T id rs z (sp.post.length+zf0 sp.post)=as9 at k2 k3;clear m1 k1;induction as9 generalizing us with
     |nil=>cases us<;>exact k2
     |cons a r ih=>
      match us,k2 with
      |u::us,k2=>
       rw [zk1];exact ⟨m2 a u k2.1 fun i hi=>k3 i (by rw [v5];exact X4.2 (.inl hi)),ih _ k2.2 fun i hi=>k3 i (by rw [v5];exact X4.2 (.inr hi))⟩
    refine ⟨S1,φ2,m1,yh7 hv2,?_⟩;have hlt: ∀i∈v5 (zc0 T (σJ new H.length) rs z (sp.post.length+zf0 sp.post)),i<(ze1 T H new (mkP T (σJ new H.length) sp.post y.1 sp.post.length)++(yd1 T (σJ new H.length) sp.post y.1 sp.post.length++zg6 T (σJ new H.length) rs z (sp.post.length+zf0 sp.post))).length:=by
     rw [<-zg4];refine zl5 fun j hj=>?_;have hj:=k3 j hj;rw [X9,X9,w7,yb2,zc8];by_cases hlt:j<new.length
     ·have hs:=σJ_lo (n:=H.length) hlt;obtain ⟨e,h1,_,_⟩:=g1.ents _ (X6 hs);have:=(X2.1 h1).1;omega
     ·rw [σJ_hi (by omega)];omega
    have hne:zh4 (zk3 T (zc0 T (σJ new H.length) rs z (sp.post.length+zf0 sp.post)))=true:=by
     unfold zk3;split
     ·rename_i a hl;exact zt0 (σJ new H.length) rs z _ a (by rw [hl];simp)
     ·rfl
    refine zd3 hne fun i hi=>hlt i ?_;unfold zk3 at hi;split at hi
    ·rename_i a hl;rw [hl,v5];exact X4.2 (.inl hi)
    ·rw [AV.ids] at hi;exact hi
   refine (hok x y hy w S (φO l φ) (by rw [<-hnewlen];exact hs) vs hvs' hoks).mono fun e w' hR=>?_;cases e with
   |returned v=>
    obtain ⟨z,hz,us,hans,rfl⟩:=hR;rw [hz] at hK;exact ⟨_,_,hK,step _ z w' us hans⟩
   |panicked ch=>
    obtain ⟨z,hz,u,rfl,hans⟩:=hR;rw [hz] at hK;exact ⟨_,_,hK,u,rfl,step _ z w' [u] hans⟩
   |outgrown=>exact hR.elim
  ·cases hr
 ·exact ha as H K Kp r hr w0 S0 F F' w S φ h vs hvs has
def uh1 {d:PSpec T} {b} (J:yb4 b):yb4 (d.toCall b):=by
 intro R as H K L r j;simp only [PSpec.toCall] at j;split at j
 ·rename_i x l g;split at j
  ·rename_i m;obtain ⟨y,E,q⟩:=za0 j;simp only [X3] at m;obtain ⟨n,o⟩:=zp2 m.2;have s:(PSpec.toCall d b).wr as H=zb0 l:=by simp only [PSpec.toCall,g]
   rw [s];have G:(mkP T (σJ (zb0 l) H.length) d.post y.1 d.post.length).length=(zb0 l).length:=by rw [zu1,n]
   have c: ∀(N:List (Ent T.U)),Keeps T (zb0 l) H (ze1 T H (zb0 l) (mkP T (σJ (zb0 l) H.length) d.post y.1 d.post.length)++N):=by
    intro N;refine ⟨by rw [X9,w7];omega,fun e u M=>?_,fun e ty t ys u h=>?_⟩
    ·rw [X8 (by rw [w7];exact u)];obtain ⟨f,I⟩: ∃f,(ze1 T H (zb0 l) (mkP T (σJ (zb0 l) H.length) d.post y.1 d.post.length))[e]?=some f:=⟨_,Y0 (by rw [w7];exact u)⟩;rcases ze4 _ _ H G I with ⟨k,v,_⟩|⟨_,p⟩
     ·exact absurd (X6 v) M
     ·rw [I,p]
    ·rw [X8 (by rw [w7];exact u)] at h;rcases ze4 _ _ H G h with ⟨k,v,p⟩|⟨_,p⟩
     ·exact o k e ty t v (yk8 p)
     ·exact ⟨ys,p⟩
   cases hz:y.2 with
   |inr z=>
    rw [hz] at q;exact .inr ⟨_,_,q,c _,fun A i=>by simp only [PSpec.toCall,g,m.1,m.2,M6,E,z6,hz]⟩
   |inl z=>
    rw [hz] at q;exact .inl ⟨_,_,q,c _,fun A i=>by simp only [PSpec.toCall,g,m.1,m.2,M6,E,z6,hz]⟩
  ·cases j
 ·rename_i g;have s:(PSpec.toCall d b).wr as H=b.wr as H:=by simp only [PSpec.toCall,g]
  rcases J as H K L r j with ⟨a,H1,B,C,D⟩|⟨a,H1,B,C,D⟩
  ·exact .inl ⟨a,H1,B,by rw [s];exact C,fun A i=>by simp only [PSpec.toCall,g,D]⟩
  ·exact .inr ⟨a,H1,B,by rw [s];exact C,fun A i=>by simp only [PSpec.toCall,g,D]⟩
def uj3 {C f fn c L j rs M b O g} (hm:P.follows .mixedOrders=true) (hE:zb4 T P C.E)
  (hf:P.funcs[f]?=some fn) (hb:fn.body=some c) (hs:Nat.ble j.length fn.ntmps=true) (Q:Nat.ble (za2 j) C.pin=true) (d:Nat.beq b.length (za2 j)=true)
  (hg: ∀x y,g x=some y-> ∃m,topP T P C L fn c M j b rs O m x=some y):POk T P f ⟨j,b,rs,O,g⟩:=by
 intro x y hy w S φ R vs U V;obtain ⟨N,hN⟩:=hg x y hy;have d:=X1 d;have X:(zc0 T id j x 0).length=j.length:=by
  have: ∀(l:List Sh) (x:zd9 T l) (k:Nat),(zc0 T id l x k).length=l.length:=by
   intro l;induction l with
   |nil=>intro x k;rfl
   |cons s r ih=>intro x k;exact congrArg (· +1) (ih x.2 _)
  exact this j x 0
 have Y:vs.length=j.length:=by rw [<-U.len T];exact X
 have hsz:vs.length<=fn.ntmps:=by rw [Y];exact Y1 hs
 have hfr:Fr fn.ntmps [] (jf8 vs 0) {tmps:=vs.toArray++Array.replicate (fn.ntmps-vs.toArray.size) undef,defers:= []}:=by
  refine ⟨by simp;omega,rfl,fun i v hv=>?_⟩;obtain ⟨_,q⟩:=ya5 vs 0 i v hv;simp only [M1] at q;have hi:=(X2.1 q).1;refine ⟨?_,by omega⟩;rw [Y7,Array.getElem?_append_left (by simpa using hi)];simp [q]
 have t:=R.slots U V;have n:((List.range (za2 j)).map φ).length<=C.pin:=by simpa using Y1 Q
 have Z: ∀st B,yc0 T P fn M b rs st=some B-> ∀D p,zc4 T w ⟨zd5 φ (za2 j),S,(List.range (za2 j)).map φ⟩ st D p-> ∀a,Fr fn.ntmps [] D a-> ∃v,(results fn a.tmps).run P p=.ok v p/\
   ∃us,jn2 T b rs B.1 B.2 w S φ (za2 j) p us/\v=yf2 us:=by
  intro st0 B o D p hsm0 a A;exact yn4 d o hsm0 A
 have hKs:KsOk (bodyPost P fn fun e w'=>match e with
   | .returned v=> ∃z,y.2=.inl z/\ ∃us,jn2 T b rs y.1 z w S φ (za2 j) w' us/\v=yf2 us
   | .panicked ch=> ∃z,y.2=.inr z/\ ∃u,ch= [{v:=u,recovered:=false}]/\jn2 T b [O] y.1 z w S φ (za2 j) w' [u]
   | .outgrown=>False) fn.ntmps [] w ⟨zd5 φ (za2 j),S,(List.range (za2 j)).map φ⟩ y (qo0 T P fn M b rs O):=by
  refine ⟨?_,fun i st h=>(by cases h),?_,fun a st h=>?_⟩
  ·intro st o D p G a A;obtain ⟨B,I,he⟩:=za0 o;simp only [X0] at he;obtain ⟨v,h1,us,q,h3⟩:=Z st B I D p G a A;subst he;exact ⟨A.defers,v,h1,_,rfl,us,q,h3⟩
  ·intro st o D p G a A;obtain ⟨B,I,he⟩:=za0 o;simp only [X0] at he;obtain ⟨v,h1,us,q,h3⟩:=Z st B I D p G a A;subst he;exact ⟨A.defers,v,h1,_,rfl,us,q,h3⟩
  ·intro D p S1 φ1 u J K hok act A;have h:qn8 T M b rs O a st=some y:=h;obtain ⟨φ1,J,K,_⟩:=zg5 M.bn J (as:= [a]) (us:= [u]) ⟨K,trivial⟩ (fun i hi=>hok.1 i (by simpa [v5] using hi));unfold qn8 at h;split at h<;>try (cases h;done)
   rename_i y1 l1 h1;split at h<;>try (cases h;done)
   rename_i z l2 q;split at h<;>try (cases h;done)
   rename_i hn;simp only [X0] at h;subst h;exact ⟨A.defers,z,rfl,u,rfl,qm5 d h1 q hn J K⟩
 exact calls_of_wp hf hb (zf7 hm n hE c [] _ _ _ _ w hN hKs (JOk.run hm n hE hKs N) ⟨S,φ,t⟩ _ hfr)
def za9 {f b a} (h:POk T P f b) (c:u0 T P f a/\zi6 T P f a/\yb4 a):u0 T P f (b.toCall a)/\zi6 T P f (b.toCall a)/\yb4 (b.toCall a):=⟨jh2 h c.1,c.2.1,uh1 c.2.2⟩
end
end Go.X
namespace Go.X
open Go.RowKit Go.V
section
variable {T:Tab} {P:Program} {w w':World} {S S':List Nat} {φ φ':Nat->RA} {w0:World} {S0:Ow} {F:AF T} {H:List (Ent T.U)} {F':PF}
def ve8 {m c as x l} (hx:zm8 T H m as []=some (x,l)) (D:zd6 (zb0 l)=true) (y:yh8 T H (zb0 l) c=true) (h:Sim T w0 S0 ⟨F,H⟩ F' w S φ) {vs} (U:VRL T w S φ as vs):
  ∃φ',Sim T w ⟨zd5 φ' (za2 m),S,(List.range (za2 m)).map φ'⟩ ⟨[],zg6 T id m x 0⟩ [] w S φ'/\VRL T w S φ' (zc0 T id m x 0) vs/\(∀a∈zc0 T id m x 0,okA (zg6 T id m x 0) a)/\
   ∀(q:zq1 T c) (rs:List Sh) (z:zd9 T rs) (w':World) (us:List Value),jn2 T c rs q z w S φ' (za2 m) w' us->
    ∃S1 p,Sim T w0 S0 ⟨F,ze1 T H (zb0 l) (mkP T (σJ (zb0 l) H.length) c q c.length)++(yd1 T (σJ (zb0 l) H.length) c q c.length++zg6 T (σJ (zb0 l) H.length) rs z (c.length+zf0 c))⟩ F' w' S1 p/\VR T w' S1 p (zk3 T (zc0 T (σJ (zb0 l) H.length) rs z (c.length+zf0 c))) (yf2 us)/\
     okA (ze1 T H (zb0 l) (mkP T (σJ (zb0 l) H.length) c q c.length)++(yd1 T (σJ (zb0 l) H.length) c q c.length++zg6 T (σJ (zb0 l) H.length) rs z (c.length+zf0 c))) (zk3 T (zc0 T (σJ (zb0 l) H.length) rs z (c.length+zf0 c))):=by
 obtain ⟨d,A,g2,g3⟩:=zd7 m as [] l x hx;have o:l=d.map some:=by rw [A.eq];rfl
 have s:zb0 l=d:=by rw [o,yb1]
 rw [s] at D y⊢;have G:zn4 l=true:=by
  rw [o];clear y s hx A g2 g3 o;induction d with
  |nil=>rfl
  |cons i r V=>
   rw [zd6,X3,V4] at D;rw [U3,zn4,V D.2,Bool.and_true,V4];cases hm:qy2 i (r.map some) with
   |false=>rfl
   |true=>
    have:=yh4.1 hm;obtain ⟨j,v,e⟩:=U7.1 this;simp only [X0] at e;subst e;rw [zb9.2 v] at D;exact absurd D.1 (by simp)
 obtain ⟨q1,q2⟩:=g3 _ (yj4 G);obtain ⟨I,J⟩:=zp2 y;have f:d.length=za2 m:=g2;obtain ⟨c0,x0,p0⟩:=S0;have B:=(h.unpin.src (l:=l) G (fun k K=>by simp at K) (fun i e g he j v=>by
  rw [o] at g;obtain ⟨i',X,e'⟩:=U7.1 g;simp only [X0] at e';subst e';obtain ⟨e0,L,_,h3⟩:=A.ents i' X;rw [he] at L;simp only [X0] at L;subst L;exact h3 j v))
 rw [show zj0 T H (fun i=>yv0 i l) l=ze9 T H (fun i=>yv0 i l) d by rw [o,zy1]] at B;have B:=(B.imp q2).start;rw [zc8,<-f] at B;have M: ∀k i,d[k]?=some i->φO l φ k=φ i:=fun k i K=>φO_at (by rw [o,W4,K];rfl);have N:VRL T w S (φO l φ) (zc0 T id m x 0) vs:=q1.vrl (VRL.ren T (fun i g=>φO_idx (A.ids i g)) U);have O: ∀a∈zc0 T id m x 0,okA (zg6 T id m x 0) a:=fun a ha=>zd3 (zt0 id _ _ _ a ha) fun i g=>by
  have g:=zh0 ha i g;rw [show v5 (zc0 T id m x 0)=_ from q1.ids] at g;rw [zc8,<-f];refine zl5 (fun j v=>?_) i g;have:=(X2.1 (zm5 (A.ids j v))).1;rw [o,V9] at this;rw [o];exact this
 refine ⟨φO l φ,by rw [<-f];exact B,N,O,?_⟩;intro q rs z w' us Q;obtain ⟨F1,S1,φ1,Y,E,R⟩:=Q;rw [<-f] at Y;obtain ⟨p,Z,m2⟩:=h.join D (fun i g=>by obtain ⟨e,a,b,_⟩:=A.ents i g;exact ⟨e,a,b⟩) M Y (by rw [zu1,I]) (fun k i e t ys K hp=>J k i e t K (yk8 hp));rw [jp3,J9,yz6,zj1] at Z;have hv2:VRL T w' S1 p (zc0 T (σJ d H.length) rs z (c.length+zf0 c)) us:=by
  rw [<-zg4];rw [zu1,X9,yb2,zc8] at m2;generalize zc0 T id rs z (c.length+zf0 c)=as9 at E R;clear Z Y;induction as9 generalizing us with
  |nil=>cases us<;>exact E
  |cons a r V=>
   match us,E with
   |u::us,E=>
    rw [zk1];exact ⟨m2 a u E.1 fun i g=>R i (by rw [v5];exact X4.2 (.inl g)),V _ E.2 fun i g=>R i (by rw [v5];exact X4.2 (.inr g))⟩
 refine ⟨S1,p,Z,yh7 hv2,?_⟩;have C: ∀i∈v5 (zc0 T (σJ d H.length) rs z (c.length+zf0 c)),i<(ze1 T H d (mkP T (σJ d H.length) c q c.length)++(yd1 T (σJ d H.length) c q c.length++zg6 T (σJ d H.length) rs z (c.length+zf0 c))).length:=by
  rw [<-zg4];refine zl5 fun j v=>?_;have v:=R j v;rw [X9,X9,w7,yb2,zc8];by_cases C:j<d.length
  ·have B:=σJ_lo (n:=H.length) C;obtain ⟨e,L,_,_⟩:=A.ents _ (X6 B);have:=(X2.1 L).1;omega
  ·rw [σJ_hi (by omega)];omega
 have hne:zh4 (zk3 T (zc0 T (σJ d H.length) rs z (c.length+zf0 c)))=true:=by
  unfold zk3;split
  ·rename_i a o;exact zt0 (σJ d H.length) rs z _ a (by rw [o];simp)
  ·rfl
 refine zd3 hne fun i g=>C i ?_;unfold zk3 at g;split at g
 ·rename_i a o;rw [o,v5];exact X4.2 (.inl g)
 ·rw [AV.ids] at g;exact g
def Sim.fewer {c x p q st} (h:Sim T w0 ⟨c,x,p⟩ st F' w S φ) (b: ∀(k:Nat) (r:RA),q[k]?=some r-> ∃a,p[k]?=some a/\RSame a r):Sim T w0 ⟨c,x,q⟩ st F' w S φ:=
 ⟨h.fr,h.ids,h.chg,h.own,h.ex,h.lives,fun k r d=>(b k r d).elim fun a q=>⟨(h.pins k a q.1).1.trans q.2,(h.pins k a q.1).2⟩,h.ents,h.eids,h.apart⟩
def Sim.pinned {c x p st} (h:Sim T w0 ⟨c,x,p⟩ st F' w S φ) {m} (d:m<=st.H.length):Sim T w0 ⟨c,x,(List.range m).map φ⟩ st F' w S φ:=
 ⟨h.fr,h.ids,h.chg,h.own,h.ex,h.lives,fun k r b=>by
  have a:=(X2.1 b).1;simp at a;simp [a] at b;exact ⟨.of b,by omega⟩,h.ents,h.eids,h.apart⟩
end
structure DSpec (T:Tab) where
 ps:List Sh
 rv:Sh
 post:List PE
 g:zd9 T (ps++ [rv])->Option (zq1 T post)
def yd2:Value->FrameMode
 | .nilIface=>.returning
 |v=>.panicking [{v:=v,recovered:=false}]
def DOk (T:Tab) (P:Program) (f:FuncId) (b:DSpec T):Prop:=
 ∀x y,b.g x=some y-> ∀(w:World) (S:List Nat) (φ:Nat->RA),Sim T w ⟨zd5 φ (za2 (b.ps++ [b.rv])),S,(List.range (za2 (b.ps++ [b.rv]))).map φ⟩ ⟨[],zg6 T id (b.ps++ [b.rv]) x 0⟩ [] w S φ->
 ∀(vs:List Value) (v:Value),VRL T w S φ (zc0 T id (b.ps++ [b.rv]) x 0) (vs++ [v])->(∀a∈zc0 T id (b.ps++ [b.rv]) x 0,okA (zg6 T id (b.ps++ [b.rv]) x 0) a)->
 CallsD P f vs.toArray (yd2 v) w fun e c w'=>(∃d,e=.returned d)/\c=(ql6 (yd2 v)).2/\jn2 T b.post [] y () w S φ (za2 (b.ps++ [b.rv])) w' []
section
variable {T:Tab} (P:Program)
def qn7 (a:List PE) (st:St T):Option (zq1 T a):=match rdP T st.H a 0 (zv3 a 0) with|some (y,l)=>(match zn4 l with|true=>some y|false=>none)|none=>none
def qj9 (a:List PE):Ks T (zq1 T a):=⟨qn7 a,fun _ _=>none,qn7 a,fun _ _=>none⟩
noncomputable def yj8 (C:Ctx T) (fn:Func) (c:Code) (e:List Sh) (rv:Sh) (b:List PE) (x:zd9 T (e++ [rv])):Option (zq1 T b):=
 match c with
 | .seq (.region _ ops false) rest=>match kr1 ops,(zc0 T id (e++ [rv]) x 0)[e.length]? with
  |some d,some a=>(match zi4 fn.ntmps (some d) with
   |true=>vc1 (fun o st K=>stepA P C o st K fun _ _=>none) ops fn.ntmps (evC P C fn.ntmps [] (fun _ _=>none) rest [] (qj9 b)) (ops.toList.drop 1) ⟨(d,a)::yb6 T ((zc0 T id (e++ [rv]) x 0).take e.length) 0,zg6 T id (e++ [rv]) x 0⟩
   |false=>none)
  |_,_=>none
 |_=>none
def jj9 {R:Type} (a:DSpec T) (as:List (AV T.U)) (H:List (Ent T.U)) (K:List (Ent T.U)->Option R):Option R:=
 match zm8 T H (a.ps++ [a.rv]) as [] with
 |some (x,l)=>match zd6 (zb0 l)&&yh8 T H (zb0 l) a.post with
  |true=>z6 (a.g x) fun y=>K (ze1 T H (zb0 l) (mkP T (σJ (zb0 l) H.length) a.post y a.post.length)++(yd1 T (σJ (zb0 l) H.length) a.post y a.post.length++zg6 T (σJ (zb0 l) H.length) [] () (a.post.length+zf0 a.post)))
  |false=>none
 |none=>none
structure DefP (T:Tab) where
 depth:Nat
 sl:Nat
 live:List Nat
 pin:Nat
 g:FuncId
 cp:List (Nat×Nat)
 dr:DSpec T
 dp:DSpec T
def yl0 {U:Nat->Type}:List (Nat×Nat)->List (AV U)
 | []=> []
 |(i,o)::r=>.ptr i o::yl0 r
def qm7 {U:Nat->Type}:List (Nat×Nat)->List (AV U)->Bool
 | [],[]=>true
 |(i,o)::r,.ptr j p::s=>Nat.beq i j&&(Nat.beq o p&&qm7 r s)
 |_,_=>false
def wq8 {U:Nat->Type}:AV U->Bool| .ifc _ _=>true|_=>false
def qn9 (fn:Func) (d:Nl) (b:List PE) (rs:List Sh) (D:DefP T):Ks T (zq1 T b×zd9 T rs):=
 let c:=fun (st:St T)=>jj9 D.dr (yl0 D.cp++ [.raw .nilIface]) st.H fun H1=>yc0 T P fn d b rs ⟨st.F,H1⟩
 ⟨c,fun _ _=>none,c,fun a st=>match wq8 a with|true=>jj9 D.dp (yl0 D.cp++ [a]) st.H fun H1=>yc0 T P fn d b rs ⟨st.F,H1⟩|false=>none⟩
def jk6:Op->Bool| .defer _=>false|_=>true
def kl8 (o:Oper):Option Nat:=match o.op with| .defer c=>(match c.callee,c.args.toList,o.dst,o.guard with| .value (.tmp t),[],none,none=>some t|_,_,_,_=>none)|_=>none
def gh2 (ops:Array Oper) (sl:Nat):Bool:=(ops.toList.dropLast.all fun o=>jk6 o.op)&&(match ops.toList.getLast? with|some o=>(match kl8 o with|some t=>Nat.beq t sl|none=>false)|none=>false)
def vr8 {R:Type} (C:Ctx T) (a:AV T.U->St T->Option R) (o:Oper) (st:St T) (K:St T->Option R):Option R:=match jk6 o.op with|true=>stepA P C o st K a|false=>(match kl8 o with|some t=>(match st.F.get T t with|some (.fn _ [] _)=>K st|_=>none)|none=>none)
def Ctx.at (C:Ctx T) (m:Nat):Ctx T:=⟨C.ty,C.E,m,C.ms,C.lay,C.dr⟩
noncomputable def vr7 (C:Ctx T) (b:List (Pos×Cut)) (fn:Func) (B:Code) (e:Nl) (a:List PE) (rs:List Sh) (D:DefP T) (m:Nat) (st:St T):Option (zq1 T a×zd9 T rs):=
 match uf2 T C.pin D.live st with
 |some c=>match c.F.get T D.sl with
  |some (.fn (.func g) [] d)=>match Nat.beq g D.g&&(zm3 P g&&(qm7 D.cp d&&((D.cp.all fun p=>Nat.blt p.1 D.pin)&&(Nat.ble C.pin D.pin&&Nat.ble D.pin c.H.length)))) with
   |true=>evC P (C.at D.pin) fn.ntmps b (run P (C.at D.pin) fn.ntmps b B (qn9 P fn e a rs D) m) B [] (qn9 P fn e a rs D) c
   |false=>none
  |_=>none
 |none=>none
noncomputable def gh3 (C:Ctx T) (b:List (Pos×Cut)) (fn:Func) (d:Nl) (a:List PE) (rs:List Sh) (D:DefP T) (m:Nat) (c:Code) (st:St T):Option (zq1 T a×zd9 T rs):=
 match c with
 | .seq (.region _ ops false) B=>match gh2 ops D.sl with
  |true=>vc1 (vr8 P C fun _ _=>none) ops fn.ntmps (vr7 P C b fn B d a rs D m) ops.toList st
  |false=>none
 |_=>none
noncomputable def evS {R:Type} (C:Ctx T) (n:Nat) (K:Ks T R) (a:Code->St T->Option R):Nat->Code->St T->Option R
 |0,c,st=>a c st
 |k+1,.seq x y,st=>evC P C n [] (fun _ _=>none) x [] (K.behind fun st=>evS C n K a k y st) st
 |_+1,_,_=>none
def vt1:Nat->Code->Code
 |0,.seq _ B=>B
 |k+1,.seq _ y=>vt1 k y
 |_,_=>.skip
noncomputable def vl6 (C:Ctx T) (b:List (Pos×Cut)) (fn:Func) (c:Code) (e:Nl) (d:List Sh) (a:List PE) (rs:List Sh) (D:DefP T) (m:Nat) (x:zd9 T d):Option (zq1 T a×zd9 T rs):=
 evS P C fn.ntmps (jk5 T P fn e a rs) (gh3 P C b fn e a rs D m) D.depth c ⟨yb6 T (zc0 T id d x 0) 0,zg6 T id d x 0⟩
noncomputable def wf4 (C:Ctx T) (b:List (Pos×Cut)) (fn:Func) (c:Code) (d:Nl) (a:List PE) (rs:List Sh) (D:DefP T) (m:Nat) (q:Pos) (st:St T):Option (zq1 T a×zd9 T rs):=
 run P (C.at D.pin) fn.ntmps b (vt1 D.depth c) (qn9 P fn d a rs D) m q st
end
section
variable {T:Tab} {P:Program} {w w':World} {S S':List Nat} {φ φ':Nat->RA} {w0:World} {S0:Ow} {F:AF T} {H:List (Ent T.U)} {F':PF}
def VRL.snoc_inv {as a}: ∀ {vs v},VRL T w S φ (as++ [a]) (vs++ [v])->VRL T w S φ as vs/\VR T w S φ a v:=by
 induction as with
 |nil=>
  intro vs v h
  match vs,h with
  | [],h=>exact ⟨trivial,h.1⟩
  |u::vs,h=>exact absurd (h.2.len T) (by simp)
 |cons b r c=>
  intro vs v h
  match vs,h with
  | [],h=>exact absurd (VRL.len T h) (by simp)
  |u::vs,h=>obtain ⟨d,e⟩:=c h.2;exact ⟨⟨h.1,d⟩,e⟩
def ju4 (σ): ∀(l x k),(zc0 T σ l x k).length=l.length
 | [],x,k=>rfl
 |s::r,x,k=>congrArg (· +1) (ju4 σ r x.2 _)
def vy0 {fn} (b:fn.results.isEmpty=true) (a w):(results fn a).run P w=.ok (.tuple #[]) w:=by
 have:fn.results= #[]:=by simpa using b
 unfold results;rw [this,Array.mapM_eq_mapM_toList];simp [Sem.run_bind,Sem.run_map]
def zx9 {C f fn c l rv m g} (hm:P.follows .mixedOrders=true) (hE:zb4 T P C.E)
  (hf:P.funcs[f]?=some fn) (Z:fn.body=some c) (hs:Nat.ble l.length fn.ntmps=true) (N:Nat.ble (za2 (l++ [rv])) C.pin=true) (n:Nat.beq m.length (za2 (l++ [rv]))=true) (D:fn.results.isEmpty=true)
  (hg: ∀x y,g x=some y->yj8 P C fn c l rv m x=some y):DOk T P f ⟨l,rv,m,g⟩:=by
 intro x y hy w S φ G vs v J t;have I:=hg x y hy;have n:=X1 n;have O:(zc0 T id (l++ [rv]) x 0).length=l.length+1:=by rw [ju4];simp
 unfold yj8 at I;split at I<;>try (cases I;done)
 rename_i rid ops rest;split at I<;>try (cases I;done)
 rename_i d a hd L;split at I<;>try (cases I;done)
 rename_i hdn;simp only at J t G;have q:zc0 T id (l++ [rv]) x 0=(zc0 T id (l++ [rv]) x 0).take l.length++ [a]:=by
  conv=>lhs;rw [<-List.take_append_drop l.length (zc0 T id (l++ [rv]) x 0)]
  congr 1;obtain ⟨hlt,hg⟩:=X2.1 L;rw [M8 hlt,hg,T6 (by omega)]
 rw [q] at J;obtain ⟨Q,hv2⟩:=J.snoc_inv;have R:vs.length=l.length:=by rw [<-Q.len T,Y6,O];omega
 have hsz:vs.length<=fn.ntmps:=by rw [R];exact Y1 hs
 have hfr:Fr fn.ntmps [] (jf8 vs 0) {tmps:=vs.toArray++Array.replicate (fn.ntmps-vs.toArray.size) undef,defers:= []}:=by
  refine ⟨by simp;omega,rfl,fun i v hv=>?_⟩;obtain ⟨_,h2⟩:=ya5 vs 0 i v hv;simp only [M1] at h2;have hi:=(X2.1 h2).1;refine ⟨?_,by omega⟩;rw [Y7,Array.getElem?_append_left (by simpa using hi)];simp [h2]
 have A:=G.slots Q (fun b Z=>t b (K8 Z));have M:((List.range (za2 (l++ [rv]))).map φ).length<=C.pin:=by simpa using Y1 N
 have U:ql6 (yd2 v)=(v,(ql6 (yd2 v)).2):=by
  unfold yd2;split
  ·rfl
  ·rfl
 refine qs6 hf Z rfl hfr d hd hdn U fun K hK=>?_;have hok:okA (zg6 T id (l++ [rv]) x 0) a:=t a (by rw [q];simp);have V:Sim T w ⟨zd5 φ (za2 (l++ [rv])),S,(List.range (za2 (l++ [rv]))).map φ⟩ ⟨(d,a)::yb6 T ((zc0 T id (l++ [rv]) x 0).take l.length) 0,zg6 T id (l++ [rv]) x 0⟩ (upd (jf8 vs 0) (some d) v) w S φ:=A.slot (dst:=some d) hv2 hok;have hKs:KsOk (bodyPost P fn fun e w'=>(∃v0,e=.returned v0)/\(ql6 (yd2 v)).2=(ql6 (yd2 v)).2/\jn2 T m [] y () w S φ (za2 (l++ [rv])) w' []) fn.ntmps [] w ⟨zd5 φ (za2 (l++ [rv])),S,(List.range (za2 (l++ [rv]))).map φ⟩ y (qj9 m):=by
  have X: ∀st,qn7 m st=some y-> ∀B s,zc4 T w ⟨zd5 φ (za2 (l++ [rv])),S,(List.range (za2 (l++ [rv]))).map φ⟩ st B s->jn2 T m [] y () w S φ (za2 (l++ [rv])) s []:=by
   intro st j B s p;obtain ⟨S1,u,p⟩:=p;unfold qn7 at j;split at j<;>try (cases j;done)
   rename_i y1 l1 h1;split at j<;>try (cases j;done)
   rename_i hn;simp only [X0] at j;subst j;exact qm5 n h1 (rs:= []) (as:= []) (z:=()) (l2:=l1) rfl hn p trivial
  refine ⟨?_,fun i st h=>(by cases h),?_,fun a st h=>(by cases h)⟩
  ·intro st j B s p a L;exact ⟨L.defers,_,vy0 D _ _,⟨_,rfl⟩,rfl,X st j B s p⟩
  ·intro st j B s p a L;exact ⟨L.defers,_,vy0 D _ _,⟨_,rfl⟩,rfl,X st j B s p⟩
 refine yt5 (w0:=w) (S0:=⟨zd5 φ (za2 (l++ [rv])),S,(List.range (za2 (l++ [rv]))).map φ⟩) (r:=y) (stp:=fun o st K=>stepA P C o st K fun _ _=>none)
  (K:=evC P C fn.ntmps [] (fun _ _=>none) rest [] (qj9 m))
  (fun k F' w2=>WR P ops (Exit.then K (bodyPost P fn fun e w'=>(∃v0,e=.returned v0)/\(ql6 (yd2 v)).2=(ql6 (yd2 v)).2/\jn2 T m [] y () w S φ (za2 (l++ [rv])) w' [])) k fn.ntmps [] F' w2) ?_ ?_ ?_ (ops.toList.drop 1) 1 rfl _ _ _ _ S φ I V
 ·intro k o B H1 Y s S1 u K hd hs h HK;exact ze2 hE hd hs h (fun st j B s ⟨S1,u,h1⟩=>HK st j B s S1 u h1) fun a st h=>(by cases h)
 ·intro k dst F' w hp K;exact WR.pass1 hp K
 ·intro k st Y s S1 u hk j h;refine .fin (W5 hk) fun a L=>hK a s ?_;exact zf7 hm M hE rest [] _ st _ Y s j hKs (JOk.none _ _ _) ⟨S1,u,h⟩ a L
def jd4 {R:Type} {r:R} {C:Ctx T} {n:Nat} {ds:List Deferred} (hm:P.follows .mixedOrders=true) (hp:S0.pin.length<=C.pin) (hE:zb4 T P C.E) {K:Ks T R} {K2:Code->St T->Option R}: ∀(k:Nat) (c:Code) (st:St T) (Q:Exit->Act->World->Prop) (F':PF) (w:World),
  evS P C n K K2 k c st=some r->KsOk Q n ds w0 S0 r K->(∀c st,K2 c st=some r-> ∀F1 w1,zc4 T w0 S0 st F1 w1-> ∀a,Fr n ds F1 a->c.wp P Q a w1)->zc4 T w0 S0 st F' w->CW P c Q n ds F' w
 |0,c,st,Q,F',w,h,hK,h2,hs=>fun a ha=>h2 c st h F' w hs a ha
 |k+1,c,st,Q,F',w,h,hK,h2,hs=>by
  cases c with
  |seq x y=>
   have h:evC P C n [] (fun _ _=>none) x [] (K.behind fun st=>evS P C n K K2 k y st) st=some r:=h;have:=zf7 hm hp hE x _ _ st _ F' w h (hK.behind (X:=y.wp P Q) fun st1 h1 F1 w1 hs1 a ha=>jd4 hm hp hE k y st1 Q F1 w1 h1 hK h2 hs1 a ha) (JOk.none _ _ _) hs;exact fun a ha=>wp_seq (this a ha)
  |_=>cases h
def qb3: ∀ {c:List (Nat×Nat)} {b:List (AV T.U)},qm7 c b=true->b=yl0 c
 | [],[],_=>rfl
 | [],_::_,h=>by cases h
 |(i,o)::r,[],h=>by cases h
 |(i,o)::r,a::s,h=>by
  cases a<;>try (cases h;done)
  simp only [qm7,X3] at h;rw [<-Nat.eq_of_beq_eq_true h.1,<-Nat.eq_of_beq_eq_true h.2.1,qb3 h.2.2];rfl
def qb4: ∀ {b vs m},(b.all fun p=>Nat.blt p.1 m)=true->VRL T w S φ (yl0 b) vs->(∀k,k<m->RSame (φ' k) (φ k))->VRL T w' S' φ' (yl0 b) vs
 | [],[],_,_,_,_=>trivial
 | [],_::_,_,_,h,_=>h.elim
 |_::_,[],_,_,h,_=>h.elim
 |(i,o)::r,v::s,m,c,h,a=>by
  rw [V1,X3] at c;obtain ⟨⟨g,d,e⟩,f⟩:=h;have j:i<m:=by have:=c.1;simpa [V2] using this
  exact ⟨⟨g,(a i j).1.trans d,e⟩,qb4 c.2 f a⟩
def vf4 {o sl} (h:kl8 o=some sl): ∃c,o.op=.defer c/\c.callee=.value (.tmp sl)/\c.args= #[]/\o.dst=none/\o.guard=none:=by
 unfold kl8 at h;split at h
 ·rename_i c a;split at h
  ·rename_i b d e f;simp only [X0] at h;subst h;exact ⟨c,a,b,by simpa using d,e,f⟩
  ·cases h
 ·cases h
def yw0 {R:Type} {r:R} {i:DSpec T} {g:FuncId} (b:DOk T P g i) {as:List (AV T.U)} {a:AV T.U} {K:List (Ent T.U)->Option R} (h:jj9 i (as++ [a]) H K=some r) (k:Sim T w0 S0 ⟨F,H⟩ F' w S φ) {vs:List Value} {v:Value} (c:VRL T w S φ as vs) (m:VR T w S φ a v):
  ∃H1,K H1=some r/\CallsD P g vs.toArray (yd2 v) w fun e j w'=>(∃n,e=.returned n)/\j=(ql6 (yd2 v)).2/\zc4 T w0 S0 ⟨F,H1⟩ F' w':=by
 unfold jj9 at h;split at h<;>try (cases h;done)
 rename_i x l o;split at h<;>try (cases h;done)
 rename_i d;rw [X3] at d;obtain ⟨y,p,q⟩:=za0 h;obtain ⟨φ',s,t,u,z⟩:=ve8 o d.1 d.2 k (c.append (show VRL T w S φ [a] [v] from ⟨m,trivial⟩));refine ⟨_,q,(b x y p w S φ' s vs v t u).mono fun e j w' A=>?_⟩;obtain ⟨B,C,D⟩:=A;obtain ⟨S1,f,E,_⟩:=z y [] () w' [] D;exact ⟨B,C,S1,f,E⟩
def ye2 {C f fn c cuts s rs nl d D g} (hm:P.follows .mixedOrders=true) (hE:zb4 T P C.E)
  (hf:P.funcs[f]?=some fn) (hb:fn.body=some c) (hs:Nat.ble s.length fn.ntmps=true) (hpin:Nat.ble (za2 s) C.pin=true) (J:Nat.beq d.length (za2 s)=true) (hdr:DOk T P D.g D.dr) (hdp:DOk T P D.g D.dp)
  (hg: ∀x y,g x=some y-> ∃m,vl6 P C cuts fn c nl s d rs D m x=some y):GOk T P f ⟨s,d,rs,g⟩:=by
 intro x y hy w S φ hsim vs hvs hoks;obtain ⟨N,hN⟩:=hg x y hy;have J:=X1 J;have hall:(zc0 T id s x 0).length=s.length:=ju4 id s x 0;have hlen:vs.length=s.length:=by rw [<-hvs.len T];exact hall
 have hsz:vs.length<=fn.ntmps:=by rw [hlen];exact Y1 hs
 have hfr:Fr fn.ntmps [] (jf8 vs 0) {tmps:=vs.toArray++Array.replicate (fn.ntmps-vs.toArray.size) undef,defers:= []}:=by
  refine ⟨by simp;omega,rfl,fun i v hv=>?_⟩;obtain ⟨_,h2⟩:=ya5 vs 0 i v hv;simp only [M1] at h2;have hi:=(X2.1 h2).1;refine ⟨?_,by omega⟩;rw [Y7,Array.getElem?_append_left (by simpa using hi)];simp [h2]
 have V:=hsim.slots hvs hoks;have hpin1:=Y1 hpin;have hpin':((List.range (za2 s)).map φ).length<=C.pin:=by simpa using hpin1
 generalize hR0:(fun (e:Ending) (w':World)=>match e with
   | .returned v=> ∃us,jn2 T d rs y.1 y.2 w S φ (za2 s) w' us/\v=yf2 us
   |_=>False)=R0
 have hcalls:Calls P f vs.toArray w R0:=by
  have hKs:KsOk (bodyPostD P fn R0) fn.ntmps [] w ⟨zd5 φ (za2 s),S,(List.range (za2 s)).map φ⟩ y (jk5 T P fn nl d rs):=by
   have key: ∀st,yc0 T P fn nl d rs st=some y-> ∀F1 w1,zc4 T w ⟨zd5 φ (za2 s),S,(List.range (za2 s)).map φ⟩ st F1 w1-> ∀a,Fr fn.ntmps [] F1 a->Leaves P fn a.tmps R0 a.defers .returning w1:=by
    intro st b F1 w1 hs1 a ha;obtain ⟨v,h1,us,h2,h3⟩:=yn4 J b hs1 ha;rw [ha.defers];exact ⟨v,h1,by subst hR0;exact ⟨us,h2,h3⟩⟩
   exact ⟨key,fun i st h=>(by cases h),key,fun a st h=>(by cases h)⟩
  refine calls_of_wp_defers hf hb (jd4 hm hpin' hE D.depth c _ _ _ w hN hKs ?_ ⟨S,φ,V⟩ _ hfr);clear hN V hfr hKs;intro c2 st b F1 w1 hs1 a ha;obtain ⟨S1,φ1,hs1⟩:=hs1;unfold gh3 at b;split at b<;>try (cases b;done)
  rename_i rid ops B;split at b<;>try (cases b;done)
  rename_i hdo;unfold gh2 at hdo;rw [X3] at hdo;obtain ⟨hd1,hd2⟩:=hdo;split at hd2<;>try (cases hd2;done)
  rename_i l z;split at hd2<;>try (cases hd2;done)
  rename_i sl0 hsl;have:=X1 hd2;subst this;obtain ⟨cl,hop,hcal,hargs,hdst,hgd⟩:=vf4 hsl;have j:ops.toList=ops.toList.dropLast++ [l]:=by
   have hne:ops.toList≠ []:=by intro e;rw [e] at z;cases z
   rw [List.getLast?_eq_some_getLast hne] at z;simp only [X0] at z;rw [<-z];exact (List.dropLast_concat_getLast hne).symm
  have hsize:ops.size=ops.toList.dropLast.length+1:=by
   have:=congrArg List.length j;rw [X9] at this;simpa using this
  refine wp_seq (CW.region (P:=P) (Q:=Exit.then (B.wp P (bodyPostD P fn R0)) (bodyPostD P fn R0)) (n:=fn.ntmps) (ds:= []) (F:=F1) (w:=w1) ?_ a ha);have hgen:=yt5 (w0:=w) (S0:=⟨zd5 φ (za2 s),S,(List.range (za2 s)).map φ⟩) (r:=y) (ops:=ops) (n:=fn.ntmps) (stp:=vr8 P C fun _ _=>none) (K:=vr7 P C cuts fn B nl d rs D N)
   (fun k F' w2=>(k<ops.size->WR P ops (Exit.then (B.wp P (bodyPostD P fn R0)) (bodyPostD P fn R0)) k fn.ntmps [] F' w2)/\
    (k=ops.size-> ∀fv X,F'.get D.sl=some (.func fv #[] X)->WR P ops (Exit.then (B.wp P (bodyPostD P fn R0)) (bodyPostD P fn R0)) k fn.ntmps [{target:=.fn fv X,args:= #[]}] F' w2)) ?_ ?_ ?_ ops.toList 0 rfl _ _ _ _ S1 φ1 b hs1
  ·exact hgen.1 (by omega)
  ·intro k o F2 H2 F2' w2 S2 φ2 K hd hs h HK;have O:=(zi2 hd).1;have M:=(Y3.1 O).1;refine ⟨fun _=>?_,fun e=>absurd M (by omega)⟩;unfold vr8 at hs;split at hs
   ·rename_i hnd;have hne:k+1≠ops.size:=by
     intro e;have:ops.toList[k]?=some l:=by
      rw [j,Z2 (by omega),show k-ops.toList.dropLast.length=0 by omega];rfl
     rw [show ops.toList[k]?=some o by simpa using O] at this;simp only [X0] at this;subst this;rw [hop] at hnd;cases hnd
    exact ze2 hE hd hs h (fun st b F1 w1 ⟨S1,φ1,h1⟩=>(HK st b F1 w1 S1 φ1 h1).1 (by omega)) fun a st h=>(by cases h)
   ·rename_i hnd;have hko:k+1=ops.size:=by
     apply Classical.byContradiction;intro hne;have hmem:o∈ops.toList.dropLast:=by
      have h1:ops.toList[k]?=some o:=by simpa using O
      rw [j,X8 (by omega)] at h1;exact X6 h1
     have:=Y8.1 hd1 o hmem;rw [this] at hnd;cases hnd
    have hol:o=l:=by
     have:ops.toList[k]?=some l:=by
      rw [j,Z2 (by omega),show k-ops.toList.dropLast.length=0 by omega];rfl
     rw [show ops.toList[k]?=some o by simpa using O] at this;simpa using this
    subst hol;rw [hsl] at hs;simp only at hs;split at hs<;>try (cases hs;done)
    rename_i fv X hF;obtain ⟨v,Y,va,vb,rfl,hv2,hv3⟩:=h.fr _ _ hF;have hva:va= #[]:=by
     have:=hv2.len T;simpa using this.symm
    subst hva;have hG:=(HK ⟨F2,H2⟩ hs F2' w2 S2 φ2 h).2 hko fv vb Y;have hev:evD F2' (.tmp D.sl)=.func fv #[] vb:=by simp [evD,ev,Y]
    have hrun:yl1 P ops k fn.ntmps F2' w2=some (o.dst,.ok (.defer {target:=.fn fv vb,args:= #[]}) w2):=by
     unfold yl1;rw [hd];simp [execOp,hop,resolve,hcal,hargs,hev,Deferred.ofValue]
    refine WR.defer hrun ?_;rw [hdst];exact hG
  ·intro k dst F' w2 hp hG;refine ⟨fun M=>?_,fun e=>?_⟩
   ·by_cases O:k+1<ops.size
    ·exact WR.pass1 hp (hG.1 O)
    ·exfalso;have hko:k+1=ops.size:=by omega
     unfold ye7 at hp;have:ops[k]?=some l:=by
      have:ops.toList[k]?=some l:=by
       rw [j,Z2 (by omega),show k-ops.toList.dropLast.length=0 by omega];rfl
      simpa using this
     rw [this] at hp;simp [zx3,hgd] at hp
   ·exfalso;unfold ye7 at hp;rw [Array.getElem?_eq_none (by omega)] at hp;cases hp
  ·intro k st F2' w2 S2 φ2 O b h;refine ⟨fun M=>absurd M (by omega),fun _ fv p hget=>.fin (W5 O) fun a ha=>?_⟩;show B.wp P (bodyPostD P fn R0) a w2;unfold vr7 at b;split at b<;>try (cases b;done)
   rename_i st2 htr;obtain ⟨S3,A,h3⟩:=js2 (S0:=⟨zd5 φ (za2 s),S,(List.range (za2 s)).map φ⟩) hpin' ⟨S2,φ2,h⟩ htr;split at b<;>try (cases b;done)
   rename_i g0 X hF;split at b<;>try (cases b;done)
   rename_i hb;simp only [X3] at hb;obtain ⟨hb1,hb2,hb3,hb4,hb5,hb6⟩:=hb;have:=X1 hb1;subst this;have:=qb3 hb3;subst this;have hb5:=Y1 hb5;have hb6:=Y1 hb6;obtain ⟨v,Y,va,vb,rfl,hv2,hv3⟩:=h3.fr _ _ hF;rw [hget] at Y;simp only [X0,Value.func.injEq] at Y;obtain ⟨rfl,_,rfl⟩:=Y;have h3p:=h3.pinned hb6;have hphi: ∀k,k<za2 s->RSame (A k) (φ k):=fun k O=>(h3.pins k (φ k) (by simp [O])).1;have caps4: ∀ {Z:St T} {F4:PF} {L:World} {S4:List Nat} {R:Nat->RA},Sim T w ⟨zd5 φ (za2 s),S,(List.range D.pin).map A⟩ Z F4 L S4 R->VRL T L S4 R (yl0 D.cp) p.toList:=fun h4=>
    qb4 hb4 hv3 fun k O=>(h4.pins k (A k) (by simp [O])).1
   have back: ∀ {Z:St T} {F4:PF} {L:World} {a4:Act},yc0 T P fn nl d rs Z=some y->zc4 T w ⟨zd5 φ (za2 s),S,(List.range D.pin).map A⟩ Z F4 L->Fr fn.ntmps [{target:=.fn (.func D.g) p,args:= #[]}] F4 a4-> ∃v,(results fn a4.tmps).run P L=.ok v L/\R0 (.returned v) L:=by
    intro Z F4 L a4 hl G U;obtain ⟨S4,R,G⟩:=G;have hs5:=G.fewer (q:=(List.range (za2 s)).map φ) fun k r O=>by
     have M:=(X2.1 O).1;simp at M;simp [M] at O;subst O;have:k<D.pin:=by omega
     exact ⟨A k,by simp [this],hphi k M⟩
    obtain ⟨v,k1,us,k2,k3⟩:=yn4 J hl ⟨S4,R,hs5⟩ U;exact ⟨v,k1,by subst hR0;exact ⟨us,k2,k3⟩⟩
   have hinv: ∀L,(invoke (.fn (.func D.g) p) #[]).run P L=.ok (.enter D.g p) L:=fun L=>by simp [invoke,yc7 hb2]
   have hKs2:KsOk (bodyPostD P fn R0) fn.ntmps [{target:=.fn (.func D.g) p,args:= #[]}] w ⟨zd5 φ (za2 s),S,(List.range D.pin).map A⟩ y (qn9 P fn nl d rs D):=by
    have ret: ∀st,jj9 D.dr (yl0 D.cp++ [.raw .nilIface]) st.H (fun H1=>yc0 T P fn nl d rs ⟨st.F,H1⟩)=some y-> ∀F1 w1,zc4 T w ⟨zd5 φ (za2 s),S,(List.range D.pin).map A⟩ st F1 w1-> ∀a,Fr fn.ntmps [{target:=.fn (.func D.g) p,args:= #[]}] F1 a->Leaves P fn a.tmps R0 a.defers .returning w1:=by
     intro Z I F4 L G a4 U;obtain ⟨S4,R,G⟩:=G;obtain ⟨H1,hK1,hc⟩:=yw0 hdr I G (caps4 G) (show VR T L S4 R (.raw .nilIface) .nilIface from rfl);rw [U.defers];refine ⟨by simp,_,_,_,_,rfl,hinv L,?_⟩;refine hc.mono fun e u' w' hR=>?_;obtain ⟨⟨v0,rfl⟩,rfl,hS⟩:=hR;exact back hK1 hS U
    refine ⟨ret,fun i st h=>(by cases h),ret,fun a st I=>?_⟩;intro F4 L S4 R v G hv hok a4 U;have I:(match wq8 a with|true=>jj9 D.dp (yl0 D.cp++ [a]) st.H fun H1=>yc0 T P fn nl d rs ⟨st.F,H1⟩|false=>none)=some y:=I;split at I<;>try (cases I;done)
    rename_i hif;obtain ⟨t,u,rfl⟩: ∃t u,v=.iface t u:=by
     cases a<;>try (cases hif;done)
     obtain ⟨u,rfl,_⟩:=hv;exact ⟨_,u,rfl⟩
    obtain ⟨H1,hK1,hc⟩:=yw0 hdp I G (caps4 G) hv;show Leaves P fn a4.tmps R0 a4.defers (.panicking [{v:=.iface t u,recovered:=false}]) L;rw [U.defers];refine ⟨by simp,_,_,_,_,rfl,hinv L,?_⟩;refine hc.mono fun e u' w' hR=>?_;obtain ⟨⟨v0,rfl⟩,rfl,hS⟩:=hR;exact back hK1 hS U
   exact zf7 (C:=C.at D.pin) (S0:=⟨zd5 φ (za2 s),S,(List.range D.pin).map A⟩) hm (show ((List.range D.pin).map A).length<=D.pin by simp) hE B [] _ st2 _ F2' w2 b hKs2 (JOk.run (C:=C.at D.pin) hm (show ((List.range D.pin).map A).length<=D.pin by simp) hE hKs2 N) ⟨S3,A,h3p⟩ a ha
 subst hR0;refine hcalls.mono fun e w' hR=>?_;cases e with
 |returned v=>
  obtain ⟨us,⟨F1,S1,φ1,k1,k2,k3⟩,k4⟩:=hR;exact ⟨F1,S1,φ1,us,k1,k2,k4,k3⟩
 |panicked ch=>exact hR.elim
 |outgrown=>exact hR.elim
end
end Go.X
namespace Go.X
open Go.RowKit Go.V
def Sh.simple:Sh->Bool
 | .val _=>true| .arr _ _=>true| .at_ _ _=>true| .ap _ _ _ _ _=>true| .nilp=>true| .rw _=>true| .own _=>true|_=>false
def qo2 {U:Nat->Type}:AV U->Bool| .raw (.slice none 0 0)=>false|_=>true
section
variable {T:Tab}
def gu0 {H} (s) (m:s.simple=true) (a l l' x) (h:rdS T H s a l=some (x,l')) (r:qo2 a=true):
  l'=l/\ ∀(d:Nat->Nat) (k:Nat),(∀p i,l[p]?=some (some i)->d p=i)->mkA T d s x k=a:=by
 cases s<;>try (cases m;done)
 ·rename_i t;unfold rdS at h;split at h<;>try (cases h;done)
  rename_i y u;simp only [X0,X7] at h;obtain ⟨rfl,rfl⟩:=h;refine ⟨rfl,fun d k _=>?_⟩;have:=vv1 u (by intro e;subst e;cases r);exact this.symm
 ·rename_i i o;unfold rdS at h;split at h<;>try (cases h;done)
  rename_i j o' g;split at h<;>try (cases h;done)
  rename_i b;simp only [X3] at b;simp only [X0,X7] at h;obtain ⟨_,rfl⟩:=h;have:=jc2 g;subst this;refine ⟨rfl,fun d k f=>?_⟩;show AV.ptr (d i) o=_;rw [f _ _ (zh6 b.2),X1 b.1]
 ·rename_i i;unfold rdS at h;split at h<;>try (cases h;done)
  rename_i j g;split at h<;>try (cases h;done)
  rename_i b;simp only [X0,X7] at h;obtain ⟨_,rfl⟩:=h;have:=ys7 g;subst this;refine ⟨rfl,fun d k f=>?_⟩;show AV.own (d i)=_;rw [f _ _ (zh6 b)]
 ·unfold rdS at h;split at h<;>try (cases h;done)
  rename_i b;simp only [X0,X7] at h;obtain ⟨_,rfl⟩:=h;have:=qy6 b;subst this;exact ⟨rfl,fun d k _=>rfl⟩
 ·rename_i t n;unfold rdS at h;split at h<;>try (cases h;done)
  rename_i xs g;simp only [X0,X7] at h;obtain ⟨rfl,rfl⟩:=h;have:=qv6 g;subst this;exact ⟨rfl,fun d k _=>rfl⟩
 ·rename_i i o sz n c;unfold rdS at h;split at h<;>try (cases h;done)
  rename_i j o' v w q c' g;split at h<;>try (cases h;done)
  rename_i b;simp only [X3] at b;simp only [X0,X7] at h;obtain ⟨rfl,rfl⟩:=h;have:=qv4 g;subst this;refine ⟨rfl,fun d k f=>?_⟩;show AV.aptr (d i) o sz n x c=_;rw [f _ _ (zh6 b.1),X1 b.2.1,X1 b.2.2.1,X1 b.2.2.2.1,X1 b.2.2.2.2]
 ·rename_i n;unfold rdS at h;split at h<;>try (cases h;done)
  rename_i b;simp only [X0,X7] at h;obtain ⟨_,rfl⟩:=h;have:=vx3 b;subst this;exact ⟨rfl,fun d k _=>rfl⟩
def vx6 {H}: ∀(ss),ss.all Sh.simple=true-> ∀(as:List (AV T.U)) (l l':Src) (x:zd9 T ss),zm8 T H ss as l=some (x,l')->as.all qo2=true->
  l'=l/\ ∀(b:Nat->Nat) (k:Nat),(∀p i,l[p]?=some (some i)->b p=i)->zc0 T b ss x k=as
 | [],_,as,l,l',x,h,_=>by
  unfold zm8 at h;split at h
  ·have h:=congrArg Prod.snd (X5 h);exact ⟨h.symm,fun _ _ _=>rfl⟩
  ·cases h
 |s::r,d,as,l,l',x,h,e=>by
  rw [V1,X3] at d;unfold zm8 at h;split at h<;>try (cases h;done)
  rename_i a as;rw [V1,X3] at e;split at h<;>try (cases h;done)
  rename_i y n f;obtain ⟨z,g,rfl⟩:=zl8 h;obtain ⟨rfl,j⟩:=gu0 s d.1 a _ _ y f e.1;obtain ⟨rfl,m⟩:=vx6 r d.2 as _ _ z g e.2;refine ⟨rfl,fun b k c=>?_⟩;show mkA T b s y k::zc0 T b r z (k+s.cnt)=a::as;rw [j b k c,m b _ c]
end
structure KSpec (T:Tab) where
 o:Nat
 e:TypeId
 cs:List Sh
 ps:List Sh
 post:List PE
 rs:List Sh
 g:zd9 T (.ptr o e cs::ps)->Option (zq1 T (.blk e cs::post)×zd9 T rs)
def KSpec.toG {T:Tab} (a:KSpec T):GSpec T:=⟨.ptr a.o a.e a.cs::a.ps,.blk a.e a.cs::a.post,a.rs,a.g⟩
def jk3 {T:Tab} (H:List (Ent T.U)):List (AV T.U)->Bool
 | .ptr i _::_=>(match H[i]? with|some (.blk _ cs)=>cs.all qo2|_=>false)
 |_=>false
def KSpec.toCall {T:Tab} (a:KSpec T) (b:CallSpec T):CallSpec T where
 call:=fun as H K c=>match zm8 T H a.toG.ps as [] with
  |some (x,l)=>match zd6 (zb0 l)&&yh8 T H (zb0 l) a.toG.post with
   |true=>match a.cs.all Sh.simple&&jk3 H as with
    |true=>z6 (a.g x) fun y=>K (zk3 T (zc0 T (σJ (zb0 l) H.length) a.rs y.2 (a.toG.post.length+zf0 a.toG.post))) (ze1 T H (zb0 l).tail (mkP T (σJ (zb0 l) H.length) a.toG.post y.1 a.toG.post.length).tail++(yd1 T (σJ (zb0 l) H.length) a.toG.post y.1 a.toG.post.length++zg6 T (σJ (zb0 l) H.length) a.rs y.2 (a.toG.post.length+zf0 a.toG.post)))
    |false=>none
   |false=>none
  |none=>b.call as H K c
 q:=b.q
 isq:=b.isq
 wr:=fun as H=>match zm8 T H a.toG.ps as [] with|some (_,l)=>(zb0 l).tail|none=>b.wr as H
section
variable {T:Tab} {P:Program}
def σJ_at {ids n j i} (h:ids[j]?=some i):σJ ids n j=i:=by
 have a:=(X2.1 h).1;have:=σJ_lo (ids:=ids) (n:=n) a;rw [h] at this;exact (X5 this).symm
def KSpec.first {b:KSpec T} {as:List (AV T.U)} {H:List (Ent T.U)} {x:zd9 T b.toG.ps} {l:Src} (d:zm8 T H b.toG.ps as []=some (x,l)) (A:(b.cs.all Sh.simple&&jk3 H as)=true) {y:zq1 T b.toG.post} (D:y.1=x.1) (m:Nat):
  ∃i r,zb0 l=i::r/\H[i]?=some (ks6 T (σJ (zb0 l) H.length) (.blk b.e b.cs) y.1 m):=by
 rw [X3] at A;obtain ⟨j,g⟩:=A;obtain ⟨k,E,N,_⟩:=zd7 b.toG.ps as [] l x d;have F:l=k.map some:=by rw [E.eq];rfl
 have B:zb0 l=k:=by rw [F,yb1]
 have G:=d;unfold KSpec.toG at d;simp only at d;unfold zm8 at d;cases as with
 |nil=>cases d
 |cons a s=>
 simp only at d;split at d<;>try (cases d;done)
 rename_i z I f;obtain ⟨J,t,rfl⟩:=zl8 d;unfold rdS at f;split at f<;>try (cases f;done)
 rename_i i o' K;have:=jc2 K;subst this;split at f<;>try (cases f;done)
 rename_i n L;split at f<;>try (cases f;done)
 have C:=zr6 L;unfold jk3 at g;simp only [C] at g;obtain ⟨u,v⟩:=vx6 b.cs j n _ _ z f g;obtain ⟨o,M,_,_⟩:=zd7 b.ps s I l J t;have w:l=some i::o.map some:=by rw [M.eq,u];rfl
 have c:zb0 l=i::o:=by rw [w];show i::zb0 (o.map some)=_;rw [yb1]
 refine ⟨i,o,c,?_⟩;rw [C];show some (Ent.blk b.e n)=some (Ent.blk b.e (zc0 T (σJ (zb0 l) H.length) b.cs y.1 m));rw [D,v _ _ fun p q h=>?_];rw [c]
 match p,h with
 |0,h=>simp at h;subst h;exact σJ_at (by simp)
 |p+1,h=>simp at h
def KSpec.call_eq {a:KSpec T} {b:CallSpec T} (o: ∀x y,a.g x=some y->y.1.1=x.1) {R:Type} {as:List (AV T.U)} {H:List (Ent T.U)} {K j:AV T.U->List (Ent T.U)->Option R} {r:R} (h:(a.toCall b).call as H K j=some r):
  (a.toG.toCall b).call as H K j=some r:=by
 simp only [KSpec.toCall] at h;simp only [GSpec.toCall];split at h
 ·rename_i x l c;rw [c];simp only;split at h<;>try (cases h;done)
  rename_i p;split at h<;>try (cases h;done)
  rename_i d;obtain ⟨y,k,q⟩:=za0 h;simp only [p];have f:a.toG.g x=some y:=k;rw [f];simp only [z6];obtain ⟨i,m,s,n⟩:=KSpec.first (y:=y.1) c d (o x y k) a.toG.post.length;rw [<-q];congr 2;generalize t:σJ (zb0 l) H.length=σ at n⊢;rw [s];show ze1 T H (i::m) (ks6 T σ (.blk a.e a.cs) y.1.1 _::mkP T σ a.post y.1.2 _)=ze1 T H m (mkP T σ a.post y.1.2 _);rw [ze1];congr 1;obtain ⟨u,v⟩:=X2.1 n;rw [<-v,M3]
 ·rename_i c;rw [c];exact h
def qu5 {f} {b:KSpec T} {a} (c:GOk T P f b.toG) (d: ∀x y,b.g x=some y->y.1.1=x.1) (e:u0 T P f a):u0 T P f (b.toCall a):=
 fun as H K h r i=>ym4 c e as H K h r (KSpec.call_eq d i)
def uh0 {c:KSpec T} {b} (E:yb4 b):yb4 (c.toCall b):=by
 intro R as H K F r d;simp only [KSpec.toCall] at d;split at d
 ·rename_i x l g;split at d<;>try (cases d;done)
  rename_i A;split at d<;>try (cases d;done)
  rename_i u;obtain ⟨y,G,I⟩:=za0 d;have j:=A;simp only [X3] at j;obtain ⟨m,n⟩:=zp2 j.2;refine .inl ⟨_,_,I,?_,fun B o=>by simp only [KSpec.toCall,g,A,u,G,z6]⟩;have p:(KSpec.toCall c b).wr as H=(zb0 l).tail:=by simp only [KSpec.toCall,g]
  rw [p];have C:(mkP T (σJ (zb0 l) H.length) c.toG.post y.1 c.toG.post.length).tail.length=(zb0 l).tail.length:=by
   have J:=zu1 (T:=T) (σJ (zb0 l) H.length) c.toG.post y.1 c.toG.post.length;rw [List.length_tail,List.length_tail,m];exact congrArg (· -1) J
  refine ⟨by rw [X9,w7];omega,fun e q L=>?_,fun e ty t ys q h=>?_⟩
  ·rw [X8 (by rw [w7];exact q)];obtain ⟨f,D⟩: ∃f,(ze1 T H (zb0 l).tail (mkP T (σJ (zb0 l) H.length) c.toG.post y.1 c.toG.post.length).tail)[e]?=some f:=⟨_,Y0 (by rw [w7];exact q)⟩;rcases ze4 _ _ H C D with ⟨k,s,_⟩|⟨_,i⟩
   ·exact absurd (X6 s) L
   ·rw [D,i]
  ·rw [X8 (by rw [w7];exact q)] at h;rcases ze4 _ _ H C h with ⟨k,s,i⟩|⟨_,i⟩
   ·rw [List.getElem?_tail] at s i;exact n (k+1) e ty t s (yk8 i)
   ·exact ⟨ys,i⟩
 ·rename_i g;have p:(KSpec.toCall c b).wr as H=b.wr as H:=by simp only [KSpec.toCall,g]
  rcases E as H K F r d with ⟨a,H1,v,w,z⟩|⟨a,H1,v,w,z⟩
  ·exact .inl ⟨a,H1,v,by rw [p];exact w,fun B o=>by simp only [KSpec.toCall,g,z]⟩
  ·exact .inr ⟨a,H1,v,by rw [p];exact w,fun B o=>by simp only [KSpec.toCall,g,z]⟩
def zk9 {f} {b:KSpec T} {a} (h:GOk T P f b.toG) (d: ∀x y,b.g x=some y->y.1.1=x.1) (c:u0 T P f a/\zi6 T P f a/\yb4 a):u0 T P f (b.toCall a)/\zi6 T P f (b.toCall a)/\yb4 (b.toCall a):=⟨qu5 h d c.1,c.2.1,uh0 c.2.2⟩
def CallSpec.forkH {T:Tab} (c:List (AV T.U)->List (Ent T.U)->Bool) (a b:CallSpec T):CallSpec T where
 call:=fun as H K d=>z9 (c as H) (a.call as H K d) (b.call as H K d)
 q:=fun as H K=>z9 (c as H) (a.q as H K) (b.q as H K)
 isq:=a.isq
 wr:=fun as H=>a.wr as H++b.wr as H
def CallSpec.forkS {T:Tab} (d:List Sh) (c:zd9 T d->Bool) (a b:CallSpec T):CallSpec T:=CallSpec.forkH (fun as H=>match zm8 T H d as [] with|some (x,_)=>c x|none=>false) a b
def qi0 {f} (c) {a b} (o:u0 T P f a/\zi6 T P f a/\yb4 a) (p:u0 T P f b/\zi6 T P f b/\yb4 b):u0 T P f (CallSpec.forkH c a b)/\zi6 T P f (CallSpec.forkH c a b)/\yb4 (CallSpec.forkH c a b):=by
 refine ⟨fun as H K n r h=>?_,fun as H K r h=>?_,fun as H K n r h=>?_⟩
 ·rcases zh5 h with ⟨_,h⟩|⟨_,h⟩
  ·exact o.1 as H K n r h
  ·exact p.1 as H K n r h
 ·rcases zh5 h with ⟨_,h⟩|⟨_,h⟩
  ·exact o.2.1 as H K r h
  ·exact p.2.1 as H K r h
 ·have m: ∀q,c as H=q-> ∀ {w:Type} (g d:AV T.U->List (Ent T.U)->Option w),(CallSpec.forkH c a b).call as H g d=z9 q (a.call as H g d) (b.call as H g d):=fun q i _ g d=>by
   subst i;rfl
  have y:(CallSpec.forkH c a b).wr as H=a.wr as H++b.wr as H:=rfl;rw [y];have kl: ∀ {H1:List (Ent T.U)},Keeps T (a.wr as H) H H1->Keeps T (a.wr as H++b.wr as H) H H1:=fun h=>⟨h.len,fun e s t=>h.same e s fun u=>t (X4.2 (.inl u)),h.row⟩;have v: ∀ {H1:List (Ent T.U)},Keeps T (b.wr as H) H H1->Keeps T (a.wr as H++b.wr as H) H H1:=fun h=>⟨h.len,fun e s t=>h.same e s fun u=>t (X4.2 (.inr u)),h.row⟩;cases i:c as H with
  |true=>
   rw [m _ i] at h;have:=o.2.2 as H K n r h;rcases this with ⟨x,H1,j,k,l⟩|⟨x,H1,j,k,l⟩
   ·exact .inl ⟨x,H1,j,kl k,fun g d=>(m _ i g d).trans (l g d)⟩
   ·exact .inr ⟨x,H1,j,kl k,fun g d=>(m _ i g d).trans (l g d)⟩
  |false=>
   rw [m _ i] at h;have:=p.2.2 as H K n r h;rcases this with ⟨x,H1,j,k,l⟩|⟨x,H1,j,k,l⟩
   ·exact .inl ⟨x,H1,j,v k,fun g d=>(m _ i g d).trans (l g d)⟩
   ·exact .inr ⟨x,H1,j,v k,fun g d=>(m _ i g d).trans (l g d)⟩
def zc5 {f} (ps c) {a b} (d:u0 T P f a/\zi6 T P f a/\yb4 a) (e:u0 T P f b/\zi6 T P f b/\yb4 b):u0 T P f (CallSpec.forkS ps c a b)/\zi6 T P f (CallSpec.forkS ps c a b)/\yb4 (CallSpec.forkS ps c a b):=qi0 _ d e
end
end Go.X
