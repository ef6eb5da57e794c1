import Derived.Test.YthhhfnfgmijggaaGreatX20
import Derived.Test.YthhhfnfgmijggaaGreatOp
namespace Go.X
open Go.RowKit Go.V Go.ChangeShapes Go.WideShapes Go.ChangeAt Go.Deep
inductive GoodV (T:Tab):(t:Ty)->den T.U t->Prop
 |int (k:IntKind) (x:Int) (h:k.min<=x/\x<=k.max):GoodV T (.int k) x
 |bool (b:Bool):GoodV T .bool b
 |str (s:ByteArray) (h:s.size<=maxLen):GoodV T .str s
 |list (e:Ty) (xs:List (den T.U e)) (hl:xs.length<=maxLen) (h: ∀x∈xs,∀c∈zd1 T e x,GoodV T c.t c.x):GoodV T (.list e) xs
def um7 (T:Tab) (t:Ty) (x:den T.U t):Prop:= ∀c∈zd1 T t x,GoodV T c.t c.x
def yg9 (ct:Nat->List Ty):Ty->List Ty| .user i=>ct i|t=> [t]
structure Packs (T:Tab) (ct:Nat->List Ty):Prop where
 pack: ∀(i:Nat) (cl:List (Cell T.U)),cl.map (·.t)=ct i-> ∃x,T.pack i cl=some x
 size: ∀i,T.size i=(ct i).length
def yc1 (P:Program) (g:TypeId->List Ty->Bool):List Field->Nat->List Ty->Bool
 | [],_,tys=>match tys with| []=>true|_::_=>false
 |f::r,o,tys=>Nat.beq f.offset o&&(Nat.ble (P.cellsOf f.type) tys.length&&(g f.type (tys.take (P.cellsOf f.type))&&yc1 P g r (o+P.cellsOf f.type) (tys.drop (P.cellsOf f.type))))
def ve3 (P:Program) (ct:Nat->List Ty):Nat->TypeId->List Ty->Bool
 |0,_,_=>false
 |n+1,t,tys=>match P.underlying t with
  |some (.int k)=>match tys with| [.int k']=>zi4 k k'&&Nat.beq (P.cellsOf t) 1|_=>false
  |some .bool=>match tys with| [.bool]=>Nat.beq (P.cellsOf t) 1|_=>false
  |some .string=>match tys with| [.str]=>Nat.beq (P.cellsOf t) 1|_=>false
  |some (.slice e)=>match tys with| [.list ty]=>Nat.ble 1 (yg9 ct ty).length&&(Nat.beq (P.cellsOf e) (yg9 ct ty).length&&ve3 P ct n e (yg9 ct ty))|_=>false
  |some (.struct fs)=>yc1 P (ve3 P ct n) fs.toList 0 tys
  |_=>false
section
variable {T:Tab} {P:Program} {ct:Nat->List Ty} {H:Type} {enc:TypeId×Value->H} {w:World}
theorem vu2 (hp:Packs T ct) {ty:Ty} {cl:List (Cell T.U)} (h:cl.map (·.t)=yg9 ct ty): ∃x:den T.U ty,zd1 T ty x=cl:=by
 have one: ∀ty:Ty,ty.one=true->cl.map (·.t)= [ty]-> ∃x:den T.U ty,zd1 T ty x=cl:=by
  intro ty ho h
  match cl,h with
  | [⟨t,x⟩],h=>
   simp only [List.map_cons,List.map_nil,List.cons.injEq,and_true] at h;subst h;exact ⟨x,yu8 T ho x⟩
 cases ty with
 |user i=>
  obtain ⟨x,hx⟩:=hp.pack i cl h;exact ⟨x,T.packed _ _ _ hx⟩
 |int k=>exact one _ rfl h
 |bool=>exact one _ rfl h
 |str=>exact one _ rfl h
 |list e=>exact one _ rfl h
theorem vr6 (hp:Packs T ct) (ty:Ty):szT T ty=(yg9 ct ty).length:=by
 cases ty with
 |user i=>exact hp.size i
 |_=>rfl
theorem vv8 (hp:Packs T ct): ∀(n:Nat) (t:TypeId) (tys:List Ty),ve3 P ct n t tys=true-> ∀(m:Nat) (cs:List Value) (x:DataW H×List MemPlace),DataW.trod enc P w 0 (fun _=>true) true m t cs=some x->cs.length=tys.length->
  ∃cl:List (Cell T.U),cl.map (·.t)=tys/\CellsR T w [] cl cs/\ ∀c∈cl,GoodV T c.t c.x:=by
 have cell1: ∀(c:Cell T.U) (v:Value),CR T w [] c.t c.x v->CellsR T w [] [c] [v]:=fun c v h=>⟨rfl,fun j c' v' h1 h2=>by
  cases j with
  |zero=>simp at h1 h2;subst h1;subst h2;exact h
  |succ j=>simp at h1⟩
 intro n;induction n with
 |zero=>intro t tys h;unfold ve3 at h;cases h
 |succ n ih=>
  intro t tys h m cs x hx hlen;unfold ve3 at h;split at h<;>try (cases h;done)
  ·rename_i k hu;split at h<;>try (cases h;done)
   rename_i k';simp only [X3] at h;have:=zc1 h.1;subst this;obtain ⟨a,h1,_,wa⟩:=DataW.trod_int hu hx;subst h1;exact ⟨[⟨.int k,a⟩],rfl,cell1 _ _ (.int k a),fun c hc=>by simp at hc;subst hc;exact .int k a (by simpa [Lit.wf] using wa)⟩
  ·rename_i hu;split at h<;>try (cases h;done)
   obtain ⟨b,h1,_⟩:=DataW.trod_bool hu hx;subst h1;exact ⟨[⟨.bool,b⟩],rfl,cell1 _ _ (.bool b),fun c hc=>by simp at hc;subst hc;exact .bool b⟩
  ·rename_i hu;split at h<;>try (cases h;done)
   obtain ⟨s,h1,_,hs⟩:=DataW.trod_string hu hx;subst h1;exact ⟨[⟨.str,s⟩],rfl,cell1 _ _ (.str s),fun c hc=>by simp at hc;subst hc;exact .str s hs⟩
  ·rename_i e hu;split at h<;>try (cases h;done)
   rename_i ty;simp only [X3] at h;obtain ⟨h1s,h2,h3⟩:=h;have h1s:=Y1 h1s;have h2:=X1 h2;rcases DataW.trod_slice hu hx with ⟨rfl,_⟩|⟨a,len,cap,elems,rest,q,rfl,rfl,_,_,hl,hmx,hel,hsome,_,_⟩
   ·refine ⟨[⟨.list ty,([]:List (den T.U ty))⟩],rfl,cell1 ⟨.list ty,([]:List (den T.U ty))⟩ _ CR.nilS,fun c hc=>?_⟩;simp at hc;subst hc;exact .list ty [] (Nat.zero_le _) (fun x hx=>by cases hx)
   ·have key: ∀i,∃y:den T.U ty,i<len->um7 T ty y/\ ∃cs',w.cells? 0 (a.add (i*P.cellsOf e)) (P.cellsOf e)=some cs'/\CellsR T w [] (zd1 T ty y) cs':=by
     intro i;by_cases hi:i<len
     ·have h4:=hsome i hi;rw [Y0 (by omega)] at h4;obtain ⟨cs',h5,h6⟩:=Option.bind_eq_some_iff.1 h4;obtain ⟨cl,g1,g2,g3⟩:=ih e (yg9 ct ty) h3 _ cs' _ h6 (by rw [(jw0 h5).1,h2]);obtain ⟨y,rfl⟩:=vu2 hp g1;exact ⟨y,fun _=>⟨g3,cs',h5,g2⟩⟩
     ·exact ⟨zy2 T ty,fun h=>absurd h hi⟩
    let B:Nat->den T.U ty:=fun i=>(key i).choose
    have hB: ∀i,i<len->um7 T ty (B i)/\ ∃cs',w.cells? 0 (a.add (i*P.cellsOf e)) (P.cellsOf e)=some cs'/\CellsR T w [] (zd1 T ty (B i)) cs':=fun i=>(key i).choose_spec;have hBl:((List.range len).map B).length=len:=by simp
    have hgetB: ∀(k:Nat) (y:den T.U ty),((List.range len).map B)[k]?=some y->k<len/\y=B k:=by
     intro k y hk;obtain ⟨h1,h2⟩:=X2.1 hk;simp at h1 h2;exact ⟨h1,h2.symm⟩
    have hcellv: ∀i,i<len-> ∀(j:Nat) (c:Cell T.U),(zd1 T ty (B i))[j]?=some c-> ∃v,w.cell? ((a.add (i*P.cellsOf e)).add j)=some v/\CR T w [] c.t c.x v:=by
     intro i hi j c hc;obtain ⟨_,cs',h5,h6⟩:=hB i hi;have hj:=(X2.1 hc).1;rw [h6.1] at hj;have hv:cs'[j]?=some cs'[j]:=Y0 hj;exact ⟨_,(jw0 h5).2 j _ hv,h6.2 j c _ hc hv⟩
    have hpos:0<szT T ty-> ∀i,i<len->a.spot=none/\a.block<w.heap.size:=by
     intro hp0 i hi;have hfl:0<(zd1 T ty (B 0)).length:=by rw [za7];exact hp0
     obtain ⟨v,hv,_⟩:=hcellv 0 (by omega) 0 _ (Y0 hfl);simp only [Nat.zero_mul,Addr.add,if_true] at hv;have hblk:=World.block_lt_of_cell? w _ hv;refine ⟨?_,hblk⟩;unfold World.cell? at hv;split at hv
     ·split at hv
      ·cases hv
      ·rename_i hs;simpa using hs
     ·cases hv
    have hadd: ∀i j,a.spot=none->(a.add (i*P.cellsOf e)).add j=⟨a.block,a.off+(i*szT T ty+j),none⟩:=by
     intro i j hs;obtain ⟨ab,ao,asp⟩:=a;have hs:asp=none:=hs;subst hs;rw [vr6 hp,<-h2];unfold Addr.add;split<;>split<;>simp_all<;>omega
    let u:Nat->Nat->Value:=fun k j=>(w.cell? ((a.add (k*P.cellsOf e)).add j)).getD undef
    refine ⟨[⟨.list ty,(List.range len).map B⟩],rfl,cell1 ⟨.list ty,(List.range len).map B⟩ _ ?_,fun c hc=>?_⟩
    ·
     ·have hz:0<szT T ty:=by rw [vr6 hp];omega
      have hcr:CR T w [] (.list ty) ((List.range len).map B) (.slice (some a) ((List.range len).map B).length cap):=by
       refine .list ty _ (some a) cap u (by rw [hBl];exact hl) (fun h=>by cases h) (fun hne=>?_) ?_ ?_
       ·have h0:0<len:=by
         rcases Nat.eq_zero_or_pos len with h|h
         ·subst h;exact absurd rfl hne
         ·exact h
        obtain ⟨h7,h8⟩:=hpos hz 0 h0;refine ⟨?_,h8,by simp⟩;obtain ⟨ab,ao,asp⟩:=a;have h7:asp=none:=h7;subst h7;rfl
       ·intro k j c hk;cases hg:((List.range len).map B)[k]? with
        |none=>rw [hg] at hk;cases hk
        |some y=>
         rw [hg] at hk;simp only [Z8,X0] at hk;obtain ⟨hkl,rfl⟩:=hgetB k y hg;obtain ⟨v,hv,_⟩:=hcellv k hkl j c hk;obtain ⟨h7,_⟩:=hpos hz k hkl;show w.cell? ⟨a.block,a.off+(k*szT T ty+j),none⟩=some (u k j);rw [<-hadd k j h7];show _=some ((w.cell? ((a.add (k*P.cellsOf e)).add j)).getD undef);rw [hv];rfl
       ·intro k j c hk;cases hg:((List.range len).map B)[k]? with
        |none=>rw [hg] at hk;cases hk
        |some y=>
         rw [hg] at hk;simp only [Z8,X0] at hk;obtain ⟨hkl,rfl⟩:=hgetB k y hg;obtain ⟨v,hv,hr⟩:=hcellv k hkl j c hk;show CR T w [] c.t c.x ((w.cell? ((a.add (k*P.cellsOf e)).add j)).getD undef);rw [hv];exact hr
      rw [hBl] at hcr;exact hcr
    ·simp at hc;subst hc;refine .list ty _ (by rw [hBl];omega) fun y hy=>?_;obtain ⟨i,hi,rfl⟩:=List.mem_map.1 hy;exact (hB i (List.mem_range.1 hi)).1
  ·rename_i fs hu;obtain ⟨xs,q,rfl,_,hcl,hxl,hf⟩:=DataW.trod_struct hu hx;have go: ∀(l:List Field) (o:Nat) (tys:List Ty),yc1 P (ve3 P ct n) l o tys=true-> ∀(i0:Nat),(∀(i:Nat) (f:Field),l[i]?=some f-> ∃y,DataW.trod enc P w 0 (fun _=>true) true q f.type ((cs.drop f.offset).take (P.cellsOf f.type))=some y)->o+tys.length=cs.length->
     ∃cl:List (Cell T.U),cl.map (·.t)=tys/\CellsR T w [] cl (cs.drop o)/\ ∀c∈cl,GoodV T c.t c.x:=by
    intro l;induction l with
    |nil=>
     intro o tys h i0 _ hlen;unfold yc1 at h;split at h<;>try (cases h;done)
     refine ⟨[],rfl,⟨by simp at hlen;simp;omega,fun j c v h=>by simp at h⟩,fun c hc=>by cases hc⟩
    |cons f r ihl=>
     intro o tys h i0 hall hlen;unfold yc1 at h;simp only [X3] at h;obtain ⟨h1,h2,h3,h4⟩:=h;have h1:=X1 h1;have h2:=Y1 h2;obtain ⟨y,hy⟩:=hall 0 f rfl;rw [h1] at hy;obtain ⟨cl1,a1,a2,a3⟩:=ih f.type _ h3 q _ y hy (by rw [Y6,Y6,Q6];omega);obtain ⟨cl2,b1,b2,b3⟩:=ihl (o+P.cellsOf f.type) _ h4 0 (fun i g hg=>hall (i+1) g (by simpa using hg)) (by rw [Q6];omega);refine ⟨cl1++cl2,by rw [List.map_append,a1,b1,Q7],?_,fun c hc=>(X4.1 hc).elim (a3 c) (b3 c)⟩;have:=a2.app b2;rwa [<-List.drop_drop,Q7] at this
   have:=go fs.toList 0 tys h 0 (fun i f hfi=>by
    have hfi':fs[i]?=some f:=by simpa using hfi
    have h5:=hf i f hfi';have hlt:=(Y3.1 hfi').1;rw [Y0 (by omega)] at h5;exact ⟨_,h5⟩) (by omega)
   simpa using this
def wk4 (P:Program) (t:TypeId):Bool:=match P.underlying t with|some (.struct _)=>false|_=>true
theorem openArg (hp:Packs T ct) {t:TypeId} {ty:Ty} (hty: ∀i,ty≠.user i) (n:Nat) (ho:ve3 P ct n t (yg9 ct ty)=true) (hst:wk4 P t=true) {r:Reach} {base:Nat} {v:Value} {d:DataW H} {p:List MemPlace} (hv:Value.okWide P w r base t v) (h:DataW.Trod enc P w 0 (fun _=>true) true t v d p):
  ∃x:den T.U ty,VR T w [] (fun _=>⟨none,0,0,[]⟩) (zn7 T ty x) v/\um7 T ty x:=by
 obtain ⟨m,hm⟩:=h;have hone:v.cells= #[v]:=by
  cases n with
  |zero=>unfold ve3 at ho;cases ho
  |succ n=>
   unfold ve3 at ho;split at ho<;>try (cases ho;done)
   ·rename_i k hu;obtain ⟨a,rfl⟩:=okWide_int hu hv;rfl
   ·rename_i hu;obtain ⟨b,rfl,_⟩:=open_bool hu hv ⟨m,hm⟩;rfl
   ·rename_i hu;obtain ⟨s,rfl⟩:=okWide_string hu hv;rfl
   ·rename_i e hu;obtain ⟨a,len,cap,rfl⟩:=okWide_slice hu hv;rfl
   ·rename_i fs hu;unfold wk4 at hst;rw [hu] at hst;cases hst
 obtain ⟨cl,h1,h2,h3⟩:=vv8 (T:=T) hp n t _ ho m _ _ hm (by rw [hone];cases ty<;>first|rfl|exact absurd rfl (hty _));obtain ⟨x,rfl⟩:=vu2 hp h1;refine ⟨x,?_,h3⟩;rw [hone] at h2;have hf:zd1 T ty x= [⟨ty,x⟩]:=yu8 T (by cases ty<;>first|rfl|exact absurd rfl (hty _)) x;rw [hf] at h2;have:=h2.2 0 _ v rfl rfl;cases ty<;>first|exact this|exact absurd rfl (hty _)
theorem lawRet {f:FuncId} {ps:List PT} {g:zq2 T ps->Option (zz0 T (zc2 ps) (zp8 T [.val .bool]))} (hok:ze8 T P f ⟨ps,[.val .bool],g⟩) (hio:zc2 ps= []) (hent: ∀x:zq2 T ps,zu0 T ps x= []) {x:zq2 T ps} {y:zz0 T (zc2 ps) (zp8 T [.val .bool])} (hy:g x=some y) (hl:yi0 T (zc2 ps) y=(true:Bool))
  {φ:Nat->RA} {vs:List Value} (hvs:VRL T w [] φ (yl8 T 0 ps x) vs):Calls P f vs.toArray w (un2 w (.bool true)):=by
 have hio0:(zc2 ps).length=0:=by rw [hio];rfl
 refine (hok x y hy w [] φ vs hvs (fun b hb=>by cases hb) (fun k e hk=>by rw [show zu0 T (FnSpec.ps ⟨ps,[.val .bool],g⟩) x= [] from hent x] at hk;simp at hk) (fun j hj=>by
  have hj:j<(zc2 ps).length:=hj;omega) (fun j k hj=>by
  have hj:j<(zc2 ps).length:=hj;omega)).mono fun e w' hR=>?_
 cases e with
 |returned v=>
  obtain ⟨F1,H1,F1',S1,φ1,as1,us,g1,g2,rfl,g4,g5,g6⟩:=hR;have hchg:Chg [] w w':=by
   have:=g1.chg;rw [show zd5 φ (zc2 ps).length= [] by rw [hio0];rfl] at this;exact this
  refine ⟨hchg,?_⟩;have hlast:=(yc3 g4).1;rw [hl] at hlast
  match as1,hlast,us,g2 with
  | [a],hlast,[v],g2=>
   have hrd:jr8 T .bool a=some true:=hlast;exact (zg5 (φ:=φ1) (yd5 (t:=.bool) hrd g2.1 φ1))
  | [],hlast,_,_=>cases hlast
  |_::_::_,hlast,_,_=>cases hlast
 |panicked ch=>exact hR.elim
 |outgrown=>exact hR.elim
end
end Go.X
