import Derived.Test.YtnhnejjdokeikaaGreatXV
set_option linter.defProp false
namespace Go.X
open Go.RowKit Go.V
def CWI (P:Program) (c:Code) (Q:Exit->Act->World->Prop) (n:Nat) (F:PF) (w:World):Prop:= ∀a,Fr n [] F a->c.wpIn Fence.wide 0 P Q a w
def WRI (P:Program) (ops:Array Oper) (Q:Exit->Act->World->Prop) (k n:Nat) (F:PF) (w:World):Prop:= ∀a,Fr n [] F a->wpListIn Fence.wide 0 P ops Q (ops.toList.drop k) a w
section
variable {P:Program} {ops:Array Oper} {Q:Exit->Act->World->Prop} {k n:Nat} {F F':PF} {w w':World}
def yx8 {o:Oper} {a:Act} {K} (h:o.uponIn Fence.wide 0 P a K Q ((execOp a.eval o).run P w)):o.wpIn Fence.wide 0 P a w K Q:=
 ⟨fun _ _=>trivial,by rw [show Fence.wide.round=none from rfl,Oper.semAt_none];exact h⟩
def WRI.step {o} (c:dec ops k n F=some o) (h: ∀a,Fr n [] F a->execOp a.eval o=execOp (evD F) o->o.wpIn Fence.wide 0 P a w (wpListIn Fence.wide 0 P ops Q (ops.toList.drop (k+1))) Q):WRI P ops Q k n F w:=by
 intro a b;obtain ⟨d,_,e,f,g⟩:=zi2 c;rw [zn0 d];unfold wpListIn;rw [if_pos (g b)];exact h a b (jy4 b e f)
def WRI.val {o v} (b:dec ops k n F=some o) (c:(execOp (evD F) o).run P w=.ok (.value v) w') (K:WRI P ops Q (k+1) n (upd F o.dst v) w'):WRI P ops Q k n F w:=
 .step b fun a d e=>yx8 (by rw [e,c];exact K _ (d.upd (zi2 b).2.1 v))
def WRI.skip {o} (b:dec ops k n F=some o) (c:(execOp (evD F) o).run P w=.ok .skip w') (K:WRI P ops Q (k+1) n (upd F o.dst undef) w'):WRI P ops Q k n F w:=
 .step b fun a d e=>yx8 (by rw [e,c];exact K _ (d.upd (zi2 b).2.1 undef))
def WRI.one (h:kz0 P ops k n F w=some (F',w')) (K:WRI P ops Q (k+1) n F' w'):WRI P ops Q k n F w:=by
 unfold kz0 at h;split at h
 ·cases h
 ·rename_i o f;split at h
  ·rename_i c;split at h
   ·rename_i d;have g:dec ops k n F=some o:=by unfold dec;simp only [f,c,d]
    split at h
    ·rename_i v b e;simp only [X0,X7] at h;obtain ⟨rfl,rfl⟩:=h;exact .val g e K
    ·rename_i b e;simp only [X0,X7] at h;obtain ⟨rfl,rfl⟩:=h;exact .skip g e K
    ·cases h
   ·cases h
  ·rename_i c;split at h
   ·rename_i d;simp only [X0,X7] at h;obtain ⟨rfl,rfl⟩:=h;intro a i;rw [zn0 f];unfold wpListIn;rw [if_neg (by rw [yd2 i c];simp)];exact ⟨fun _ _=>trivial,K _ (i.upd d undef)⟩
   ·cases h
  ·cases h
def WRI.evs: ∀(m k F w),evK P ops n m k F w=some (F',w')->WRI P ops Q (k+m) n F' w'->WRI P ops Q k n F w
 |0,_,_,_,h,K=>by
  simp only [evK,X0,X7] at h;obtain ⟨rfl,rfl⟩:=h;exact K
 |m+1,k,F,w,h,K=>by
  unfold evK at h;split at h
  ·rename_i a b c;exact WRI.one c (WRI.evs m (k+1) a b h (by rw [U7,J1 1 m];exact K))
  ·cases h
def WRI.batch (m F') (h:(match evK P ops n m k F w with|some (G,b)=>some (G.keep (F'.map Prod.fst),b)|none=>none)=some (F',w)) (K:WRI P ops Q (k+m) n F' w):WRI P ops Q k n F w:=by
 split at h
 ·rename_i G b c;simp only [X0,X7] at h;obtain ⟨d,rfl⟩:=h;exact .evs m k F _ c fun a e=>K a (e.keep _ d)
 ·cases h
def WRI.load {dst t g o c e} (b:Blk w g c e) (d:zx6 ops k n F=some (dst,t,.pointer (some ⟨g,o,none⟩))) (v) (f:ldv P t c o=some v)
  (K:WRI P ops Q (k+1) n (upd F dst v) w):WRI P ops Q k n F w:=by
 obtain ⟨i,a,rfl,h⟩:=zr3 d;refine .val a (v:=v) (w':=w) ?_ K;rw [h];simp [Instr.loadAt,Instr.sureAddr,zp8 b f]
def qj4 (ops:Array Oper) (k n:Nat) (F:PF):Option (Option Tmp×Value×List Value):=
 match dec ops k n F with|some ⟨dst,.call ⟨.value x,aS,_⟩,_,_,_,_⟩=>some (dst,evD F x,aS.toList.map (evD F))|_=>none
def WRI.yield {dst l us R} (g:qj4 ops k n F=some (dst,.func (.yield l) #[] #[],us)) (t:qa2 P l us.toArray w R)
  (u: ∀e w',R e w'-> ∃v,e=.returned v) (K: ∀v w',R (.returned v) w'->WRI P ops Q (k+1) n (upd F dst v) w'):WRI P ops Q k n F w:=by
 unfold qj4 at g;split at g
 ·rename_i d x aS o ty p y z c;simp only [X0,X7] at g;obtain ⟨rfl,A,rfl⟩:=g;obtain ⟨fn,i,q,j,f,b⟩:=t;refine .step c fun a B C=>yx8 ?_;have r:(execOp (evD F) ⟨d,.call ⟨.value x,aS,o⟩,ty,p,y,z⟩).run P w=.ok (.round l fn i q j) w:=by
   have e:(List.map (evD F) aS.toList).toArray=aS.map (evD F):=by rw [<-Array.toList_map]
   rw [e] at f;simp [execOp,resolve,A,Deferred.ofValue,invoke,f]
  rw [C,r];refine ⟨fun h=>(by cases h),b.mono fun e m s=>?_⟩;obtain ⟨v,rfl⟩:=u e m s;exact K v m s _ (B.upd (zi2 c).2.1 v)
 ·cases g
def WRI.fin (b:Nat.ble ops.size k=true) (K: ∀a,Fr n [] F a->Q .normal a w):WRI P ops Q k n F w:=fun a c=>by
 rw [N4 (by simpa using Y1 b)];exact K a c
def CWI.region {id} (h:WRI P ops Q 0 n F w):CWI P (.region id ops false) Q n F w:=fun a b=>wpIn_region_list (by simpa using h a b)
def CWI.seq {x y} (h:CWI P x (Exit.then (fun a w=> ∃F1,Fr n [] F1 a/\CWI P y Q n F1 w) Q) n F w):CWI P (.seq x y) Q n F w:=
 fun a c=>wpIn_seq (wpIn_mono (h a c) fun e d w' b=>by cases e<;>first|exact b|(obtain ⟨F1,f,g⟩:=b;exact g d f))
def CWI.block {id c} (h:CWI P c (Exit.inBlock id Q) n F w):CWI P (.block id c) Q n F w:=fun a b=>wpIn_block (h a b)
def CWI.cond {c x y} (t) (d:ev F c=some (.bool t)) (e:t=true->CWI P x Q n F w) (f:t=false->CWI P y Q n F w):CWI P (.cond c x y) Q n F w:=
 fun a b=>wpIn_cond_split (b.eval d) (fun h=>e h a b) (fun h=>f h a b)
def CWI.skip (K: ∀a,Fr n [] F a->Q .normal a w):CWI P .skip Q n F w:=fun a b=>wpIn_skip (K a b)
def CWI.exit {id} (K: ∀a,Fr n [] F a->Q (.exit id) a w):CWI P (.exit id) Q n F w:=fun a b=>wpIn_exit (K a b)
end
def jx5 {Q id a w} (h:Q .normal a w):Exit.inBlock id Q (.exit id) a w:=by
 show (if id=id then Q .normal a w else Q (.exit id) a w);rw [if_pos rfl];exact h
def jx1 {P n F w f fn c args R} (b:P.funcs[f]?=some fn) (d:fn.body=some c) (e:fn.ntmps=n) (g:Nat.ble args.size n=true)
  (l) (hF:(yx9 args.toList 0).keep l=F) (h:CWI P c (bodyPostM Fence.wide 0 P fn R) n F w):Calls P f args w R:=by
 have j:args.size<=n:=Y1 g;refine callsIn_wide.1 (callsIn_of_wp_marks (F:=Fence.wide) (n:=0) b d trivial (h _ (Fr.keep ⟨?_,rfl,?_⟩ l hF)))
 ·simp [e];omega
 ·intro i v m;obtain ⟨_,a⟩:=zu5 args.toList 0 i v m;simp only [J5,Array.getElem?_toList] at a;have o:=(Y3.1 a).1;refine ⟨?_,by omega⟩;rw [Y7,Array.getElem?_append_left o,a];rfl
section
variable {T:Tab}
def qa6 (H:List (Ent T.U)) (t:TypeId) (i:Nat):Option Int:=
 match H[i]? with
 |some (.blk a [.cell ⟨.int .i64,x⟩])=>match Nat.beq a t with|true=>some x|false=>none
 |_=>none
def kp5 (a b:TypeId) (H:List (Ent T.U)):List (AV T.U)->Option (Int×Int)
 | [.ptr i 0,.ptr j 0]=>match qa6 H a i,qa6 H b j with|some x,some y=>some (x,y)|_,_=>none
 |_=>none
def gj7 (b c:TypeId):ItS T where
 cnt:=fun a H=>match kp5 b c H a with|some (x,_)=>j8 (decide (x<=8)) (some x.toNat) none|none=>none
 item:=fun a H k=>match kp5 b c H a with
  |some (x,y)=>some [cI T .i64 (IntKind.i64.wrap (y+(k:Int))),cI T .i64 (IntKind.i64.wrap (8*IntKind.i64.wrap (IntKind.i64.wrap (x-1)-(k:Int))))]
  |none=>none
def yy1 {H t i x} (h:qa6 H t i=some x):H[i]?=some (.blk t [cI T .i64 x]):=by
 unfold qa6 at h;split at h
 ·rename_i c y a;split at h
  ·rename_i b;cases h;rw [a,X1 b]
  ·cases h
 ·cases h
def jv4 {b c H a x y} (h:kp5 b c H a=some (x,y)): ∃i j,a= [.ptr i 0,.ptr j 0]/\H[i]?=some (.blk b [cI T .i64 x])/\H[j]?=some (.blk c [cI T .i64 y]):=by
 unfold kp5 at h;split at h
 ·rename_i i j;split at h
  ·rename_i f g d e;simp only [X0,X7] at h;obtain ⟨rfl,rfl⟩:=h;exact ⟨i,j,rfl,yy1 d,yy1 e⟩
  ·cases h
 ·cases h
variable {w0 w:World} {S0:Ow} {F:AF T} {H:List (Ent T.U)} {F':PF} {S:List Nat} {φ:Nat->RA}
def yq6 (e:Sim T w0 S0 ⟨F,H⟩ F' w S φ) {i t x} (f:H[i]?=some (.blk t [cI T .i64 x])) {g} (h:(φ i).ad=some ⟨g,0,none⟩):Blk w g #[.int .i64 x] t:=by
 obtain ⟨o,c,b,j,_,l⟩:=e.ents i _ f;rw [h] at b;simp only [X0,Addr.mk.injEq,and_true] at b;subst b;have a:=l.vrl T rfl
 match m:c.toList,a with
 | [v],a=>
  obtain ⟨d,_⟩:=a;have d:CR T w S (.int .i64) x v:=d;cases d;have:c= #[Value.int .i64 x]:=Array.toList_inj.1 (by rw [m]);rw [<-this];exact j
 | [],a=>exact a.elim
 |_::_::_,a=>exact a.2.elim
def gc1 {P g f h}
  (p: ∀(m o l:Nat) (sz:Int) (J:Nat->World->Prop) (w:World),sz<=8->(∃y,Blk w m #[.int .i64 sz] f/\Blk w o #[.int .i64 y] h)->
   (∀k W,k<sz.toNat->J k W-> ∃x y,Blk W m #[.int .i64 x] f/\Blk W o #[.int .i64 y] h/\qa2 P l #[.int .i64 (IntKind.i64.wrap (y+(k:Int))),.int .i64 (IntKind.i64.wrap (8*IntKind.i64.wrap (IntKind.i64.wrap (x-1)-(k:Int))))] W fun e t=>e=.returned (.bool true)/\J (k+1) t)->
   J 0 w->Calls P g #[.func (.yield l) #[] #[],.pointer (some ⟨m,0,none⟩),.pointer (some ⟨o,0,none⟩)] w fun e t=>(∃v,e=.returned v)/\J sz.toNat t):gh7 T P g (gj7 f h):=by
 intro q H N r w0 S0 F F' w S φ V M u;have d:(match kp5 f h H q with|some (x,_)=>j8 (decide (x<=8)) (some x.toNat) none|none=>none)=some N:=r;clear r;split at d<;>try (cases d;done)
 rename_i x y X;obtain ⟨i,j,rfl,z,Y⟩:=jv4 X;rcases zh9 d with ⟨Z,d⟩|⟨_,d⟩
 case inr=>cases d
 simp only [X0] at d;subst d
 match V,u with
 | [v1,v2],u=>
  obtain ⟨⟨m,a1,rfl⟩,⟨o,a2,rfl⟩,_⟩:=u;refine ⟨fun k W us=> ∃x y,Blk W m #[.int .i64 x] f/\Blk W o #[.int .i64 y] h/\us= [.int .i64 (IntKind.i64.wrap (y+(k:Int))),.int .i64 (IntKind.i64.wrap (8*IntKind.i64.wrap (IntKind.i64.wrap (x-1)-(k:Int))))],fun _=>True,?_,fun _ _ _ _ _ _ _ _ _ _ _=>trivial,?_⟩
  ·intro k H1 v w0 S0 F F' w1 S1 φ1 _ b s A;have b:(match kp5 f h H1 [.ptr i 0,.ptr j 0] with
    |some (x,y)=>some [cI T .i64 (IntKind.i64.wrap (y+(k:Int))),cI T .i64 (IntKind.i64.wrap (8*IntKind.i64.wrap (IntKind.i64.wrap (x-1)-(k:Int))))]
    |none=>none)=some v:=b
   split at b<;>try (cases b;done)
   rename_i B C D;simp only [X0] at b;subst b;obtain ⟨i',j',e,E,G⟩:=jv4 D;simp only [List.cons.injEq,AV.ptr.injEq,and_true] at e;obtain ⟨rfl,rfl⟩:=e;obtain ⟨⟨g1',I,O⟩,⟨g2',K,R⟩,_⟩:=A;simp only [Value.pointer.injEq,X0,Addr.mk.injEq,and_true] at O R;subst O;subst R;refine ⟨_,⟨B,C,yq6 s E I,yq6 s G K,rfl⟩,⟨.int _ _,.int _ _,trivial⟩,fun a U=>?_⟩;simp only [Z0,J4,or_false] at U;rcases U with rfl|rfl<;>exact zd7 rfl (by intro i z;cases z)
  ·intro l J c _ _ h0;have L:x<=8:=of_decide_eq_true Z;refine p m o l x J w L ⟨y,yq6 M z a1,yq6 M Y a2⟩ (fun k W hk hJ=>?_) h0;obtain ⟨us,⟨B,C,b1,b2,rfl⟩,hy⟩:=c k W hk hJ;exact ⟨B,C,b1,b2,hy⟩
end
end Go.X
