import Derived.Orders
import Derived.Deep.Quiet
import Derived.KernelRfl
import Derived.Below
import Derived.WalkKit
import Derived.Recover
import Derived.MapKept
import Derived.ProofKit
import Derived.OpenShut
import Derived.Carry
import Derived.JoinedCond
import Derived.Deep.Slices
set_option linter.defProp false
namespace Go.V
open Go.RowKit
abbrev X0:= @Option.some.injEq
abbrev X1:= @Nat.eq_of_beq_eq_true
abbrev X2:= @List.getElem?_eq_some_iff
abbrev X3:= @Bool.and_eq_true
abbrev X4:= @List.mem_append
abbrev X5:= @Option.some.inj
abbrev X6:= @List.mem_of_getElem?
abbrev X7:= @Prod.mk.injEq
abbrev X8:= @List.getElem?_append_left
abbrev X9:= @List.length_append
abbrev Y0:= @List.getElem?_eq_getElem
abbrev Y1:= @Nat.le_of_ble_eq_true
abbrev Y2:= @List.getD_eq_getElem?_getD
abbrev Y3:= @Array.getElem?_eq_some_iff
abbrev Y4:= @List.getElem?_cons_zero
abbrev Y5:= @List.getElem?_eq_none
abbrev Y6:= @List.length_take
abbrev Y7:= @Array.getD_eq_getD_getElem?
abbrev Y8:= @List.all_eq_true
abbrev Y9:= @List.mem_iff_getElem?
abbrev Z0:= @List.mem_cons
abbrev Z1:= @Int.toNat_natCast
abbrev Z2:= @List.getElem?_append_right
abbrev Z3:= @List.getElem?_take
abbrev Z4:= @List.mem_cons_of_mem
abbrev Z5:= @List.getElem?_set_ne
abbrev Z6:= @Array.getElem?_eq_getElem
abbrev Z7:= @List.take_append_of_le_length
abbrev Z8:= @Option.map_some
abbrev Z9:= @List.length_replicate
abbrev Q0:= @List.getElem?_set_self
abbrev Q1:= @List.length_set
abbrev Q2:= @List.append_assoc
abbrev Q3:= @List.take_of_length_le
abbrev Q4:= @List.mem_singleton
abbrev Q5:= @List.getElem?_drop
abbrev Q6:= @List.length_drop
abbrev Q7:= @List.take_append_drop
abbrev Q8:= @Nat.mul_le_mul_right
abbrev Q9:= @List.mem_filter
abbrev W0:= @List.getElem?_map
abbrev W3:= @Nat.ble_eq_true_of_le
abbrev W4:= @decide_eq_true
abbrev W5:= @decide_eq_false
abbrev W6:= @Nat.le_refl
abbrev W7:= @Nat.zero_add
abbrev W8:= @List.map_cons
abbrev W9:= @Nat.le_trans
abbrev U0:= @List.mem_map
abbrev U1:= @Bool.not_true
abbrev U2:= @List.mem_cons_self
abbrev U3:= @List.drop_eq_getElem_cons
abbrev U4:= @List.all_cons
abbrev U5:= @Bool.not_false
abbrev U6:= @List.length_cons
abbrev U7:= @Nat.add_assoc
abbrev U8:= @Option.getD_some
abbrev U9:= @Nat.blt_eq
abbrev V0:= @List.length_map
abbrev V1:= @Nat.zero_le
abbrev V2:= @Bool.eq_iff_iff
abbrev V3:= @List.flatMap_cons
abbrev V4:= @List.drop_of_length_le
abbrev V5:= @Nat.lt_of_lt_of_le
abbrev V6:= @List.map_append
abbrev V7:= @Nat.add_mul
abbrev V8:= @Bool.not_eq_true'
abbrev V9:= @List.mem_range
abbrev J0:= @List.getElem_mem
abbrev J1:= @Nat.add_comm
abbrev J2:= @Nat.beq_refl
abbrev J3:= @List.mem_of_mem_take
abbrev J4:= @List.not_mem_nil
abbrev J5:= @Nat.sub_zero
abbrev J6:= @Nat.le_succ_of_le
abbrev J7:= @Nat.min_eq_left
abbrev J8:= @List.nil_append
abbrev J9:= @Nat.add_zero
abbrev K1:= @Bool.or_eq_true
abbrev K3:= @List.mem_or_eq_of_mem_set
abbrev K4:= @Nat.succ_mul
abbrev K5:= @List.map_nil
abbrev K6:= @Int.pow_pos
abbrev K7:= @Nat.zero_mul
abbrev K8:= @List.append_nil
abbrev K9:= @Nat.lt_trichotomy
abbrev M0:= @Bool.and_self
abbrev M1:= @List.set_getElem_self
abbrev M2:= @List.take_length
abbrev M3:= @List.mem_flatMap
abbrev M4:= @Bool.true_and
abbrev M5:= @List.cons_append
abbrev M6:= @List.flatMap_append
abbrev M7:= @Int.le_of_lt
abbrev M8:= @List.drop_zero
abbrev M9:= @Nat.add_sub_cancel_left
abbrev N0:= @Array.length_toList
abbrev N1:= @Array.toList_map
abbrev N2:= @Nat.mul_succ
abbrev N3:= @Nat.eq_zero_or_pos
abbrev N4:= @List.drop_eq_nil_of_le
abbrev N5:= @Bool.false_eq_true
abbrev N6:= @List.set_cons_zero
abbrev N7:= @List.reverse_cons
abbrev N8:= @Option.isSome_iff_exists
abbrev N9:= @List.eq_nil_of_length_eq_zero
abbrev T0:= @List.append_eq_nil_iff
abbrev T1:= @List.length_eraseIdx_of_lt
abbrev T2:= @Int.eq_ofNat_of_zero_le
abbrev PF:=List (Nat×Value)
def PF.get:PF->Nat->Option Value
 | [],_=>none
 |(j,v)::r,i=>match Nat.beq j i with|true=>some v|false=>PF.get r i
def PF.keep (F:PF):List Nat->PF
 | []=> []
 |i::r=>match F.get i with|some v=>(i,v)::F.keep r|none=>F.keep r
def upd (F:PF) (dst:Option Tmp) (v:Value):PF:=match dst with|some d=>(d,v)::F|none=>F
def ev (F:PF):Operand->Option Value
 | .tmp t=>F.get t
 | .const v=>some v
 | .global g=>some (.pointer (some ⟨g,0,none⟩))
 | .func f=>some (.func (.func f) #[] #[])
def evD (F:PF) (x:Operand):Value:=(ev F x).getD undef
structure Fr (n:Nat) (ds:List Deferred) (F:PF) (a:Act):Prop where
 size:a.tmps.size=n
 defers:a.defers=ds
 val: ∀i v,F.get i=some v->a.tmps.getD i undef=v/\i<n
def PF.get_keep (F:PF) (i:Nat) (v:Value): ∀l:List Nat,(F.keep l).get i=some v->F.get i=some v
 | [],h=>by simp [PF.keep,PF.get] at h
 |j::r,h=>by
  unfold PF.keep at h;split at h
  ·rename_i u a;simp only [PF.get] at h;split at h
   ·rename_i b;have:=X1 b;subst this;rw [a];exact h
   ·exact PF.get_keep F i v r h
  ·exact PF.get_keep F i v r h
def Fr.keep {n ds F F' a} (h:Fr n ds F a) (l) (b:F.keep l=F'):Fr n ds F' a:=
 ⟨h.size,h.defers,fun i v c=>h.val i v (PF.get_keep F i v l (by rw [b];exact c))⟩
def Fr.eval {n:Nat} {ds:List Deferred} {F:PF} {a:Act} (h:Fr n ds F a) {x:Operand} {v:Value} (hx:ev F x=some v):a.eval x=v:=by
 cases x with
 |tmp t=>exact (h.val t v hx).1
 |const u=>simpa [ev,Act.eval] using hx
 |global g=>simpa [ev,Act.eval] using hx
 |func f=>simpa [ev,Act.eval] using hx
def zi4 (n:Nat):Option Tmp->Bool|some d=>Nat.blt d n|none=>true
def Fr.upd {n ds F a} (h:Fr n ds F a) {dst} (j:zi4 n dst=true) (v):Fr n ds (upd F dst v) (a.put dst v):=by
 cases dst with
 |none=>exact h
 |some d=>
  have b:d<n:=by simpa [zi4,U9] using j
  refine ⟨by simp [Act.put,h.size],by simp [Act.put,h.defers],?_⟩;intro i u c;simp only [Go.V.upd,PF.get] at c;split at c
  ·rename_i f;have:=X1 f;subst this;simp only [X0] at c;subst c;refine ⟨?_,b⟩;simp only [Act.put];rw [Y7,Array.getElem?_setIfInBounds_self_of_lt (by rw [h.size];exact b)];rfl
  ·rename_i f;have g:d≠i:=fun e=>by subst e;simp at f
   have:=h.val i u c;refine ⟨?_,this.2⟩;simp only [Act.put];rw [Y7,Array.getElem?_setIfInBounds_ne g,<-Array.getD_eq_getD_getElem?];exact this.1
def ya5 (ops:Array Oper) (F:PF) (j:Nat):Option (Option Bool):=
 match (ops[j]?).bind (·.dst) with
 |some d=>match F.get d with|some (.bool b)=>some (some b)|some (.tuple _)=>some none|_=>none
 |none=>none
def jm0 {ops F j b n ds a} (h:Fr n ds F a) (f:ya5 ops F j=some b):yielded ops a.tmps j=b:=by
 unfold ya5 at f;unfold yielded;split at f
 ·rename_i d m;rw [m];have g: ∀v,F.get d=some v->a.tmps[d]?=some v:=by
   intro v o;have:=h.val d _ o;have i:d<a.tmps.size:=by rw [h.size];exact this.2
   have e:=this.1;rw [Y7,Z6 i] at e;rw [Z6 i];simpa using e
  split at f
  ·rename_i c l;simp only [Option.bind_some,g _ l];simpa using f
  ·rename_i c l;simp only [Option.bind_some,g _ l];simpa using f
  ·cases f
 ·cases f
def zc7 (o:Oper):Bool:=match o.op with| .select ..=>false|_=>true
def zy4 (F:PF) (o:Oper):Bool:=o.op.operands.toList.all fun x=>(ev F x).isSome
def zs1 (ops:Array Oper) (F:PF) (o:Oper):Option Bool:=
 match o.guard with
 |none=>some true
 |some (j,b)=>(ya5 ops F j).map fun c=>match c,b with|some true,true=>true|some false,false=>true|_,_=>false
def yd2 {ops F o b n ds a} (h:Fr n ds F a) (e:zs1 ops F o=some b):Region.wanted o (yielded ops a.tmps)=b:=by
 unfold zs1 at e;unfold Region.wanted;split at e
 ·rename_i f;rw [f];simpa using e
 ·rename_i j c f;rw [f];cases hv:ya5 ops F j with
  |none=>rw [hv] at e;cases e
  |some d=>
   rw [hv] at e;simp only [Z8,X0] at e;simp only [jm0 h hv];subst e;rcases d with _|d
   ·cases c<;>rfl
   ·cases d<;>cases c<;>rfl
def dec (ops:Array Oper) (k n:Nat) (F:PF):Option Oper:=
 match ops[k]? with
 |none=>none
 |some o=>
  match zs1 ops F o with
  |some true=>match (zi4 n o.dst&&(zc7 o&&zy4 F o)) with|true=>some o|false=>none
  |_=>none
def zi2 {ops k n F o} (h:dec ops k n F=some o):
  ops[k]?=some o/\zi4 n o.dst=true/\(∀cs b,o.op≠.select cs b)/\(∀x∈o.op.operands,(ev F x).isSome=true)/\
  ∀ {ds:List Deferred} {a:Act},Fr n ds F a->Region.wanted o (yielded ops a.tmps)=true:=by
 unfold dec at h;split at h
 ·cases h
 ·rename_i o' f;split at h
  ·rename_i g;split at h
   ·rename_i c;simp only [X0] at h;subst h;simp only [X3] at c;refine ⟨f,c.1,?_,?_,fun d=>yd2 d g⟩
    ·intro cs b e;have:=c.2.1;simp [zc7,e] at this
    ·intro x i;have:=c.2.2;unfold zy4 at this;rw [Y8] at this;exact this x (Array.mem_toList_iff.2 i)
   ·cases h
  ·cases h
def jy4 {n ds F a o} (h:Fr n ds F a) (d: ∀cs b,o.op≠.select cs b) (e: ∀x∈o.op.operands,(ev F x).isSome=true):
  execOp a.eval o=execOp (evD F) o:=
 execOp_congr o d fun x f=>by
  obtain ⟨v,c⟩:=N8.1 (e x f);rw [h.eval c];simp [evD,c]
def kz0 (P:Program) (ops:Array Oper) (k n:Nat) (F:PF) (w:World):Option (PF×World):=
 match ops[k]? with
 |none=>none
 |some o=>
  match zs1 ops F o with
  |some true=>
   match (zi4 n o.dst&&(zc7 o&&zy4 F o)) with
   |true=>
    match (execOp (evD F) o).run P w with
    | .ok (.value v) w'=>some (upd F o.dst v,w')
    | .ok .skip w'=>some (upd F o.dst undef,w')
    |_=>none
   |false=>none
  |some false=>match zi4 n o.dst with|true=>some (upd F o.dst undef,w)|false=>none
  |none=>none
def evK (P:Program) (ops:Array Oper) (n:Nat):Nat->Nat->PF->World->Option (PF×World)
 |0,_,F,w=>some (F,w)
 |m+1,k,F,w=>match kz0 P ops k n F w with|some (F',w')=>evK P ops n m (k+1) F' w'|none=>none
def WR (P:Program) (ops:Array Oper) (Q:Exit->Act->World->Prop) (k n:Nat) (ds:List Deferred) (F:PF) (w:World):Prop:=
 ∀a,Fr n ds F a->wpList P ops Q (ops.toList.drop k) a w
def CW (P:Program) (c:Code) (Q:Exit->Act->World->Prop) (n:Nat) (ds:List Deferred) (F:PF) (w:World):Prop:=
 ∀a,Fr n ds F a->c.wp P Q a w
section
variable {P:Program} {ops:Array Oper} {Q:Exit->Act->World->Prop} {k n:Nat} {ds:List Deferred} {F F':PF} {w w':World}
def zn0 {o} (h:ops[k]?=some o):ops.toList.drop k=o::ops.toList.drop (k+1):=by
 have a:k<ops.toList.length:=by
  have:=(Y3.1 h).1;simpa using this
 rw [U3 a];congr 1;have:=(Y3.1 h).2;simpa using this
def WR.step {o} (c:dec ops k n F=some o)
  (h: ∀a,Fr n ds F a->execOp a.eval o=execOp (evD F) o->o.wp P a w (wpList P ops Q (ops.toList.drop (k+1))) Q):WR P ops Q k n ds F w:=by
 intro a b;obtain ⟨d,_,e,f,g⟩:=zi2 c;rw [zn0 d];unfold wpList;rw [if_pos (g b)];exact .inl (h a b (jy4 b e f))
def WR.val {o v} (b:dec ops k n F=some o) (c:(execOp (evD F) o).run P w=.ok (.value v) w')
  (K:WR P ops Q (k+1) n ds (upd F o.dst v) w'):WR P ops Q k n ds F w:=
 .step b fun a d e=>by
  unfold Oper.wp;rw [e,c];exact K _ (d.upd (zi2 b).2.1 v)
def WR.skip {o} (b:dec ops k n F=some o) (c:(execOp (evD F) o).run P w=.ok .skip w')
  (K:WR P ops Q (k+1) n ds (upd F o.dst undef) w'):WR P ops Q k n ds F w:=
 .step b fun a d e=>by
  unfold Oper.wp;rw [e,c];exact K _ (d.upd (zi2 b).2.1 undef)
def WR.enter {o:Oper} {f:FuncId} {args:Array Value} {R:Ending->World->Prop} (hd:dec ops k n F=some o) (hr:(execOp (evD F) o).run P w=.ok (.enter f args) w')
  (hc:Calls P f args w' R) (K: ∀v w'',R (.returned v) w''->WR P ops Q (k+1) n ds (upd F o.dst v) w'')
  (hp: ∀ch w'',R (.panicked ch) w''-> ∀a,Fr n ds F a->Q (.panic ch) a w'') (ho: ∀w'',R .outgrown w''->LetsOut Q):WR P ops Q k n ds F w:=
 .step hd fun a ha he=>by
  unfold Oper.wp;rw [he,hr];refine hc.mono fun e w'' hR=>?_;cases e with
  |returned v=>exact K v w'' hR _ (ha.upd (zi2 hd).2.1 v)
  |panicked ch=>exact hp ch w'' hR a ha
  |outgrown=>exact ho w'' hR
def WR.throw {o v} (b:dec ops k n F=some o) (c:(execOp (evD F) o).run P w=.halt (.panic v) w')
  (K: ∀a,Fr n ds F a->Q (.panic [{v,recovered:=false}]) a w'):WR P ops Q k n ds F w:=
 .step b fun a d e=>by
  unfold Oper.wp;rw [e,c];exact K a d
def WR.fin (b:Nat.ble ops.size k=true) (K: ∀a,Fr n ds F a->Q .normal a w):WR P ops Q k n ds F w:=fun a c=>by
 rw [N4 (by simpa using Y1 b)];exact K a c
def CW.region {id} (h:WR P ops Q 0 n ds F w):CW P (.region id ops false) Q n ds F w:=fun a b=>wp_region_list (by simpa using h a b)
def CW.skip (K: ∀a,Fr n ds F a->Q .normal a w):CW P .skip Q n ds F w:=fun a b=>wp_skip (K a b)
def CW.ret (K: ∀a,Fr n ds F a->Q .ret a w):CW P .ret Q n ds F w:=fun a b=>wp_ret (K a b)
def CW.exit {id} (K: ∀a,Fr n ds F a->Q (.exit id) a w):CW P (.exit id) Q n ds F w:=fun a b=>wp_exit (K a b)
def CW.block {id c} (h:CW P c (Exit.inBlock id Q) n ds F w):CW P (.block id c) Q n ds F w:=fun a b=>wp_block (h a b)
def CW.cond {c x y} (t) (d:ev F c=some (.bool t)) (e:t=true->CW P x Q n ds F w) (f:t=false->CW P y Q n ds F w):CW P (.cond c x y) Q n ds F w:=
 fun a b=>wp_cond_split (b.eval d) (fun h=>e h a b) (fun h=>f h a b)
end
section
variable {P:Program} {n:Nat} {F:PF} {w:World}
def yx9 (l:List Value):Nat->PF
 |i=>match l with| []=> []|v::r=>(i,v)::yx9 r (i+1)
def zu5 (l): ∀(i j v),(yx9 l i).get j=some v->i<=j/\l[j-i]?=some v:=by
 induction l with
 |nil=>intro i j v h;simp [yx9,PF.get] at h
 |cons u r b=>
  intro i j v h;simp only [yx9,PF.get] at h;split at h
  ·rename_i a;have:=X1 a;subst this;simpa using h
  ·rename_i a;have c:i≠j:=fun e=>by subst e;simp at a
   obtain ⟨f,d⟩:=b (i+1) j v h;refine ⟨by omega,?_⟩;rw [show j-i=(j-(i+1))+1 by omega];simpa using d
end
end Go.V
namespace Go.V
open Go.RowKit
structure Chg (S:List Nat) (w w':World):Prop where
 os:w'.os=w.os
 tape:w'.tape=w.tape
 output:w'.output=w.output
 size:w.heap.size<=w'.heap.size
 block: ∀k,k<w.heap.size->k∉S->w'.heap[k]?=w.heap[k]?
def Chg.refl (S w):Chg S w w:=⟨rfl,rfl,rfl,W6 _,fun _ _ _=>rfl⟩
def Chg.step {S T w0 w w'} (h:Chg S w0 w) (a:Chg T w w') (e: ∀t∈T,t∈S\/w0.heap.size<=t):Chg S w0 w':=
 ⟨a.os.trans h.os,a.tape.trans h.tape,a.output.trans h.output,W9 h.size a.size,fun k b c=>
  (a.block k (V5 b h.size) fun f=>by rcases e k f with d|d;exact c d;omega).trans (h.block k b c)⟩
def Chg.pure {S w0 w w'} (h:Chg S w0 w) (a:Chg [] w w'):Chg S w0 w':=h.step a (by simp)
def Chg.drew (w):Chg [] w {w with drawn:=w.drawn+1}:=⟨rfl,rfl,rfl,W6 _,fun _ _ _=>rfl⟩
def Chg.below {w w'} (h:Chg [] w w'):Below w.heap.size w w':=⟨h.os,h.tape,h.output,h.size,fun k a=>h.block k a (by simp)⟩
def Chg.ofBelow {w w'} (h:Below w.heap.size w w'):Chg [] w w':=⟨h.os,h.tape,h.output,h.size,fun k a _=>h.block k a⟩
def Chg.alloc (w o):Chg [] w (w.alloc o):=⟨rfl,rfl,rfl,by simp,fun k a _=>Below.heap_alloc w o k a⟩
def Blk (w:World) (g:Nat) (c:Array Value) (e:TypeId):Prop:=w.heap[g]?=some (.cells c e (0,0))
def Blk.lt {w g c e} (h:Blk w g c e):g<w.heap.size:=(Y3.1 h).1
def Blk.chg {S w w' g c e} (h:Blk w g c e) (a:Chg S w w') (b:g∉S):Blk w' g c e:=(a.block g h.lt b).trans h
structure New (w w':World) (g:Nat) (c:Array Value) (e:TypeId):Prop where
 blk:Blk w' g c e
 chg:Chg [] w w'
 fresh:w.heap.size<=g
def New.alloc (w c e):New w (w.alloc (.cells c e)) w.heap.size c e:=⟨heap_alloc_new w _,Chg.alloc w _,W6 _⟩
def bk:Option Addr->Nat|some a=>a.block|none=>0
def of:Option Addr->Nat|some a=>a.off|none=>0
def Rg (w:World) (ad:Option Addr) (cs:List Value):Prop:=
 ∀j u,cs[j]?=some u->ad=some ⟨bk ad,of ad,none⟩/\w.cell? ⟨bk ad,of ad+j,none⟩=some u
def Rg.nil (w ad):Rg w ad []:=fun j u h=>by simp at h
def Rg.chg {S w w' ad cs} (h:Rg w ad cs) (d:Chg S w w') (a:bk ad∉S\/cs= []):Rg w' ad cs:=by
 intro j u b;obtain ⟨e,c⟩:=h j u b;refine ⟨e,?_⟩;rcases a with a|a
 ·exact (World.cell?_of_block (d.block _ (World.block_lt_of_cell? w _ c) a)).trans c
 ·subst a;simp at b
def Rg.blk {w g a c e} (h:Blk w g c e) (cs) (b: ∀j u,cs[j]?=some u->c[a+j]?=some u):Rg w (some ⟨g,a,none⟩) cs:=by
 intro j u d;refine ⟨rfl,?_⟩;have:=cell_of_row w g (a+j) c e (0,0) h;show w.cell? ⟨g,a+j,none⟩=some u;rw [this];exact b j u d
def Rg.sub {w ad cs} (h:Rg w ad cs) (l m a) (c:ad=some ⟨bk ad,of ad,none⟩->a=some ⟨bk ad,of ad+l,none⟩):Rg w a ((cs.drop l).take m):=by
 intro j u b;rw [Z3] at b;split at b
 ·rw [Q5] at b;obtain ⟨d,f⟩:=h (l+j) u b;have e:=c d;subst e;exact ⟨rfl,by simpa [bk,of,U7] using f⟩
 ·cases b
def Own (w:World) (B:Nat) (e:TypeId) (sz:Nat) (ad:Option Addr) (n cap:Nat) (cs:List Value):Prop:=w.ownsRow B e sz (.slice ad n cap) n cs
def Own.len {w B e sz ad n cap cs} (h:Own w B e sz ad n cap cs):cs.length=n*sz:=h.1
def Own.cases {w B e sz ad n cap cs} (h:Own w B e sz ad n cap cs):
  (ad=none/\n=0/\cap=0/\cs= [])\/ ∃c,ad=some ⟨bk ad,0,none⟩/\B<=bk ad/\Blk w (bk ad) c e/\n<=cap/\cap<=maxLen/\c.size=cap*sz/\c.toList.take (n*sz)=cs:=by
 obtain ⟨i,a⟩:=h;rcases a with ⟨a,r⟩|⟨g,d,b,f,j,l,m,o,p,q⟩
 ·simp only [Value.slice.injEq] at a;obtain ⟨rfl,rfl,rfl⟩:=a;exact .inl ⟨rfl,rfl,rfl,N9 (by simpa using i)⟩
 ·simp only [Value.slice.injEq,true_and] at f;obtain ⟨rfl,rfl⟩:=f;exact .inr ⟨b,rfl,j,l,m,o,p,q⟩
def Own.rg {w B e sz ad n cap cs} (h:Own w B e sz ad n cap cs):Rg w ad cs:=by
 rcases h.cases with ⟨_,_,_,rfl⟩|⟨c,b,_,d,_,_,_,f⟩
 ·exact Rg.nil _ _
 ·rw [b];refine Rg.blk d cs fun j u a=>?_;rw [<-f,Z3] at a;split at a
  ·simpa using a
  ·cases a
def Own.chg {S w w' B e sz ad n cap cs} (h:Own w B e sz ad n cap cs) (j:Chg S w w') (a:bk ad∉S\/ad=none):Own w' B e sz ad n cap cs:=by
 obtain ⟨l,d⟩:=h;refine ⟨l,?_⟩;rcases d with d|⟨g,b,f,c,m,i,r⟩
 ·exact .inl d
 ·refine .inr ⟨g,b,f,c,m,?_,r⟩;simp only [Value.slice.injEq,true_and] at c;rcases a with a|a
  ·rw [c.1] at a;exact (j.block g (Y3.1 i).1 a).trans i
  ·rw [a] at c;simp at c
def Own.nil (w B e sz):Own w B e sz none 0 0 []:=World.ownsRow_nil w B e sz
def Own.le {w B e sz ad n cap cs} (h:Own w B e sz ad n cap cs):n<=cap/\cap<=maxLen:=by
 rcases h.cases with ⟨_,rfl,rfl,_⟩|⟨c,_,_,_,a,b,_⟩
 ·exact ⟨W6 _,V1 _⟩
 ·exact ⟨a,b⟩
def Own.ge {w B e sz ad n cap cs} (h:Own w B e sz ad n cap cs):ad=none\/(B<=bk ad/\bk ad<w.heap.size):=by
 rcases h.cases with ⟨a,_⟩|⟨c,_,a,b,_⟩
 ·exact .inl a
 ·exact .inr ⟨a,b.lt⟩
def ldv (P:Program) (t:TypeId) (c:Array Value) (o:Nat):Option Value:=
 match P.info? t,P.underlying t with
 |some i,some (.struct _)|some i,some (.array _ _)=>match Nat.ble (o+i.size) c.size with|true=>some (.agg (c.extract o (o+i.size)))|false=>none
 |some _,some _=>c[o]?
 |_,_=>none
def zt2 (P:Program) (t:TypeId):Bool:=match P.underlying t with|some (.struct _)|some (.array _ _)=>false|some _=>true|none=>false
def yf4:TypeDesc->Bool| .struct _=>true| .array _ _=>true|_=>false
def zr8 {P t d} (h:P.underlying t=some d) (w):(isAgg t).run P w=.ok (yf4 d) w:=by
 unfold isAgg;rw [Sem.run_bind];have:(underlying t).run P w=.ok d w:=by simp [underlying,h]
 rw [this];cases d<;>rfl
def zs4 {P t} (h:zt2 P t=true) {a w v} (b:w.cell? a=some v):(loadVar t a).run P w=.ok v w:=by
 unfold zt2 at h;cases hd:P.underlying t with
 |none=>rw [hd] at h;cases h
 |some d=>
  rw [hd] at h;unfold loadVar;rw [Sem.run_bind,zr8 hd];cases d<;>first|(cases h;done)|simp [yf4,load,Sem.run,b]
def jl1 (w:World) (g:Nat) (c:Array Value) (e:TypeId) (d:Nat×Nat) (f:w.heap[g]?=some (.cells c e d)) (o n:Nat) (i:o+n<=c.size) (P:Program):
  (loadCells ⟨g,o,none⟩ n).run P w=.ok (c.extract o (o+n)) w:=by
 have:=run_loadCells_list (P:=P) (w:=w) ⟨g,o,none⟩ (c.extract o (o+n)).toList (fun j v b=>by
  have a:(⟨g,o,none⟩:Addr).add j=⟨g,o+j,none⟩:=by unfold Addr.add;split<;>simp_all
  rw [a,cell_of_row w g (o+j) c e d f];simp only [Array.getElem?_toList,Array.getElem?_extract] at b;split at b
  ·exact b
  ·cases b)
 have h:(c.extract o (o+n)).toList.length=n:=by simp;omega
 rw [h] at this;rw [this]
def zp8 {P t w g o c e l v} (s:w.heap[g]?=some (.cells c e l)) (h:ldv P t c o=some v):
  (loadVar t ⟨g,o,none⟩).run P w=.ok v w:=by
 unfold ldv at h;have agg: ∀(i:TypeInfo) (d:TypeDesc),P.info? t=some i->P.underlying t=some d->yf4 d=true->
   (match Nat.ble (o+i.size) c.size with|true=>some (Value.agg (c.extract o (o+i.size)))|false=>none)=some v->(loadVar t ⟨g,o,none⟩).run P w=.ok v w:=by
  intro i d b a m j;split at j
  ·rename_i p;simp only [X0] at j;subst j;have f:=Y1 p;unfold loadVar;rw [Sem.run_bind,zr8 a,m];have u:(sizeOf t).run P w=.ok i.size w:=by simp [sizeOf,typeInfo,b]
   simp only [Result.andThen_ok,if_true,Sem.run_bind,u,jl1 w g c e l s o i.size f P,Sem.run_pure]
  ·cases j
 split at h
 ·rename_i i _ b a;exact agg i _ b a rfl h
 ·rename_i i _ _ b a;exact agg i _ b a rfl h
 ·rename_i i d q r b a;refine zs4 ?_ (by rw [cell_of_row w g o c e l s];exact h);unfold zt2;rw [a];cases d<;>first|rfl|(exact absurd rfl (q _))|(exact absurd rfl (r _ _))|skip
  all_goals simp_all
 ·cases h
def yz2 (c:Array Value) (o:Nat):List Value->Array Value
 | []=>c
 |v::r=>yz2 (c.setIfInBounds o v) (o+1) r
def stv (P:Program) (t:TypeId) (c:Array Value) (o:Nat) (v:Value):Option (Array Value):=
 match P.info? t with
 |some i=>match (Nat.beq v.cells.size i.size&&(Nat.ble (o+i.size) c.size&&v.cells.toList.all Value.oneCell')) with|true=>some (yz2 c o v.cells.toList)|false=>none
 |none=>none
def zm2 (P e g): ∀(vs o i c w),Blk w g c e->o+i+vs.length<=c.size->(∀v∈vs,v.oneCell'=true)->
  ∃w',(storeCells ⟨g,o,none⟩ vs i).run P w=.ok () w'/\Blk w' g (yz2 c (o+i) vs) e/\Chg [g] w w'
 | [],o,i,c,w,b,_,_=>⟨w,rfl,b,Chg.refl _ _⟩
 |v::r,o,i,c,w,b,p,m=>by
  simp only [U6] at p;have d:(⟨g,o,none⟩:Addr).add i=⟨g,o+i,none⟩:=by unfold Addr.add;split<;>simp_all
  have a:w.cell? ⟨g,o+i,none⟩=some c[o+i]:=by
   rw [cell_of_row w g (o+i) c e (0,0) b,Z6 (by omega)]
  have f:=frozen_of_row w g (o+i) c e b;have h:(store ((⟨g,o,none⟩:Addr).add i) v).run P w=.ok () (w.setCell ⟨g,o+i,none⟩ v):=by
   rw [d];have:=run_store P w ⟨g,o+i,none⟩ v .plain (m v (by simp));rw [this];simp [a,f]
  have j:Blk (w.setCell ⟨g,o+i,none⟩ v) g (c.setIfInBounds (o+i) v) e:=heap_setCell_same w g (o+i) c e v b;obtain ⟨w',q,s,t⟩:=zm2 P e g r o (i+1) _ _ j (by simp;omega) (fun u x=>m u (by simp [x]));refine ⟨w',?_,s,?_⟩
  ·unfold storeCells;rw [Sem.run_bind,h];exact q
  ·have l:Chg [g] w (w.setCell ⟨g,o+i,none⟩ v):=⟨rfl,rfl,rfl,by simp,fun k _ y=>heap_setCell_other w _ k v (by simpa using y)⟩;exact l.step t (by simp)
def yt8 {P t w g o c c' e v} (f:Blk w g c e) (h:stv P t c o v=some c'):
  ∃w',(storeVar t ⟨g,o,none⟩ v).run P w=.ok () w'/\Blk w' g c' e/\Chg [g] w w':=by
 unfold stv at h;split at h
 ·rename_i i j;split at h
  ·rename_i a;simp only [X0] at h;subst h;simp only [X3] at a;have b:v.cells.size=i.size:=X1 a.1;have l:=Y1 a.2.1;have d: ∀u∈v.cells.toList,u.oneCell'=true:=by
    have:=a.2.2;rw [Y8] at this;exact this
   obtain ⟨w',m,p,q⟩:=zm2 P e g v.cells.toList o 0 c w f (by simp [b];omega) d;refine ⟨w',?_,p,q⟩;have r:(sizeOf t).run P w=.ok i.size w:=by simp [sizeOf,typeInfo,j]
   unfold storeVar;simp only [Sem.run_bind,r,Result.andThen_ok,b,ne_eq,not_true_eq_false,if_false,m]
  ·cases h
 ·cases h
section
variable {P:Program} {ops:Array Oper} {Q:Exit->Act->World->Prop} {k n:Nat} {ds:List Deferred} {F:PF} {w:World}
def qa8 (ops:Array Oper) (k n:Nat) (F:PF):Option (Option Tmp×TypeId×Value):=
 match dec ops k n F with|some ⟨dst,.box e x,_,_,_,_⟩=>some (dst,e,evD F x)|_=>none
def WR.box {dst e v} (a:qa8 ops k n F=some (dst,e,v)) (c) (f:v.cells=c)
  (K: ∀g w',New w w' g c e->WR P ops Q (k+1) n ds (upd F dst (.pointer (some ⟨g,0,none⟩))) w'):WR P ops Q k n ds F w:=by
 unfold qa8 at a;split at a
 ·rename_i d h x ty i j l b;simp only [X0,X7] at a;obtain ⟨rfl,rfl,rfl⟩:=a;subst f;exact .val b (v:=.pointer (some ⟨w.heap.size,0,none⟩)) (w':=w.alloc (.cells (evD F x).cells h)) rfl (K _ _ (New.alloc w _ _))
 ·cases a
def yq8 (ops:Array Oper) (k n:Nat) (F:PF):Option (Option Tmp×TypeId):=
 match dec ops k n F with|some ⟨dst,.alloc e,_,_,_,_⟩=>some (dst,e)|_=>none
def qf2 (P:Program) (e:TypeId):Option (Array Value):=match P.info? e with|some i=>(match i.zero with|some z=>some z.cells|none=>none)|none=>none
def yz9 {e c} (h:qf2 P e=some c): ∃i z,P.info? e=some i/\i.zero=some z/\z.cells=c:=by
 unfold qf2 at h;split at h
 ·rename_i i a;split at h
  ·rename_i z b;exact ⟨i,z,a,b,by simpa using h⟩
  ·cases h
 ·cases h
def WR.alloc {dst e} (a:yq8 ops k n F=some (dst,e)) (c) (f:qf2 P e=some c)
  (K: ∀g w',New w w' g c e->WR P ops Q (k+1) n ds (upd F dst (.pointer (some ⟨g,0,none⟩))) w'):WR P ops Q k n ds F w:=by
 unfold yq8 at a;split at a
 ·rename_i d h ty j o p b;simp only [X0,X7] at a;obtain ⟨rfl,rfl⟩:=a;obtain ⟨i,z,l,m,rfl⟩:=yz9 f;refine .val b (v:=.pointer (some ⟨w.heap.size,0,none⟩)) (w':=w.alloc (.cells z.cells h)) ?_ (K _ _ (New.alloc w _ _));simp [execOp,Instr.alloc,zeroValue,typeInfo,l,m,newVar,newRow]
 ·cases a
def zx6 (ops:Array Oper) (k n:Nat) (F:PF):Option (Option Tmp×TypeId×Value):=
 match dec ops k n F with|some ⟨dst,.load t x,_,_,_,_⟩=>some (dst,t,evD F x)|_=>none
def zr3 {dst t p} (a:zx6 ops k n F=some (dst,t,p)): ∃o,dec ops k n F=some o/\o.dst=dst/\
  execOp (evD F) o=(do pure (.value (<-Instr.loadAt t p)):Sem Next):=by
 unfold zx6 at a;split at a
 ·rename_i d e x ty c f g b;simp only [X0,X7] at a;obtain ⟨rfl,rfl,rfl⟩:=a;exact ⟨_,b,rfl,rfl⟩
 ·cases a
def yq9 (ops:Array Oper) (k n:Nat) (F:PF):Option (TypeId×Value×Value):=
 match dec ops k n F with|some ⟨none,.store t a x,_,_,_,_⟩=>some (t,evD F a,evD F x)|_=>none
def WR.store {t g o c e v} (f:Blk w g c e) (b:yq9 ops k n F=some (t,.pointer (some ⟨g,o,none⟩),v)) (c') (h:stv P t c o v=some c')
  (K: ∀w',Blk w' g c' e->Chg [g] w w'->WR P ops Q (k+1) n ds F w'):WR P ops Q k n ds F w:=by
 unfold yq9 at b;split at b
 ·rename_i q a x ty i r s d;simp only [X0,X7] at b;obtain ⟨rfl,j,rfl⟩:=b;obtain ⟨w',l,m,p⟩:=yt8 (P:=P) f h;refine .skip d (w':=w') ?_ (K w' m p);simp [execOp,Instr.storeAt,Instr.sureAddr,j,l]
 ·cases b
def yf7 (ops:Array Oper) (k n:Nat) (F:PF):Option (Option Tmp×TypeId×Value×Value):=
 match dec ops k n F with|some ⟨dst,.indexAddr t x i,_,_,_,_⟩=>some (dst,t,evD F x,evD F i)|_=>none
def zu8 (P:Program) (t:TypeId):Option Nat:=match P.underlying t with|some (.slice e)=>(P.info? e).map (·.size)|_=>none
def Ret (S:List Nat) (w:World) (R:Value->World->Prop):Ending->World->Prop
 | .returned v,w'=>Chg S w w'/\R v w'
 |_,_=>False
def ud5 (w:World) (v:Value):Ending->World->Prop:=Ret [] w fun u _=>u=v
def ye5 (P:Program) (ops:Array Oper) (k n:Nat) (F:PF) (w:World):Option (Option Tmp×Result Next):=
 match dec ops k n F with|some o=>some (o.dst,(execOp (evD F) o).run P w)|none=>none
def qg0 {w dst r} (h:ye5 P ops k n F w=some (dst,r)): ∃o,dec ops k n F=some o/\o.dst=dst/\(execOp (evD F) o).run P w=r:=by
 unfold ye5 at h;split at h
 ·rename_i o a;simp only [X0,X7] at h;exact ⟨o,a,h.1,h.2⟩
 ·cases h
def WQ (P:Program) (ops:Array Oper) (C:World->Prop) (Qf:Act->Prop) (k n:Nat) (ds:List Deferred) (F:PF):Prop:=
 ∀a,Fr n ds F a->wpQuiet P ops C Qf (ops.toList.drop k) a
def CW.regionQ {id} (b:P.follows .mixedOrders=true) (c:Region.lexB .any ops=true)
  (h:WQ P ops (fun w'=>Chg [] w w') (fun d=> ∀w',Chg [] w w'->Q .normal d w') 0 n ds F):CW P (.region id ops true) Q n ds F w:=
 fun a e=>wp_region_quiet (C:=fun w'=>Chg [] w w') b c (Chg.drew w) (by simpa using h a e)
variable {C:World->Prop} {Qf:Act->Prop}
def WQ.step {o v} (d:dec ops k n F=some o) (h: ∀w,C w->Oper.quietUpon P C w v ((execOp (evD F) o).run P w))
  (K:WQ P ops C Qf (k+1) n ds (upd F o.dst v)):WQ P ops C Qf k n ds F:=by
 intro a c;obtain ⟨e,b,f,g,i⟩:=zi2 d;rw [zn0 e];unfold wpQuiet;rw [if_pos (i c)];refine ⟨v,fun w j=>?_,K _ (c.upd b v)⟩;unfold Oper.quietAt;rw [jy4 c f g];exact h w j
def WQ.pass {o} (c:ops[k]?=some o) (d:zs1 ops F o=some false) (e:zi4 n o.dst=true) (K:WQ P ops C Qf (k+1) n ds (upd F o.dst undef)):WQ P ops C Qf k n ds F:=by
 intro a b;rw [zn0 c];unfold wpQuiet;rw [if_neg (by rw [yd2 b d];simp)];exact K _ (b.upd e undef)
def zy3 (ops:Array Oper) (k n:Nat) (F:PF):Option (Option Tmp):=
 match ops[k]? with
 |some o=>(match zs1 ops F o with|some false=>(match zi4 n o.dst with|true=>some o.dst|false=>none)|_=>none)
 |none=>none
def WQ.pass1 {dst} (h:zy3 ops k n F=some dst) (K:WQ P ops C Qf (k+1) n ds (upd F dst undef)):WQ P ops C Qf k n ds F:=by
 unfold zy3 at h;split at h
 ·rename_i o a;split at h
  ·rename_i b;split at h
   ·rename_i c;simp only [X0] at h;subst h;exact .pass a b c K
   ·cases h
  ·cases h
 ·cases h
def jx3 {dst t b o m cap q i sz} (f:yf7 ops k n F=some (dst,t,.slice (some ⟨b,o,none⟩) m cap,.int q i)) (a:zu8 P t=some sz)
  (r:0<=i) (s:i<m): ∃j,dec ops k n F=some j/\j.dst=dst/\ ∀w,(execOp (evD F) j).run P w=.ok (.value (.pointer (some ⟨b,o+i.toNat*sz,none⟩))) w:=by
 unfold yf7 at f;split at f
 ·rename_i d u x B ty v D E g;simp only [X0,X7] at f;obtain ⟨rfl,rfl,y,l⟩:=f;unfold zu8 at a;split at a
  ·rename_i e z;cases hinf:P.info? e with
   |none=>rw [hinf] at a;cases a
   |some c=>
    rw [hinf] at a;simp only [Z8,X0] at a;refine ⟨_,g,rfl,fun w=>?_⟩;have A:(sizeOf e).run P w=.ok c.size w:=by simp [sizeOf,typeInfo,hinf]
    have p:(underlying u).run P w=.ok (.slice e) w:=by simp [underlying,z]
    have h:(⟨b,o,none⟩:Addr).add (i.toNat*c.size)=⟨b,o+i.toNat*c.size,none⟩:=by unfold Addr.add;split<;>simp_all
    simp only [execOp,y,l];simp [Instr.indexAt,asIntOf,p,r,s,A,<-a,h]
  ·cases a
 ·cases f
def WQ.fin (b:Nat.ble ops.size k=true) (K: ∀w',Chg [] w w'-> ∀a,Fr n ds F a->Q .normal a w'):WQ P ops C (fun c=> ∀w',Chg [] w w'->Q .normal c w') k n ds F:=fun a d=>by
 rw [N4 (by simpa using Y1 b)];exact fun w' h=>K w' h a d
end
end Go.V
namespace Go.V
open Go.RowKit
def zv1 (ad:Option Addr):List Nat:=match ad with|some a=> [a.block]|none=> []
def Own.nil0 {w B e sz ad n cap cs} (h:Own w B e sz ad n cap cs) (b:ad=none):n=0/\cap=0:=by
 rcases h.cases with ⟨_,a,d,_⟩|⟨c,a,_⟩
 ·exact ⟨a,d⟩
 ·rw [b] at a;cases a
section
variable {P:Program} {ops:Array Oper} {Q:Exit->Act->World->Prop} {k n:Nat} {ds:List Deferred} {F:PF} {w:World}
def zv7 (P:Program) (t:TypeId):Option (TypeId×Nat×Nat×Array Value):=
 match P.underlying t with
 |some (.slice e)=>(match P.info? e with|some i=>(match i.zero with|some z=>(match Nat.beq z.cells.size i.size with|true=>some (e,i.size,i.bytes,z.cells)|false=>none)|none=>none)|none=>none)
 |_=>none
def zj2 {t e sz a b} (h:zv7 P t=some (e,sz,a,b)):
  ∃i z,P.underlying t=some (.slice e)/\P.info? e=some i/\i.zero=some z/\i.size=sz/\i.bytes=a/\z.cells=b/\b.size=sz:=by
 unfold zv7 at h;split at h
 ·rename_i j c;split at h
  ·rename_i i d;split at h
   ·rename_i z f;split at h
    ·rename_i g;simp only [X0,X7] at h;obtain ⟨rfl,rfl,rfl,rfl⟩:=h;exact ⟨i,z,c,d,f,rfl,rfl,rfl,X1 g⟩
    ·cases h
   ·cases h
  ·cases h
 ·cases h
def je2 (ops:Array Oper) (k n:Nat) (F:PF):Option (Option Tmp×TypeId×Value×Value):=
 match dec ops k n F with|some ⟨dst,.makeSlice t l c,_,_,_,_⟩=>some (dst,t,evD F l,evD F c)|_=>none
def WR.make {dst t e kl r l c sz a s} (b:je2 ops k n F=some (dst,t,.int kl l,.int r c)) (x:zv7 P t=some (e,sz,a,s)) (m m':Nat) (y:l=(m:Int)) (o:c=(m':Int)) (A:m<=m')
  (j:a*m'<=281474976710656) (B:m'<=9223372036854775807)
  (K: ∀g w',New w w' g (madeCells s (m'*sz)) e->WR P ops Q (k+1) n ds (upd F dst (.slice (some ⟨g,0,none⟩) m m')) w'):WR P ops Q k n ds F w:=by
 subst y o;unfold je2 at b;split at b
 ·rename_i d C L M ty D N O f;simp only [X0,X7] at b;obtain ⟨rfl,rfl,E,G⟩:=b;obtain ⟨i,z,H,p,I,rfl,rfl,rfl,J⟩:=zj2 x;have q:(i.bytes:Int)*(m':Int)<=281474976710656:=by
   have h:((i.bytes*m':Nat):Int)<=281474976710656:=by omega
   rwa [Int.natCast_mul] at h
  have u:=run_make (P:=P) w C e i z H p I kl r m m' (by omega) (by omega) q (by omega);simp only [Z1] at u;refine .val f (v:=.slice (some ⟨w.heap.size,0,none⟩) m m') (w':=w.alloc (.cells (madeCells z.cells (m'*i.size)) e)) ?_ (K _ _ (New.alloc w _ _));simp [execOp,E,G,u]
 ·cases b
def Own.made {w w' g b e sz m m'} (h:New w w' g (madeCells b (m'*sz)) e) (a:m<=m') (c:m'<=9223372036854775807):
  Own w' w.heap.size e sz (some ⟨g,0,none⟩) m m' ((madeCells b (m'*sz)).toList.take (m*sz)):=by
 refine ⟨?_,.inr ⟨g,m',madeCells b (m'*sz),rfl,h.fresh,h.blk,a,by unfold maxLen;omega,by simp [size_madeCells],rfl⟩⟩;have:m*sz<=m'*sz:=Q8 _ a;rw [Y6,N0,size_madeCells,J7 this]
def jl2 (ops:Array Oper) (k n:Nat) (F:PF):Option (Option Tmp×TypeId×Value×Value):=
 match dec ops k n F with
 |some ⟨dst,.call {callee:=.builtin .append,args:=a,argTypes:=ats},_,_,_,_⟩=>
  (match a.toList,ats.toList with| [s,x],[t,b]=>(match Nat.beq t b with|true=>some (dst,t,evD F s,evD F x)|false=>none)|_,_=>none)
 |_=>none
def qf8 {dst t s x} (h:jl2 ops k n F=some (dst,t,s,x)):
  ∃o,dec ops k n F=some o/\o.dst=dst/\ ∀w,(execOp (evD F) o).run P w=((Builtin.append_ #[t,t] o.type #[s,x]).run P w).andThen fun v w'=>.ok (.value v) w':=by
 unfold jl2 at h;split at h
 ·rename_i d a b ty i r u c;split at h
  ·rename_i j l g y m e;split at h
   ·rename_i p;have:=X1 p;subst this;simp only [X0,X7] at h;obtain ⟨rfl,rfl,rfl,rfl⟩:=h;refine ⟨_,c,rfl,fun w=>?_⟩;have q:a= #[j,l]:=by rw [<-Array.toArray_toList (xs:=a),m]
    have f:b= #[g,g]:=by rw [<-Array.toArray_toList (xs:=b),e]
    subst q f;simp [execOp,resolve,invoke,builtin]
   ·cases h
  ·cases h
 ·cases h
def WR.append {dst t e sz R zc B ad L m cap d l cs c} (O:Own w B e sz ad m cap cs) (hx:Rg w L c)
  (hd:jl2 ops k n F=some (dst,t,.slice ad m cap,.slice L d l)) (hi:zv7 P t=some (e,sz,R,zc)) (G:c.length=d*sz) (Y:0<sz) (h1: ∀u∈c,u.oneCell'=true) (hB:B<=w.heap.size)
  (h63:m+d<=9223372036854775807) (T:(m+d)*R<=140737488355328) (hnil:L=none->d=0/\l=0)
  (K: ∀D H w',Own w' B e sz D (m+d) H (cs++c)->Chg (zv1 ad) w w'->(D=ad\/w.heap.size<=bk D)->WR P ops Q (k+1) n ds (upd F dst (.slice D (m+d) H)) w'):WR P ops Q k n ds F w:=by
 obtain ⟨o,y,rfl,A⟩:=qf8 hd;obtain ⟨i,z,M,q,hz,rfl,rfl,rfl,Z⟩:=zj2 hi;have E:=O.le;have I: ∀(b h j:Nat),(⟨b,h,none⟩:Addr).add j=⟨b,h+j,none⟩:=fun b h j=>by unfold Addr.add;split<;>simp_all
 by_cases hx0:d=0
 ·
  subst hx0;have hn:c= []:=N9 (by simpa using G);subst hn;have J:(Builtin.append_ #[t,t] o.type #[.slice ad m cap,.slice L 0 l]).run P w=.ok (.slice ad m cap) w:=by
   cases ad with
   |none=>
    cases L with
    |none=>simp [Builtin.append_,run_underlying M,sizeOf,typeInfo,q,Builtin.lenOf,Builtin.firstCells,E.1]
    |some a=>simp [Builtin.append_,run_underlying M,sizeOf,typeInfo,q,Builtin.lenOf,Builtin.firstCells,loadCells,loadCellsFrom,E.1]
   |some g=>
    cases L with
    |none=>simp [Builtin.append_,run_underlying M,sizeOf,typeInfo,q,Builtin.lenOf,Builtin.firstCells,storeCells,E.1]
    |some a=>simp [Builtin.append_,run_underlying M,sizeOf,typeInfo,q,Builtin.lenOf,Builtin.firstCells,loadCells,loadCellsFrom,storeCells,E.1]
  exact .val y (v:=.slice ad (m+0) cap) (w':=w) (by rw [A,J];rfl) (K ad cap w (by simpa using O) (Chg.refl _ _) (.inl rfl))
 ·have hxm:0<d:=by omega
  have hne:c≠ []:=by
   intro e;rw [e] at G;have:=Nat.mul_pos hxm Y;simp at G;omega
  obtain ⟨b,h,rfl⟩: ∃b h,L=some ⟨b,h,none⟩:=by
   cases c with
   |nil=>exact absurd rfl hne
   |cons u r=>exact ⟨_,_,(hx 0 u rfl).1⟩
  have s: ∀j v,c[j]?=some v->w.cell? ((⟨b,h,none⟩:Addr).add j)=some v:=fun j v hj=>by rw [I];exact (hx j v hj).2
  have p:(cs++c).length=(m+d)*i.size:=by rw [X9,O.len,G,V7]
  have C: ∀(f:Nat),Own (w.drew.alloc (.cells (cs.toArray++c.toArray++Builtin.zeroCells z.cells (grownCap w (m+d) f e-(m+d))) e)) B e i.size (some ⟨w.heap.size,0,none⟩) (m+d) (grownCap w (m+d) f e) (cs++c):=by
   intro f;have hge:=grownCap_ge w (m+d) f e;have hcm:grownCap w (m+d) f e<=maxLen:=grownCap_le_maxLen w (m+d) f e (by unfold maxLen;omega);refine ⟨p,.inr ⟨w.heap.size,_,_,rfl,hB,heap_alloc_new w.drew _,hge,hcm,?_,?_⟩⟩
   ·have hs:cs.length+c.length=(m+d)*i.size:=by rw [<-List.length_append];exact p
    have:(m+d)*i.size+(grownCap w (m+d) f e-(m+d))*i.size=grownCap w (m+d) f e*i.size:=by rw [<-Nat.add_mul];congr 1;omega
    simp only [Array.size_append,List.size_toArray,size_zeroCells,Z];omega
   ·simp only [Array.toList_append,Q2];rw [<-List.append_assoc,<-p];exact List.take_left
  have U: ∀(f:Nat) (S:List Nat),Chg S w (w.drew.alloc (.cells (cs.toArray++c.toArray++Builtin.zeroCells z.cells (grownCap w (m+d) f e-(m+d))) e)):=
   fun f S=>⟨rfl,rfl,rfl,by simp,fun k hk _=>Below.heap_alloc w.drew _ k hk⟩
  rcases O.cases with ⟨rfl,rfl,rfl,rfl⟩|⟨c',had,hBb,V,hmc',W,hcs,htk⟩
  ·have J:=run_append_nil (P:=P) w t o.type e i z M q hz ⟨b,h,none⟩ d l c G s (by omega) (by omega) (by have hb:=T;simp only [W7] at hb;omega);have hg:=C 0;have hc:=U 0 (zv1 none);simp only [W7,J8,Array.empty_append] at hg hc J;refine .val y (v:=.slice (some ⟨w.heap.size,0,none⟩) (0+d) (grownCap w d 0 e)) (by rw [A,J,W7];rfl) (K _ _ _ (by simpa using hg) hc (.inr (W6 _)))
  ·obtain ⟨g,rfl⟩: ∃g,ad=some ⟨g,0,none⟩:=⟨_,had⟩;by_cases x:m+d<=cap
   ·have X:m*i.size+c.length<=c'.size:=by rw [G,hcs,<-Nat.add_mul];exact Q8 _ x
    have J:=run_append_room (P:=P) w t o.type e i M q g m cap c' V ⟨b,h,none⟩ d l c G s h1 x X;refine .val y (v:=.slice (some ⟨g,0,none⟩) (m+d) cap) (by rw [A,J];rfl) (K (some ⟨g,0,none⟩) cap _ ?_ ?_ (.inl rfl))
    ·refine ⟨p,.inr ⟨g,cap,_,rfl,hBb,setRow_heap w g c' _ e _ V,x,W,?_,?_⟩⟩
     ·simp only [List.size_toArray,X9,Y6,Q6,N0];omega
     ·rw [htk,<-p];exact List.take_left
    ·exact ⟨rfl,rfl,rfl,by simp,fun k _ hk=>setRow_other w g k _ (fun e=>hk (by simp [zv1,e]))⟩
   ·have N: ∀j v,cs[j]?=some v->w.cell? ((⟨g,0,none⟩:Addr).add j)=some v:=fun j v hj=>by rw [I];exact (O.rg j v hj).2
    have J:=run_append_grow (P:=P) w t o.type e i z M q hz ⟨g,0,none⟩ m cap cs O.len N ⟨b,h,none⟩ d l c G s (by omega) (by omega) (growslice_fits (by omega) T);exact .val y (v:=.slice (some ⟨w.heap.size,0,none⟩) (m+d) (grownCap w (m+d) cap e)) (by rw [A,J];rfl) (K _ _ _ (C cap) (U cap _) (.inr (W6 _)))
def yd4 (P:Program) (t:TypeId) (a:Nat) (b:List (Nat×Value)):Option (TypeId×Array Value):=
 match P.underlying t with
 |some (.slice e)=>(match P.info? e with
  |some i=>(match Nat.ble (a*i.size) 16777216 with
   |true=>(match (match Nat.beq (a*i.size) 0 with|true=>some #[]|false=>(match i.zero with|some z=>some z.cells|none=>none)) with
    |some zero=>(match Instr.fill (fun j=>some (j*i.size,i.size)) ((Array.range (a*i.size)).map (zero[· %zero.size]!)) b with|some c=>some (e,c)|none=>none)
    |none=>none)
   |false=>none)
  |none=>none)
 |_=>none
def vt4 (P:Program) (ops:Array Oper) (k n:Nat) (F:PF):Option (Option Tmp×Nat×TypeId×Array Value):=
 match dec ops k n F with
 |some ⟨dst,.buildSlice t b a,_,_,_,_⟩=>(match yd4 P t b (a.map fun (i,x)=>(i,evD F x)).toList with|some (e,c)=>some (dst,b,e,c)|none=>none)
 |_=>none
def WR.bslice {dst f e} (c) (h:vt4 P ops k n F=some (dst,f,e,c))
  (K: ∀g w',New w w' g c e->WR P ops Q (k+1) n ds (upd F dst (.slice (some ⟨g,0,none⟩) f f)) w'):WR P ops Q k n ds F w:=by
 unfold vt4 at h;split at h
 ·rename_i d t l r ty G M N p;split at h
  ·rename_i H c' b;simp only [X0,X7] at h;obtain ⟨rfl,rfl,rfl,rfl⟩:=h;refine .val p (v:=.slice (some ⟨w.heap.size,0,none⟩) l l) (w':=w.alloc (.cells c' H)) ?_ (K _ _ (New.alloc w _ _));unfold yd4 at b;split at b
   ·rename_i s I;split at b
    ·rename_i i D;split at b
     ·rename_i u;have E:=Y1 u;split at b
      ·rename_i zero o;split at b
       ·rename_i x a;simp only [X0,X7] at b;obtain ⟨rfl,rfl⟩:=b;have J:(sizeOf s).run P w=.ok i.size w:=by simp [sizeOf,typeInfo,D]
        have L: ¬(16777216<l*i.size):=by omega
        have y:(underlying t).run P w=.ok (.slice s) w:=by simp [underlying,I]
        simp only [execOp,Instr.buildSlice,Sem.run_bind,y,Result.andThen_ok,J];simp only [Nat.reducePow,gt_iff_lt,L,if_false];by_cases q:l*i.size=0
        ·have A:zero= #[]:=by
          split at o
          ·simpa using o.symm
          ·rename_i j;simp [q] at j
         subst A;simp only [q,if_true,Sem.run_bind,Sem.run_pure,Result.andThen_ok] at a⊢;simp only [a];simp [newRow]
        ·obtain ⟨z,m,B⟩: ∃z,i.zero=some z/\z.cells=zero:=by
          split at o
          ·rename_i j;exact absurd (X1 j) q
          ·split at o
           ·rename_i z m;exact ⟨z,m,by simpa using o⟩
           ·cases o
         have C:(zeroValue s).run P w=.ok z w:=by simp [zeroValue,typeInfo,D,m]
         subst B;simp only [q,if_false,Sem.run_bind,Sem.run_pure,C,Result.andThen_ok];simp only [a];simp [newRow]
       ·cases b
      ·cases b
     ·cases b
    ·cases b
   ·cases b
  ·cases h
 ·cases h
def zu6 (ops:Array Oper) (k n:Nat) (F:PF):Option (Option Tmp×TypeId×Value×Option Value×Option Value):=
 match dec ops k n F with|some ⟨dst,.slice t x a b none,_,_,_,_⟩=>some (dst,t,evD F x,a.map (evD F),b.map (evD F))|_=>none
def zw5 {dst t x b c} (h:zu6 ops k n F=some (dst,t,x,b,c)):
  ∃o,dec ops k n F=some o/\o.dst=dst/\execOp (evD F) o=(do pure (.value (<-Instr.sliceAt t x b c none)):Sem Next):=by
 unfold zu6 at h;split at h
 ·rename_i d f g l' i ty e j l a;simp only [X0,X7] at h;obtain ⟨rfl,rfl,rfl,rfl,rfl⟩:=h;exact ⟨_,a,rfl,rfl⟩
 ·cases h
def yk3 {t e} (h:P.underlying t=some (.slice e)):P.underlying t=some (.slice (P.elem t)):=by
 have:P.elem t=e:=by simp [Program.elem,h]
 rw [this];exact h
def qw6 (P:Program) (t:TypeId):Option Nat:=(P.info? t).map (·.size)
def Own.ofBlk {w g c e B n cap sz} (h:Blk w g c e) (f:B<=g) (b:n<=cap) (i:cap<=9223372036854775807) (d:c.size=cap*sz) (cs) (a:c.toList.take (n*sz)=cs):Own w B e sz (some ⟨g,0,none⟩) n cap cs:=by
 subst a;refine ⟨?_,.inr ⟨g,cap,c,rfl,f,h,b,by unfold maxLen;omega,d,rfl⟩⟩;have:n*sz<=cap*sz:=Q8 _ b;rw [Y6,N0,d,J7 this]
end
end Go.V
namespace Go.V
open Go.RowKit
section
variable {P:Program} {ops:Array Oper} {Q:Exit->Act->World->Prop} {k n:Nat} {ds:List Deferred} {F:PF} {w:World}
def WR.defer {dst d} (g:ye5 P ops k n F w=some (dst,.ok (.defer d) w)) (K:WR P ops Q (k+1) n (d::ds) (upd F dst undef) w):WR P ops Q k n ds F w:=by
 obtain ⟨o,f,rfl,b⟩:=qg0 g;refine .step f fun a c h=>?_;unfold Oper.wp;rw [h,b];have e:Fr n (d::ds) F {a with defers:=d::a.defers}:=⟨c.size,by simp [c.defers],c.val⟩;exact K _ (e.upd (zi2 f).2.1 undef)
def jz8:FrameMode->Value×FrameMode
 | .panicking ({v,recovered:=false,goexit:=false}::older)=>(v,.panicking ({v,recovered:=true}::older))
 |u=>(.nilIface,u)
def vw3 (ops:Array Oper):Option Tmp:=match ops[0]? with|some (Oper.mk (some d) (.call (Call.mk (.builtin .recover) _ _)) _ _ _ none)=>some d|_=>none
def jd4 {Q id d} (s:vw3 ops=some d) {c cs v p} (r:jz8 c.mode=(v,p)) {a}
  (h:wpList P ops (fun e a w=>Q e a ({c with mode:=p}::cs) w) (ops.toList.drop 1) (a.put (some d) v) w):(Code.region id ops false).wpS P Q a (c::cs) w:=by
 intro b k I J;unfold vw3 at s;split at s
 ·rename_i B aS C ty D K E;simp only [X0] at s;subst s;have L:0<ops.size:=(Y3.1 E).1;have H:(execOp a.eval ⟨some B,.call {callee:=.builtin .recover,args:=aS,argTypes:=C},ty,D,K,none⟩).run P w=.ok .recover w:=by
   simp [execOp,resolve,invoke,builtin]
  have M:=stepG_op (P:=P) (b:=b) (a:=a) (k:=k) (cs:=c::cs) (w:=w) (rest:=List.range' 1 (ops.size-1)) (i:=0) E (by simp [Region.wanted]);have N:(b.at a (.inRegion ops (0::List.range' 1 (ops.size-1))::k)).kind=.deferred:=I;have l:=tryRecover_deferred N (c::cs);have t: ∀v,(b.at a (.inRegion ops (0::List.range' 1 (ops.size-1))::k)).finish v=b.at (a.put (some B) v) (.inRegion ops (List.range' 1 (ops.size-1))::k):=by
   intro v;rw [Frame.finish_at,E];rfl
  have o:List.range ops.size=0::List.range' 1 (ops.size-1):=by
   obtain ⟨m,u⟩: ∃m,ops.size=m+1:=⟨ops.size-1,by omega⟩;rw [u,List.range_eq_range',List.range'_succ];rfl
  have z:wpOps P ops (fun e a w=>Q e a ({c with mode:=p}::cs) w) (List.range' 1 (ops.size-1)) (a.put (some B) v) w:=by
   have:=wpOps_eq_wpList (P:=P) (ops:=ops) (Q:=fun e a w=>Q e a ({c with mode:=p}::cs) w) (ops.toList.drop 1) 1 (by intro j;simp [J1]);have O:(ops.toList.drop 1).length=ops.size-1:=by simp
   rw [O] at this;rw [this];exact h
  obtain ⟨e,R,w',S,A⟩:=wp_ops _ _ _ z b k ({c with mode:=p}::cs);have q:step P (lone (b.at a (.inRegion ops (0::List.range' 1 (ops.size-1))::k)) (c::cs) w)=.next (lone (b.at (a.put (some B) v) (.inRegion ops (List.range' 1 (ops.size-1))::k)) ({c with mode:=p}::cs) w):=by
   have f:recoverD (c::cs)=some (v,{c with mode:=p}::cs)\/(recoverD (c::cs)=none/\v=.nilIface/\p=c.mode):=by
    unfold jz8 at r;unfold recoverD;split at r
    ·rename_i x g u;simp only [X7] at r;obtain ⟨rfl,rfl⟩:=r;left;simp [u]
    ·rename_i G;simp only [X7] at r;obtain ⟨rfl,rfl⟩:=r;right;refine ⟨?_,rfl,rfl⟩;dsimp only;split
     ·rename_i y g u;exact absurd u (G y g)
     all_goals rfl
   refine step_lone_go ?_;rw [M,<-t];rcases f with f|⟨f,rfl,rfl⟩
   ·simp only [Frame.at] at l⊢;simp [stepG.apply,H,l,f]
   ·simp only [Frame.at] at l⊢;simp [stepG.apply,H,l,f]
  exact ⟨e,R,_,w',S,.of_steps (.head step_region (by rw [o];exact .one q)) A⟩
 ·cases s
def qf6 {f:FuncId} {fn:Func} {id:Nat} {rest:Code} {args:Array Value} {u u':FrameMode} {v:Value} {R:Ending->FrameMode->World->Prop} (hf:P.funcs[f]?=some fn) (hb:fn.body=some (.seq (.region id ops false) rest)) (hn:fn.ntmps=n)
  (hfr:Fr n [] F {tmps:=args++Array.replicate (fn.ntmps-args.size) undef,defers:= []}) (d:Tmp) (hd:vw3 ops=some d) (hdn:zi4 n (some d)=true) (hu:jz8 u=(v,u'))
  (h: ∀K:Act->World->Prop,(∀a w,rest.wp P (bodyPost P fn fun e w'=>R e u' w') a w->K a w)->WR P ops (Exit.then K (bodyPost P fn fun e w'=>R e u' w')) 1 n [] (upd F (some d) v) w):CallsD P f args u w R:=by
 refine callsD_of_wpS hf hb fun c₀ cs hc=>wpS_seq ?_;subst hc;have post: ∀e a w,bodyPost P fn (fun e w'=>R e u' w') e a w->bodyPostS P fn c₀ cs R e a ({c₀ with mode:=u'}::cs) w:=by
  intro e a w hq;cases e with
  |normal=>obtain ⟨h1,v,h2,h3⟩:=hq;exact ⟨h1,u',rfl,v,h2,h3⟩
  |ret=>obtain ⟨h1,v,h2,h3⟩:=hq;exact ⟨h1,u',rfl,v,h2,h3⟩
  |panic ch=>obtain ⟨h1,h2⟩:=hq;exact ⟨h1,u',rfl,h2⟩
  |exit id=>exact hq.elim
  |goto l=>exact hq.elim
  |outgrown=>exact ⟨u',hq⟩
 refine jd4 hd hu ?_;have hw:=h (fun a w=>rest.wp P (bodyPost P fn fun e w'=>R e u' w') a w) (fun _ _ h=>h) _ (hfr.upd hdn v);have mono: ∀(Q Q':Exit->Act->World->Prop),(∀e a w,Q e a w->Q' e a w)-> ∀(l:List Oper) (a:Act) (w:World),wpList P ops Q l a w->wpList P ops Q' l a w:=by
  intro Q Q' hq l;induction l with
  |nil=>intro a w h;exact hq _ _ _ h
  |cons o r ih=>
   intro a w h;unfold wpList at h⊢;split
   ·rename_i hwant;rw [if_pos hwant] at h;rcases h with h|⟨h1,a₀,w₀,h2⟩
    ·left;unfold Oper.wp at h⊢;generalize (execOp a.eval o).run P w=r' at h⊢;unfold Oper.upon at h⊢;split at h
     ·exact ih _ _ h
     ·exact ih _ _ h
     ·exact ih _ _ h
     ·refine h.mono fun e w' he=>?_;cases e with
      |returned v=>exact ih _ _ he
      |panicked ch=>exact hq _ _ _ he
      |outgrown=>obtain ⟨a1,w1,h1⟩:=he;exact ⟨a1,w1,hq _ _ _ h1⟩
     ·exact h.mono fun v w' he=>ih _ _ he
     ·exact hq _ _ _ h
     ·exact h.elim
    ·right;exact ⟨h1,a₀,w₀,hq _ _ _ h2⟩
   ·rename_i hwant;rw [if_neg hwant] at h;exact ih _ _ h
 refine mono _ _ (fun e a w hq=>?_) _ _ _ hw;cases e with
 |normal=>exact wpS_of_wp (wp_mono hq post)
 |ret=>exact post .ret a w hq
 |panic ch=>exact post (.panic ch) a w hq
 |exit id=>exact post (.exit id) a w hq
 |goto l=>exact post (.goto l) a w hq
 |outgrown=>exact post .outgrown a w hq
end
end Go.V
namespace Go.V
open Go.RowKit
section
variable {P:Program} {ops:Array Oper} {Q:Exit->Act->World->Prop} {n:Nat} {ds:List Deferred} {F:PF} {w:World}
def WR.pass1 {k dst} (h:zy3 ops k n F=some dst) (K:WR P ops Q (k+1) n ds (upd F dst undef) w):WR P ops Q k n ds F w:=by
 unfold zy3 at h;split at h
 ·rename_i o c;split at h
  ·rename_i d;split at h
   ·rename_i e;simp only [X0] at h;subst h;intro a b;rw [zn0 c];unfold wpList;rw [if_neg (by rw [yd2 b d];simp)];exact K _ (b.upd e undef)
   ·cases h
  ·cases h
 ·cases h
def zr0 (ops:Array Oper) (i:Nat):List Nat:=match ops[i]? with|some o=>(o.after.toList.filter fun e=>Region.binds .any e).map (·.on)|none=> []
def wa1 (a:List Nat):List Nat->List Nat| []=>a|x::r=>wa1 (match a.contains x with|true=>a|false=>x::a) r
def yo7 (ops:Array Oper):Nat->List (List Nat)
 |0=> []
 |n+1=>yo7 ops n++ [wa1 [] (zr0 ops n++(zr0 ops n).flatMap fun k=>(yo7 ops n).getD k [])]
def qs4 (ops:Array Oper) (m:Nat):List Nat:=(List.range m).filterMap fun i=>(ops[i]?).bind (·.dst)
def zu7:List Nat->Bool| []=>true|a::r=> !r.contains a&&zu7 r
def yh5 (ops:Array Oper):Bool:=(List.range ops.size).all fun i=>(zr0 ops i).all fun j=>Nat.blt j i
def yn1 (ops:Array Oper) (m:Nat):Bool:=(List.range m).all fun i=>match ops[i]? with|some o=>(match o.guard with|some (g,_)=>Nat.blt g i|none=>true)|none=>true
def yr0 (ops:Array Oper) (i:Nat):Option Tmp:=(ops[i]?).bind (·.dst)
inductive Tp (ops:Array Oper):Nat->Nat->Prop
 |one {i j:Nat} (h:(zr0 ops i).contains j=true):Tp ops i j
 |step {i k j:Nat} (h:(zr0 ops i).contains k=true) (t:Tp ops k j):Tp ops i j
def qq6 {x}: ∀ {l a},x∈wa1 a l->x∈a\/x∈l
 | [],_,h=>.inl h
 |y::r,a,h=>by
  unfold wa1 at h;rcases qq6 h with h|h
  ·split at h
   ·exact .inl h
   ·rcases Z0.1 h with rfl|h
    ·exact .inr (U2 ..)
    ·exact .inl h
  ·exact .inr (Z4 _ h)
def yf6 (ops): ∀n,(yo7 ops n).length=n
 |0=>rfl
 |n+1=>by rw [yo7,X9,yf6 ops n];rfl
def zp2: ∀(n j i),i∈(yo7 ops n).getD j []->Tp ops j i
 |0,j,i,h=>by simp [yo7] at h
 |n+1,j,i,h=>by
  rw [yo7,Y2] at h;rcases K9 j n with a|rfl|a
  ·rw [X8 (by rw [yf6];exact a),<-List.getD_eq_getElem?_getD] at h;exact zp2 n j i h
  ·rw [Z2 (by rw [yf6];exact W6 _),yf6,Nat.sub_self] at h;simp only [Y4,U8] at h;rcases qq6 h with h|h
   ·cases h
   ·rcases X4.1 h with h|h
    ·exact .one (by simpa using h)
    ·obtain ⟨k,b,h⟩:=M3.1 h;exact .step (by simpa using b) (zp2 j k i h)
  ·rw [Y5 (by simp [yf6];omega)] at h;simp at h
def Tp.lt (c:yh5 ops=true) {i j} (t:Tp ops i j) (d:i<ops.size):j<i:=by
 have one: ∀a b,a<ops.size->(zr0 ops a).contains b=true->b<a:=by
  intro a b e h;unfold yh5 at c;rw [Y8] at c;have:=c a (V9.2 e);rw [Y8] at this;simpa [U9] using this b (by simpa using h)
 induction t with
 |one h=>exact one _ _ d h
 |step h _ f=>have g:=one _ _ d h;have:=f (by omega);omega
def jx0 {p} (I:Array Bool->Act->World->Prop)
  (step: ∀c a w i,I c a w->i∈Region.ready p ops c->wpOp P ops Q i (I (c.setIfInBounds i true)) a w)
  (k: ∀c a w,I c a w->Region.ready p ops c= []->Q .normal a w):
  ∀(d:Nat) (c:Array Bool) (a:Act) (w:World),(c.size=ops.size/\(c.toList.filter (· ==false)).length<=d)->I c a w->wpAny P p ops Q d c a w
 |0,c,a,w,q,s=>by
  have t:Region.ready p ops c= []:=by
   unfold Region.ready;rw [List.filter_eq_nil_iff];intro i m;have f:i<c.size:=by rw [q.1];simpa using m
   have:c[i]=true:=by
    cases o:c[i] with
    |true=>rfl
    |false=>
     have:c[i]∈c.toList.filter (· ==false):=by
      rw [Q9];exact ⟨by simp,by simp [o]⟩
     have z:=List.length_pos_of_mem this;omega
   simp [this,f]
  exact ⟨t,k c a w s t⟩
 |d+1,c,a,w,q,s=>by
  refine ⟨fun t=>k c a w s t,fun i m=>wpOp_mono (fun x w' u=>jx0 I step k d _ x w' ?_ u) (step c a w i s m)⟩;have j:i<ops.size/\c.getD i true=false:=by
   unfold Region.ready at m;rw [Q9] at m;refine ⟨by simpa using m.1,?_⟩;have:=m.2;rw [X3] at this;simpa using this.1
  refine ⟨by simpa using q.1,?_⟩;have f:i<c.size:=by rw [q.1];exact j.1
  have g:c[i]=false:=by
   have:=j.2;simpa [f] using this
  have v: ∀(l:List Bool) (i:Nat) (h:i<l.length),l[i]=false->((l.set i true).filter (· ==false)).length+1=(l.filter (· ==false)).length:=by
   intro l;induction l with
   |nil=>intro i h;simp at h
   |cons b r y=>
    intro i h o;cases i with
    |zero=>simp at o;subst o;simp
    |succ i=>
     have:=y i (by simpa using h) (by simpa using o);cases b<;>simp_all<;>omega
  have:=v c.toList i (by simpa using f) (by simpa using g);have e:(c.setIfInBounds i true).toList=c.toList.set i true:=by simp
  rw [e];omega
def zt1 (o:Oper):List Nat:=o.op.operands.toList.filterMap fun x=>match x with| .tmp t=>some t|_=>none
def yg0 (ops:Array Oper) (o:Oper):List Nat:=match o.guard with|some (g,_)=>(yr0 ops g).toList|none=> []
def jl3 {m} (h:zu7 (qs4 ops m)=true): ∀i j d,i<m->j<m->(ops[i]?).bind (·.dst)=some d->(ops[j]?).bind (·.dst)=some d->i=j:=by
 have t: ∀(l:List Nat),zu7 (l.filterMap fun i=>(ops[i]?).bind (·.dst))=true->l.Nodup-> ∀i j d,i∈l->j∈l->(ops[i]?).bind (·.dst)=some d->(ops[j]?).bind (·.dst)=some d->i=j:=by
  intro l;induction l with
  |nil=>intro _ _ i j d k;simp at k
  |cons x r B=>
   intro a z i j d k s u v;rw [List.nodup_cons] at z;have c: ∀y e,y∈r->(ops[y]?).bind (·.dst)=some e->e∈r.filterMap fun i=>(ops[i]?).bind (·.dst):=fun y e C D=>List.mem_filterMap.2 ⟨y,C,D⟩;have f:zu7 (r.filterMap fun i=>(ops[i]?).bind (·.dst))=true:=by
    rw [List.filterMap_cons] at a;split at a
    ·exact a
    ·simp only [zu7,X3] at a;exact a.2
   have b: ∀e,(ops[x]?).bind (·.dst)=some e->e∉r.filterMap fun i=>(ops[i]?).bind (·.dst):=by
    intro e A E;rw [List.filterMap_cons] at a;split at a
    ·rename_i o;rw [A] at o;cases o
    ·rename_i G p;rw [A] at p;cases p;simp only [zu7,X3,V8,List.contains_eq_mem,decide_eq_false_iff_not] at a;exact a.1 E
   rcases Z0.1 k with rfl|q
   ·rcases Z0.1 s with rfl|g
    ·rfl
    ·exact absurd (c j d g v) (b d u)
   ·rcases Z0.1 s with rfl|g
    ·exact absurd (c i d q u) (b d v)
    ·exact B f z.2 i j d q g u v
 intro i j d k s;exact t (List.range m) h List.nodup_range i j d (V9.2 k) (V9.2 s)
end
end Go.V
namespace Go.V
open Go.RowKit
def uo9 {α b:Type} (a:α) (f:α->b):b:=f a
def um4 {α a:Type} (o:Option α) (n:a) (f:α->a):a:=match o with|some x=>f x|none=>n
@[simp] theorem uf0 {α b} (a : α) (f : α -> b) : uo9 a f = f a := rfl
@[simp] theorem ud1 {α a} (n : a) (f : α -> a) : um4 none n f = n := rfl
@[simp] theorem ud2 {α b} (a : α) (n : b) (f : α -> b) : um4 (some a) n f = f a := rfl
section
variable {P:Program} {w w':World} {α:Type} {f:FuncId} {args:Array Value}
end
def w8 (k:IntKind) (x y:Int):Int:=k.wrap ((BitVec.ofInt k.bits x&&&BitVec.ofInt k.bits y).toNat:Int)
def bOr (k:IntKind) (x y:Int):Int:=k.wrap ((BitVec.ofInt k.bits x|||BitVec.ofInt k.bits y).toNat:Int)
def vw8 (k:IntKind) (x y:Int):Int:=k.wrap ((BitVec.ofInt k.bits x^^^BitVec.ofInt k.bits y).toNat:Int)
def vd8 (k:IntKind) (x y:Int):Int:=k.wrap ((BitVec.ofInt k.bits x&&& ~~~BitVec.ofInt k.bits y).toNat:Int)
def zm3 (k:IntKind) (x y:Int):Int:=k.wrap (x*2^(min y.toNat k.bits))
def zr2 (k:IntKind) (x y:Int):Int:=x.fdiv (2^(min y.toNat k.bits))
def jl8 (x y:Int):Int:=if y<x then y else x
def ue0 (x y:Int):Int:=if y>x then y else x
section
variable {P:Program} {ops:Array Oper} {k n:Nat} {F:PF} {dst:Option Tmp}
end
section
variable {P:Program}
def ys2 (P:Program) (t:TypeId) (cs:Array Value) (a:Nat):Option Value:=
 match P.underlying t with
 |some d=>(match yf4 d with|true=>(match P.info? t with|some i=>some (.agg (cs.extract a (a+i.size)))|none=>none)|false=>cs[a]?)
 |none=>none
def yi6 {t cs a v} (h:ys2 P t cs a=some v) (w):(part t cs a).run P w=.ok v w:=by
 unfold ys2 at h;split at h
 ·rename_i d c;unfold part;rw [Sem.run_bind,zr8 c];split at h
  ·rename_i b;rw [b];split at h
   ·rename_i i e;simp only [X0] at h;subst h;simp [sizeOf,typeInfo,e]
   ·cases h
  ·rename_i b;rw [b];simp [h]
 ·cases h
def vx1 (P:Program) (c:TypeId->Value->Value->Option Bool) (xs ys:Array Value):List Field->Option Bool
 | []=>some true
 | [f]=>match f.name== "_" with|true=>some true|false=>(match ys2 P f.type xs f.offset,ys2 P f.type ys f.offset with|some a,some b=>c f.type a b|_,_=>none)
 |f::g::r=>match f.name== "_" with|true=>vx1 P c xs ys (g::r)|false=>(match ys2 P f.type xs f.offset,ys2 P f.type ys f.offset with|some a,some b=>(match c f.type a b,vx1 P c xs ys (g::r) with|some p,some q=>some (p&&q)|_,_=>none)|_,_=>none)
def eqB (P:Program):Nat->TypeId->Value->Value->Option Bool
 |0,_,_,_=>none
 |d+1,t,x,y=>
  match P.underlying t,x,y with
  |some .bool,.bool a,.bool b=>some (a==b)
  |some (.int _),.int j a,.int c b=>match decide (j=c) with|true=>some (a==b)|false=>none
  |some .string,.string a,.string b=>some (a==b)
  |some (.struct e),.agg xs,.agg ys=>match P.stoodInHeld t with|true=>none|false=>vx1 P (eqB P d) xs ys e.toList
  |_,_,_=>none
def jb7 (d:Nat) (xs ys:Array Value) (f:Field):Sem (ForInStep (Option Bool×Unit)):=
 if f.name≠ "_" then do
  let a<-part f.type xs f.offset
  let b<-part f.type ys f.offset
  let r<-Op.equalIn d f.type a b
  if (!r)=true then pure (ForInStep.done (some false,())) else pure (ForInStep.yield (none,()))
 else pure (ForInStep.yield (none,()))
def jj0 {xs ys d} (e: ∀(t:TypeId) (x y:Value) (b:Bool),eqB P d t x y=some b-> ∀w:World,(Op.equalIn d t x y).run P w=.ok b w):
  ∀(u b),vx1 P (eqB P d) xs ys u=some b-> ∀w:World,
  (forIn (m:=Sem) u ((none,()):Option Bool×Unit) (fun f _=>jb7 d xs ys f)).run P w=.ok (if b then (none,()) else (some false,())) w
 | [],b,h,w=>by
  simp only [vx1,X0] at h;subst h;rfl
 |f::r,b,h,w=>by
  have one: ∀(c:Bool),f.name≠ "_" ->(match ys2 P f.type xs f.offset,ys2 P f.type ys f.offset with|some a,some b=>eqB P d f.type a b|_,_=>none)=some c->
    (jb7 d xs ys f).run P w=.ok (if c then ForInStep.yield (none,()) else ForInStep.done (some false,())) w:=by
   intro c i j;split at j
   ·rename_i x y l o;unfold jb7;rw [if_pos i,Sem.run_bind,yi6 l];simp only [Result.andThen_ok];rw [Sem.run_bind,yi6 o];simp only [Result.andThen_ok];rw [Sem.run_bind,e _ _ _ _ j];cases c<;>rfl
   ·cases j
  have skip:f.name= "_" ->(jb7 d xs ys f).run P w=.ok (ForInStep.yield (none,())) w:=by
   intro i;unfold jb7;rw [if_neg (by simpa using i)];rfl
  rw [List.forIn_cons]
  match r,h with
  | [],h=>
   unfold vx1 at h;split at h
   ·rename_i i;simp only [X0] at h;subst h;rw [Sem.run_bind,skip (by simpa using i)];rfl
   ·rename_i i;rw [Sem.run_bind,one b (by simpa using i) h];cases b<;>rfl
  |g::r,h=>
   unfold vx1 at h;split at h
   ·rename_i i;rw [Sem.run_bind,skip (by simpa using i)];exact jj0 e (g::r) b h w
   ·rename_i i;have s:f.name≠ "_" :=by simpa using i
    split at h
    ·rename_i x y l o;split at h
     ·rename_i p q v z;simp only [X0] at h;subst h;rw [Sem.run_bind,one p s (by rw [l,o];exact v)];cases p
      ·rfl
      ·exact jj0 e (g::r) q z w
     ·cases h
    ·cases h
def jy3: ∀(d t x y b),eqB P d t x y=some b-> ∀w:World,(Op.equalIn d t x y).run P w=.ok b w
 |0,_,_,_,_,h,_=>by simp [eqB] at h
 |d+1,t,x,y,b,h,w=>by
  unfold eqB at h;unfold Op.equalIn;split at h
  ·rename_i a c e;simp only [X0] at h;subst h;simp [underlying,e]
  ·rename_i r j a m c e;split at h
   ·rename_i o;simp only [X0] at h;subst h;have:j=m:=by simpa using o
    subst this;simp [underlying,e]
   ·cases h
  ·rename_i a c e;simp only [X0] at h;subst h;simp [underlying,e]
  ·rename_i l xs ys e;split at h
   ·cases h
   ·rename_i i;have p:(underlying t).run P w=.ok (.struct l) w:=by simp [underlying,e]
    rw [Sem.run_bind,p];simp only [Result.andThen_ok];have q:(program).run P w=.ok P w:=rfl;rw [Sem.run_bind,q];simp only [Result.andThen_ok,i];have g:=jj0 (P:=P) (d:=d) (xs:=xs) (ys:=ys) (jy3 d) l.toList b h w;rw [<-Array.forIn_toList];simp only [N5,if_false];rw [Sem.run_bind];unfold jb7 at g;rw [g];cases b<;>rfl
  ·cases h
end
end Go.V
namespace Go.V
open Go.RowKit
def Mp (w:World) (g:Nat) (es:Array MapEntry) (c:Nat):Prop:=w.heap[g]?=some (.map es c)
def Mp.lt {w g es c} (h:Mp w g es c):g<w.heap.size:=(Y3.1 h).1
def Mp.chg {S w w' g es c} (h:Mp w g es c) (a:Chg S w w') (b:g∉S):Mp w' g es c:=(a.block g h.lt b).trans h
structure NewM (w w':World) (g:Nat) (es:Array MapEntry) (c:Nat):Prop where
 blk:Mp w' g es c
 chg:Chg [] w w'
 fresh:w.heap.size<=g
def yt5 (P:Program) (t:TypeId):Option (TypeId×TypeId×TypeDesc):=
 match P.underlying t with
 |some (.map a b)=>(match P.underlying a with|some d=>some (a,b,d)|none=>none)
 |_=>none
def zf4 {P t a b d} (h:yt5 P t=some (a,b,d)):P.underlying t=some (.map a b)/\P.underlying a=some d:=by
 unfold yt5 at h;split at h
 ·rename_i c e f;split at h
  ·rename_i i g;simp only [X0,X7] at h;obtain ⟨rfl,rfl,rfl⟩:=h;exact ⟨f,g⟩
  ·cases h
 ·cases h
section
variable {P:Program} {ops:Array Oper} {Q:Exit->Act->World->Prop} {k n:Nat} {ds:List Deferred} {F:PF} {w:World}
def ya0 (ops:Array Oper) (k n:Nat) (F:PF):Option (Option Tmp×TypeId):=
 match dec ops k n F with|some ⟨dst,.makeMap t none,_,_,_,_⟩=>some (dst,t)|_=>none
def WR.mkMap {dst t} (a:ya0 ops k n F=some (dst,t))
  (K: ∀g w',NewM w w' g #[] 0->WR P ops Q (k+1) n ds (upd F dst (.map (some g))) w'):WR P ops Q k n ds F w:=by
 unfold ya0 at a;split at a
 ·rename_i d e ty c f h b;simp only [X0,X7] at a;obtain ⟨rfl,rfl⟩:=a;refine .val b (v:=.map (some w.heap.size)) (w':=w.alloc (.map #[] 0)) ?_ (K _ _ ⟨(MapKept.heap_alloc w _).1,Chg.alloc w _,W6 _⟩);simp [execOp,Instr.makeMap]
 ·cases a
def zs6 (ops:Array Oper) (k n:Nat) (F:PF):Option (Option Tmp×TypeId×Value×Value×Bool):=
 match dec ops k n F with|some ⟨dst,.lookup t m x a,_,_,_,_⟩=>some (dst,t,evD F m,evD F x,a)|_=>none
def lkV (z:Value):Bool->Option (Nat×Value)->Value
 |true,some (_,v)=>.tuple #[v,.bool true]
 |true,none=>.tuple #[z,.bool false]
 |false,some (_,v)=>v
 |false,none=>z
def jh6 {dst t B l d g c es x z o} (C:Mp w g es c) (b:zs6 ops k n F=some (dst,t,.map (some g),x,o)) (D:yt5 P t=some (B,l,d)) (p:MapKept.IsKey d x)
  (r) (q:Instr.findNow d x es.toList 0=some r) (e:(P.info? l).bind (·.zero)=some z) (v) (E:lkV z o r=v):ye5 P ops k n F w=some (dst,.ok (.value v) w):=by
 obtain ⟨s,a⟩:=zf4 D;subst E;unfold zs6 at b;split at b
 ·rename_i I J m' K f ty G L M h;simp only [X0,X7] at b;obtain ⟨rfl,rfl,u,y,rfl⟩:=b;unfold ye5;rw [h];have A:w.heap[g]?=some (.map es c):=C;have m:(zeroValue l).run P w=.ok z w:=by
   cases hin:P.info? l with
   |none=>rw [hin] at e;cases e
   |some i=>rw [hin] at e;simp at e;simp [zeroValue,typeInfo,hin,e]
  cases r with
  |none=>cases f<;>simp [execOp,u,y,Instr.lookup,run_underlying s,MapKept.run_getObj_map A,MapKept.run_checkKey a p,MapKept.run_findKey a q,Result.andThen,m,lkV]
  |some H=>obtain ⟨j,v⟩:=H;cases f<;>simp [execOp,u,y,Instr.lookup,run_underlying s,MapKept.run_getObj_map A,MapKept.run_checkKey a p,MapKept.run_findKey a q,Result.andThen,lkV]
 ·cases b
end
end Go.V
namespace Go.V
open Go.RowKit Go.ChangeShapes Go.WideShapes Go.ChangeAt Go.Deep
def qk9 {α c f}: ∀ {xs:List α} {l:List c},xs.mapM f=some l->l.length=xs.length/\ ∀(k:Nat) (x:α),xs[k]?=some x->f x=l[k]?
 | [],l,h=>by
  simp at h;subst h;exact ⟨rfl,fun k x a=>by simp at a⟩
 |x::xs,l,h=>by
  rw [List.mapM_cons] at h;cases a:f x with
  |none=>rw [a] at h;simp at h
  |some y=>
   rw [a] at h;cases hr:xs.mapM f with
   |none=>rw [hr] at h;simp at h
   |some r=>
    rw [hr] at h;simp only [Option.pure_def,Option.bind_eq_bind,Option.bind_some,X0] at h;subst h;obtain ⟨d,g⟩:=qk9 hr;refine ⟨by simp [d],fun k z b=>?_⟩;cases k with
    |zero=>simp at b;subst b;simpa using a
    |succ k=>simp at b;simpa using g k z b
def jr1 {w:World} {base} {a:Addr} {n} {cs:List Value} (h:w.cells? base a n=some cs):cs.length=n/\ ∀(k:Nat) (u:Value),cs[k]?=some u->w.cell? (a.add k)=some u:=by
 unfold World.cells? at h;split at h
 ·obtain ⟨b,d⟩:=qk9 h;refine ⟨by simpa using b,fun k u c=>?_⟩;have f:k<n:=by
   have:=(X2.1 c).1;rw [b] at this;simpa using this
  rw [d k k (by simp [f]),c]
 ·cases h
section
variable {H:Type} {enc:TypeId×Value->H} {P:Program} {w:World} {t e:TypeId}
def retLaw {w w':World} {v:Value} {e:Ending} (h:ud5 w v e w'):e=.returned v/\Chg [] w w':=by
 cases e with
 |returned u=>obtain ⟨h1,h2⟩:=h;subst h2;exact ⟨rfl,h1⟩
 |panicked ch=>exact h.elim
 |outgrown=>exact h.elim
def qi8 (i:laidOutB P=true) {W j} (k:Below W.heap.size W j) {l}: ∀ {f vs ds ps},(f.all fun t=>P.readableRec t&&decide (t<P.types.size))=true->
  DataW.TrodAll enc P W 0 (fun _=>true) true f vs ds ps->(∀x∈ps,x.block<W.heap.size)->(∀x∈ps,l x.block=true)->DataW.TrodAll enc P j 0 l true f vs ds ps
 | [],[],[],_,_,h,_,_=>h
 |t::f,v::vs,d::ds,ps,g,h,b,c=>by
  obtain ⟨p,q,m,n,rfl⟩:=h;simp only [U4,X3,decide_eq_true_eq] at g;exact ⟨p,q,WideElems.Trod_stays i g.1.1 g.1.2 m (fun x a=>k.same (b x (by simp [a]))) (fun x a=>c x (by simp [a])),qi8 i k (by simpa using g.2) n (fun x a=>b x (by simp [a])) (fun x a=>c x (by simp [a])),rfl⟩
 | [],_::_,_,_,_,h,_,_=>by simp [DataW.TrodAll] at h
 | [],[],_::_,_,_,h,_,_=>by simp [DataW.TrodAll] at h
 |_::_,[],_,_,_,h,_,_=>by simp [DataW.TrodAll] at h
 |_::_,_::_,[],_,_,h,_,_=>by simp [DataW.TrodAll] at h
def lawPost {f:Func} {s:ChangeSpec} {o a d b W r} {args:Array Value} {ds u c} (A:laidOutB P=true)
  (i:DataW.Whole enc P f.params.toList s.vars a W args.toList ds u c) (v:s.vars= []) (j:s.fn H (ds++u)= {results:= [.lit (.bool true)],args:=ds,vars:= []})
  (k:f.resultTypes= #[o]) (l:P.underlying o=some .bool) (B:(f.params.toList.all fun t=>P.readableRec t&&decide (t<P.types.size))=true) (C:Chg [] W r):
  s.post enc P f a d b false W args (.bool true) r:=by
 have g:=i.lt;have m:=i;obtain ⟨p,q,D,y,rfl,E,F⟩:=i;rw [v] at y;obtain ⟨rfl,rfl⟩:=trodVars_none y;have z:=C.below;refine ⟨ds,[],p++ [],[],p,[],m,?_,?_,?_,z.frame _,fun h=>by cases h⟩
 ·rw [j,k];exact trodAll_mk1 (shut_bool l true)
 ·rw [j];exact qi8 A z B D (fun x n=>g x (by simpa using n)) (fun x n=>by simpa using g x (by simpa using n))
 ·rw [j,v];rfl
end
end Go.V
