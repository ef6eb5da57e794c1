import Derived.Orders
import Derived.Deep.Quiet
import Derived.KernelRfl
import Derived.Below
import Derived.WalkKit
import Derived.Recover
import Derived.MapKept
import Derived.ProofKit
import Derived.OpenShut
import Derived.Carry
import Derived.JoinedCond
import Derived.Deep.Slices
set_option linter.defProp false
namespace Go.V
open Go.RowKit
abbrev X0:= @Option.some.injEq
abbrev X1:= @Nat.eq_of_beq_eq_true
abbrev X2:= @List.getElem?_eq_some_iff
abbrev X3:= @Bool.and_eq_true
abbrev X4:= @List.mem_append
abbrev X5:= @Option.some.inj
abbrev X6:= @List.mem_of_getElem?
abbrev X7:= @Prod.mk.injEq
abbrev X8:= @List.getElem?_append_left
abbrev X9:= @List.length_append
abbrev Y0:= @List.getElem?_eq_getElem
abbrev Y1:= @Nat.le_of_ble_eq_true
abbrev Y2:= @List.getD_eq_getElem?_getD
abbrev Y3:= @Array.getElem?_eq_some_iff
abbrev Y4:= @List.getElem?_cons_zero
abbrev Y5:= @List.getElem?_eq_none
abbrev Y6:= @List.length_take
abbrev Y7:= @Array.getD_eq_getD_getElem?
abbrev Y8:= @List.all_eq_true
abbrev Y9:= @List.mem_iff_getElem?
abbrev Z0:= @List.mem_cons
abbrev Z1:= @Int.toNat_natCast
abbrev Z2:= @List.getElem?_append_right
abbrev Z3:= @List.getElem?_take
abbrev Z4:= @List.mem_cons_of_mem
abbrev Z5:= @List.getElem?_set_ne
abbrev Z6:= @Array.getElem?_eq_getElem
abbrev Z7:= @List.take_append_of_le_length
abbrev Z8:= @Option.map_some
abbrev Z9:= @List.length_replicate
abbrev Q0:= @List.getElem?_set_self
abbrev Q1:= @List.length_set
abbrev Q2:= @List.append_assoc
abbrev Q4:= @List.take_of_length_le
abbrev Q5:= @List.mem_singleton
abbrev Q6:= @List.getElem?_drop
abbrev Q7:= @List.length_drop
abbrev Q8:= @List.take_append_drop
abbrev Q9:= @Nat.mul_le_mul_right
abbrev W0:= @List.mem_filter
abbrev W2:= @List.getElem?_map
abbrev W3:= @Nat.ble_eq_true_of_le
abbrev W4:= @decide_eq_true
abbrev W5:= @decide_eq_false
abbrev W6:= @Nat.le_refl
abbrev W7:= @Nat.le_trans
abbrev W8:= @Nat.zero_add
abbrev W9:= @List.length_map
abbrev U0:= @List.mem_map
abbrev U1:= @List.mem_cons_self
abbrev U2:= @List.map_cons
abbrev U3:= @Nat.zero_le
abbrev U4:= @Nat.blt_eq
abbrev U5:= @List.length_cons
abbrev U6:= @List.nil_append
abbrev U7:= @Nat.lt_or_ge
abbrev U8:= @Nat.succ_mul
abbrev U9:= @Nat.add_assoc
abbrev V0:= @List.mem_range
abbrev V1:= @Nat.lt_of_lt_of_le
abbrev V2:= @List.flatMap_cons
abbrev V3:= @Option.getD_some
abbrev V4:= @Bool.not_eq_true'
abbrev V5:= @Nat.add_mul
abbrev V6:= @List.mem_flatMap
abbrev V7:= @Nat.beq_refl
abbrev V8:= @List.drop_eq_getElem_cons
abbrev V9:= @Nat.min_eq_left
abbrev J0:= @List.flatMap_append
abbrev J1:= @Array.length_toList
abbrev J3:= @List.map_append
abbrev J4:= @Nat.add_comm
abbrev J5:= @Nat.sub_zero
abbrev J6:= @List.all_cons
abbrev J7:= @List.append_nil
abbrev J8:= @List.mem_of_mem_take
abbrev J9:= @List.drop_zero
abbrev M0:= @Nat.zero_mul
abbrev M1:= @Nat.lt_trichotomy
abbrev M2:= @Bool.or_eq_true
abbrev M3:= @Nat.add_zero
abbrev M4:= @List.drop_of_length_le
abbrev M5:= @Nat.le_succ_of_le
abbrev M6:= @List.drop_eq_nil_of_le
abbrev M7:= @Array.toList_map
abbrev M8:= @Bool.not_true
abbrev M9:= @List.cons_append
abbrev N0:= @Nat.eq_zero_or_pos
abbrev N1:= @List.getElem_mem
abbrev N2:= @List.mem_or_eq_of_mem_set
abbrev N3:= @Bool.and_self
abbrev N4:= @Option.isSome_iff_exists
abbrev N5:= @List.length_nil
abbrev N6:= @Bool.true_and
abbrev N7:= @Nat.add_sub_cancel_left
abbrev N8:= @List.take_length
abbrev N9:= @Nat.mul_succ
abbrev T0:= @List.not_mem_nil
abbrev T1:= @List.eq_nil_of_length_eq_zero
abbrev T2:= @List.size_toArray
abbrev T3:= @List.mem_filterMap
abbrev T4:= @Option.map_eq_some_iff
abbrev T5:= @Array.toList_range
abbrev T6:= @List.set_getElem_self
abbrev T7:= @List.contains_iff_mem
abbrev T8:= @List.take_take
abbrev T9:= @Option.bind_some
abbrev R1:= @List.mapM_cons
abbrev R2:= @List.take_left
abbrev R3:= @List.contains_eq_mem
abbrev R4:= @List.drop_append
abbrev R5:= @Option.getD_none
abbrev R6:= @Nat.mod_eq_of_lt
abbrev R7:= @List.ext_getElem?
abbrev R8:= @List.take_left'
abbrev R9:= @List.reverse_cons
abbrev S7:= @Classical.choose_spec
abbrev S8:= @Array.mapM_eq_mapM_toList
abbrev S9:= @List.take_succ_eq_append_getElem
abbrev A0:= @List.pairwise_cons
abbrev A1:= @Array.toList_setIfInBounds
abbrev A2:= @List.append_eq_nil_iff
abbrev PF:=List (Nat×Value)
def PF.get:PF->Nat->Option Value
 | [],_=>none
 |(j,v)::r,i=>match Nat.beq j i with|true=>some v|false=>PF.get r i
def PF.keep (F:PF):List Nat->PF
 | []=> []
 |i::r=>match F.get i with|some v=>(i,v)::F.keep r|none=>F.keep r
def upd (F:PF) (dst:Option Tmp) (v:Value):PF:=match dst with|some d=>(d,v)::F|none=>F
def ev (F:PF):Operand->Option Value
 | .tmp t=>F.get t
 | .const v=>some v
 | .global g=>some (.pointer (some ⟨g,0,none⟩))
 | .func f=>some (.func (.func f) #[] #[])
def evD (F:PF) (x:Operand):Value:=(ev F x).getD undef
structure Fr (n:Nat) (ds:List Deferred) (F:PF) (a:Act):Prop where
 size:a.tmps.size=n
 defers:a.defers=ds
 val: ∀i v,F.get i=some v->a.tmps.getD i undef=v/\i<n
def PF.get_keep (F:PF) (i:Nat) (v:Value): ∀l:List Nat,(F.keep l).get i=some v->F.get i=some v
 | [],h=>by simp [PF.keep,PF.get] at h
 |j::r,h=>by
  unfold PF.keep at h;split at h
  ·rename_i u a;simp only [PF.get] at h;split at h
   ·rename_i b;have:=X1 b;subst this;rw [a];exact h
   ·exact PF.get_keep F i v r h
  ·exact PF.get_keep F i v r h
def Fr.keep {n ds F F' a} (h:Fr n ds F a) (l) (b:F.keep l=F'):Fr n ds F' a:=
 ⟨h.size,h.defers,fun i v c=>h.val i v (PF.get_keep F i v l (by rw [b];exact c))⟩
def Fr.eval {n:Nat} {ds:List Deferred} {F:PF} {a:Act} (h:Fr n ds F a) {x:Operand} {v:Value} (hx:ev F x=some v):a.eval x=v:=by
 cases x with
 |tmp t=>exact (h.val t v hx).1
 |const u=>simpa [ev,Act.eval] using hx
 |global g=>simpa [ev,Act.eval] using hx
 |func f=>simpa [ev,Act.eval] using hx
def zi0 (n:Nat):Option Tmp->Bool|some d=>Nat.blt d n|none=>true
def Fr.upd {n ds F a} (h:Fr n ds F a) {dst} (j:zi0 n dst=true) (v):Fr n ds (upd F dst v) (a.put dst v):=by
 cases dst with
 |none=>exact h
 |some d=>
  have b:d<n:=by simpa [zi0,U4] using j
  refine ⟨by simp [Act.put,h.size],by simp [Act.put,h.defers],?_⟩;intro i u c;simp only [Go.V.upd,PF.get] at c;split at c
  ·rename_i f;have:=X1 f;subst this;simp only [X0] at c;subst c;refine ⟨?_,b⟩;simp only [Act.put];rw [Y7,Array.getElem?_setIfInBounds_self_of_lt (by rw [h.size];exact b)];rfl
  ·rename_i f;have g:d≠i:=fun e=>by subst e;simp at f
   have:=h.val i u c;refine ⟨?_,this.2⟩;simp only [Act.put];rw [Y7,Array.getElem?_setIfInBounds_ne g,<-Array.getD_eq_getD_getElem?];exact this.1
def yd6 (ops:Array Oper) (F:PF) (j:Nat):Option (Option Bool):=
 match (ops[j]?).bind (·.dst) with
 |some d=>match F.get d with|some (.bool b)=>some (some b)|some (.tuple _)=>some none|_=>none
 |none=>none
def jn9 {ops F j b n ds a} (h:Fr n ds F a) (f:yd6 ops F j=some b):yielded ops a.tmps j=b:=by
 unfold yd6 at f;unfold yielded;split at f
 ·rename_i d m;rw [m];have g: ∀v,F.get d=some v->a.tmps[d]?=some v:=by
   intro v o;have:=h.val d _ o;have i:d<a.tmps.size:=by rw [h.size];exact this.2
   have e:=this.1;rw [Y7,Z6 i] at e;rw [Z6 i];simpa using e
  split at f
  ·rename_i c l;simp only [T9,g _ l];simpa using f
  ·rename_i c l;simp only [T9,g _ l];simpa using f
  ·cases f
 ·cases f
def zb3 (o:Oper):Bool:=match o.op with| .select ..=>false|_=>true
def yb3 (F:PF) (o:Oper):Bool:=o.op.operands.toList.all fun x=>(ev F x).isSome
def zv8 (ops:Array Oper) (F:PF) (o:Oper):Option Bool:=
 match o.guard with
 |none=>some true
 |some (j,b)=>(yd6 ops F j).map fun c=>match c,b with|some true,true=>true|some false,false=>true|_,_=>false
def yg7 {ops F o b n ds a} (h:Fr n ds F a) (e:zv8 ops F o=some b):Region.wanted o (yielded ops a.tmps)=b:=by
 unfold zv8 at e;unfold Region.wanted;split at e
 ·rename_i f;rw [f];simpa using e
 ·rename_i j c f;rw [f];cases hv:yd6 ops F j with
  |none=>rw [hv] at e;cases e
  |some d=>
   rw [hv] at e;simp only [Z8,X0] at e;simp only [jn9 h hv];subst e;rcases d with _|d
   ·cases c<;>rfl
   ·cases d<;>cases c<;>rfl
def dec (ops:Array Oper) (k n:Nat) (F:PF):Option Oper:=
 match ops[k]? with
 |none=>none
 |some o=>
  match zv8 ops F o with
  |some true=>match (zi0 n o.dst&&(zb3 o&&yb3 F o)) with|true=>some o|false=>none
  |_=>none
def zn2 {ops k n F o} (h:dec ops k n F=some o):
  ops[k]?=some o/\zi0 n o.dst=true/\(∀cs b,o.op≠.select cs b)/\(∀x∈o.op.operands,(ev F x).isSome=true)/\
  ∀ {ds:List Deferred} {a:Act},Fr n ds F a->Region.wanted o (yielded ops a.tmps)=true:=by
 unfold dec at h;split at h
 ·cases h
 ·rename_i o' f;split at h
  ·rename_i g;split at h
   ·rename_i c;simp only [X0] at h;subst h;simp only [X3] at c;refine ⟨f,c.1,?_,?_,fun d=>yg7 d g⟩
    ·intro cs b e;have:=c.2.1;simp [zb3,e] at this
    ·intro x i;have:=c.2.2;unfold yb3 at this;rw [Y8] at this;exact this x (Array.mem_toList_iff.2 i)
   ·cases h
  ·cases h
def vf6 {n ds F a o} (h:Fr n ds F a) (d: ∀cs b,o.op≠.select cs b) (e: ∀x∈o.op.operands,(ev F x).isSome=true):
  execOp a.eval o=execOp (evD F) o:=
 execOp_congr o d fun x f=>by
  obtain ⟨v,c⟩:=N4.1 (e x f);rw [h.eval c];simp [evD,c]
def step1 (P:Program) (ops:Array Oper) (k n:Nat) (F:PF) (w:World):Option (PF×World):=
 match ops[k]? with
 |none=>none
 |some o=>
  match zv8 ops F o with
  |some true=>
   match (zi0 n o.dst&&(zb3 o&&yb3 F o)) with
   |true=>
    match (execOp (evD F) o).run P w with
    | .ok (.value v) w'=>some (upd F o.dst v,w')
    | .ok .skip w'=>some (upd F o.dst undef,w')
    |_=>none
   |false=>none
  |some false=>match zi0 n o.dst with|true=>some (upd F o.dst undef,w)|false=>none
  |none=>none
def evK (P:Program) (ops:Array Oper) (n:Nat):Nat->Nat->PF->World->Option (PF×World)
 |0,_,F,w=>some (F,w)
 |m+1,k,F,w=>match step1 P ops k n F w with|some (F',w')=>evK P ops n m (k+1) F' w'|none=>none
def WR (P:Program) (ops:Array Oper) (Q:Exit->Act->World->Prop) (k n:Nat) (ds:List Deferred) (F:PF) (w:World):Prop:=
 ∀a,Fr n ds F a->wpList P ops Q (ops.toList.drop k) a w
def CW (P:Program) (c:Code) (Q:Exit->Act->World->Prop) (n:Nat) (ds:List Deferred) (F:PF) (w:World):Prop:=
 ∀a,Fr n ds F a->c.wp P Q a w
section
variable {P:Program} {ops:Array Oper} {Q:Exit->Act->World->Prop} {k n:Nat} {ds:List Deferred} {F F':PF} {w w':World}
def zk6 {o} (h:ops[k]?=some o):ops.toList.drop k=o::ops.toList.drop (k+1):=by
 have a:k<ops.toList.length:=by
  have:=(Y3.1 h).1;simpa using this
 rw [V8 a];congr 1;have:=(Y3.1 h).2;simpa using this
def WR.step {o} (c:dec ops k n F=some o)
  (h: ∀a,Fr n ds F a->execOp a.eval o=execOp (evD F) o->o.wp P a w (wpList P ops Q (ops.toList.drop (k+1))) Q):WR P ops Q k n ds F w:=by
 intro a b;obtain ⟨d,_,e,f,g⟩:=zn2 c;rw [zk6 d];unfold wpList;rw [if_pos (g b)];exact .inl (h a b (vf6 b e f))
def WR.val {o v} (b:dec ops k n F=some o) (c:(execOp (evD F) o).run P w=.ok (.value v) w')
  (K:WR P ops Q (k+1) n ds (upd F o.dst v) w'):WR P ops Q k n ds F w:=
 .step b fun a d e=>by
  unfold Oper.wp;rw [e,c];exact K _ (d.upd (zn2 b).2.1 v)
def WR.skip {o} (b:dec ops k n F=some o) (c:(execOp (evD F) o).run P w=.ok .skip w')
  (K:WR P ops Q (k+1) n ds (upd F o.dst undef) w'):WR P ops Q k n ds F w:=
 .step b fun a d e=>by
  unfold Oper.wp;rw [e,c];exact K _ (d.upd (zn2 b).2.1 undef)
def WR.enter {o:Oper} {f:FuncId} {args:Array Value} {R:Ending->World->Prop} (hd:dec ops k n F=some o) (hr:(execOp (evD F) o).run P w=.ok (.enter f args) w')
  (hc:Calls P f args w' R) (K: ∀v w'',R (.returned v) w''->WR P ops Q (k+1) n ds (upd F o.dst v) w'')
  (hp: ∀ch w'',R (.panicked ch) w''-> ∀a,Fr n ds F a->Q (.panic ch) a w'') (ho: ∀w'',R .outgrown w''->LetsOut Q):WR P ops Q k n ds F w:=
 .step hd fun a ha he=>by
  unfold Oper.wp;rw [he,hr];refine hc.mono fun e w'' hR=>?_;cases e with
  |returned v=>exact K v w'' hR _ (ha.upd (zn2 hd).2.1 v)
  |panicked ch=>exact hp ch w'' hR a ha
  |outgrown=>exact ho w'' hR
def WR.throw {o v} (b:dec ops k n F=some o) (c:(execOp (evD F) o).run P w=.halt (.panic v) w')
  (K: ∀a,Fr n ds F a->Q (.panic [{v,recovered:=false}]) a w'):WR P ops Q k n ds F w:=
 .step b fun a d e=>by
  unfold Oper.wp;rw [e,c];exact K a d
def qz7 (h:step1 P ops k n F w=some (F',w')) (K:WR P ops Q (k+1) n ds F' w'):WR P ops Q k n ds F w:=by
 unfold step1 at h;split at h
 ·cases h
 ·rename_i o f;split at h
  ·rename_i c;split at h
   ·rename_i d;have g:dec ops k n F=some o:=by unfold dec;simp only [f,c,d]
    split at h
    ·rename_i v b e;simp only [X0,X7] at h;obtain ⟨rfl,rfl⟩:=h;exact .val g e K
    ·rename_i b e;simp only [X0,X7] at h;obtain ⟨rfl,rfl⟩:=h;exact .skip g e K
    ·cases h
   ·cases h
  ·rename_i c;split at h
   ·rename_i d;simp only [X0,X7] at h;obtain ⟨rfl,rfl⟩:=h;intro a i;rw [zk6 f];unfold wpList;rw [if_neg (by rw [yg7 i c];simp)];exact K _ (i.upd d undef)
   ·cases h
  ·cases h
def WR.evs: ∀(m k F w),evK P ops n m k F w=some (F',w')->WR P ops Q (k+m) n ds F' w'->WR P ops Q k n ds F w
 |0,_,_,_,h,K=>by
  simp only [evK,X0,X7] at h;obtain ⟨rfl,rfl⟩:=h;exact K
 |m+1,k,F,w,h,K=>by
  unfold evK at h;split at h
  ·rename_i a b c;exact qz7 c (WR.evs m (k+1) a b h (by rw [U9,J4 1 m];exact K))
  ·cases h
def WR.keep (l) (h:F.keep l=F') (K:WR P ops Q k n ds F' w):WR P ops Q k n ds F w:=fun a b=>K a (b.keep l h)
def WR.batch (m F') (h:(match evK P ops n m k F w with|some (G,a)=>some (G.keep (F'.map Prod.fst),a)|none=>none)=some (F',w)) (K:WR P ops Q (k+m) n ds F' w):WR P ops Q k n ds F w:=by
 split at h
 ·rename_i G a b;simp only [X0,X7] at h;obtain ⟨c,rfl⟩:=h;exact .evs m k F _ b (.keep _ c K)
 ·cases h
def WR.fin (b:Nat.ble ops.size k=true) (K: ∀a,Fr n ds F a->Q .normal a w):WR P ops Q k n ds F w:=fun a c=>by
 rw [M6 (by simpa using Y1 b)];exact K a c
def CW.region {id} (h:WR P ops Q 0 n ds F w):CW P (.region id ops false) Q n ds F w:=fun a b=>wp_region_list (by simpa using h a b)
def CW.seq {x y} (h: ∀K:Act->World->Prop,(∀a w,y.wp P Q a w->K a w)->CW P x (Exit.then K Q) n ds F w):CW P (.seq x y) Q n ds F w:=
 fun a b=>wp_seq_k fun K c=>h K c a b
def go {y:Code} {K:Act->World->Prop} (b: ∀a w,y.wp P Q a w->K a w) (h:CW P y Q n ds F w): ∀a,Fr n ds F a->K a w:=fun a c=>b a w (h a c)
def CW.keep {c} (l) (h:F.keep l=F') (K:CW P c Q n ds F' w):CW P c Q n ds F w:=fun a b=>K a (b.keep l h)
def CW.skip (K: ∀a,Fr n ds F a->Q .normal a w):CW P .skip Q n ds F w:=fun a b=>wp_skip (K a b)
def CW.ret (K: ∀a,Fr n ds F a->Q .ret a w):CW P .ret Q n ds F w:=fun a b=>wp_ret (K a b)
def CW.exit {id} (K: ∀a,Fr n ds F a->Q (.exit id) a w):CW P (.exit id) Q n ds F w:=fun a b=>wp_exit (K a b)
def CW.block {id c} (h:CW P c (Exit.inBlock id Q) n ds F w):CW P (.block id c) Q n ds F w:=fun a b=>wp_block (h a b)
def CW.no {c x y} (d:ev F c=some (.bool false)) (h:CW P y Q n ds F w):CW P (.cond c x y) Q n ds F w:=fun a b=>wp_cond_false (b.eval d) (h a b)
def CW.cond {c x y} (t) (d:ev F c=some (.bool t)) (e:t=true->CW P x Q n ds F w) (f:t=false->CW P y Q n ds F w):CW P (.cond c x y) Q n ds F w:=
 fun a b=>wp_cond_split (b.eval d) (fun h=>e h a b) (fun h=>f h a b)
def wq6 {b:Type} (n:Nat) (ds:List Deferred) (I:b->World->Prop) (c:b->PF) (d:b->Nat) (Q:Exit->Act->World->Prop) (m:Nat):Exit->Act->World->Prop
 | .normal,a,w=> ∃s,I s w/\d s<m/\Fr n ds (c s) a
 |e,a,w=>Q e a w
def CW.loop {σ:Type} {c:Code} (I:σ->World->Prop) (FF:σ->PF) (μ:σ->Nat) (s:σ) (h0:I s w) (l:List Nat) (hF:F.keep l=FF s)
  (round: ∀s w,I s w->CW P c (wq6 n ds I FF μ Q (μ s)) n ds (FF s) w):CW P (.loop c) Q n ds F w:=by
 intro a ha
 classical
 have hmeas: ∀a w,(∃s,I s w/\Fr n ds (FF s) a)-> ∃m,(∃s,I s w/\Fr n ds (FF s) a/\μ s=m)/\ ∀s,I s w->Fr n ds (FF s) a->m<=μ s:=by
  intro a w ⟨s,hs,hf⟩;have key: ∀m,(∃s,I s w/\Fr n ds (FF s) a/\μ s=m)-> ∃m,(∃s,I s w/\Fr n ds (FF s) a/\μ s=m)/\ ∀s,I s w->Fr n ds (FF s) a->m<=μ s:=by
   intro m;induction m using Nat.strongRecOn with
   |_ m ih=>
    intro hm;by_cases hex: ∃s,I s w/\Fr n ds (FF s) a/\μ s<m
    ·obtain ⟨s',h1,h2,h3⟩:=hex;exact ih (μ s') h3 ⟨s',h1,h2,rfl⟩
    ·exact ⟨m,hm,fun s' h1 h2=>Nat.le_of_not_lt fun h3=>hex ⟨s',h1,h2,h3⟩⟩
  exact key (μ s) ⟨s,hs,hf,rfl⟩
 refine wp_loop (fun a w=> ∃s,I s w/\Fr n ds (FF s) a) (fun a w=>if h: ∃s,I s w/\Fr n ds (FF s) a then Classical.choose (hmeas a w h) else 0) ⟨s,h0,ha.keep l hF⟩ ?_;intro a w hI;have hc:=S7 (hmeas a w hI);obtain ⟨⟨s,hs,hf,hm⟩,_⟩:=hc;simp only [dif_pos hI];rw [<-hm];refine wp_mono (round s w hs a hf) fun e a' w' hq=>?_;cases e with
 |normal=>
  obtain ⟨s',h1,h2,h3⟩:=hq;have hI': ∃s,I s w'/\Fr n ds (FF s) a':=⟨s',h1,h3⟩;refine ⟨hI',?_⟩;simp only [dif_pos hI'];exact Nat.lt_of_le_of_lt ((S7 (hmeas a' w' hI')).2 s' h1 h3) h2
 |exit id=>exact hq
 |goto l=>exact hq
 |ret=>exact hq
 |panic ch=>exact hq
 |outgrown=>exact hq
end
section
variable {P:Program} {n:Nat} {F:PF} {w:World}
def je2 (l:List Value):Nat->PF
 |i=>match l with| []=> []|v::r=>(i,v)::je2 r (i+1)
def yc9 (l): ∀(i j v),(je2 l i).get j=some v->i<=j/\l[j-i]?=some v:=by
 induction l with
 |nil=>intro i j v h;simp [je2,PF.get] at h
 |cons u r b=>
  intro i j v h;simp only [je2,PF.get] at h;split at h
  ·rename_i a;have:=X1 a;subst this;simpa using h
  ·rename_i a;have c:i≠j:=fun e=>by subst e;simp at a
   obtain ⟨f,d⟩:=b (i+1) j v h;refine ⟨by omega,?_⟩;rw [show j-i=(j-(i+1))+1 by omega];simpa using d
def zd0 {f fn c args R} (b:P.funcs[f]?=some fn) (d:fn.body=some c) (e:fn.ntmps=n) (g:Nat.ble args.size n=true)
  (l) (hF:(je2 args.toList 0).keep l=F) (h:CW P c (bodyPost P fn R) n [] F w):Calls P f args w R:=by
 have j:args.size<=n:=Y1 g;refine calls_of_wp b d (h _ (Fr.keep ⟨?_,rfl,?_⟩ l hF))
 ·simp [e];omega
 ·intro i v m;obtain ⟨_,a⟩:=yc9 args.toList 0 i v m;simp only [J5,Array.getElem?_toList] at a;have o:=(Y3.1 a).1;refine ⟨?_,by omega⟩;rw [Y7,Array.getElem?_append_left o,a];rfl
def kc8 (F:PF):List ResultVar->Option (List Value)
 | []=>some []
 | .tmp t::r=>match F.get t,kc8 F r with|some v,some l=>some (v::l)|_,_=>none
 | .cell _ _::_=>none
def gj7 (fn:Func) (F:PF):Option Value:=match kc8 F fn.results.toList with|some [v]=>some v|some l=>some (.tuple l.toArray)|none=>none
def qs5 {ds a} (b:Fr n ds F a) (f:ResultVar->Sem Value) (d: ∀t,f (.tmp t)=Pure.pure (a.tmps.getD t undef)): ∀(l:List ResultVar) (vs:List Value),kc8 F l=some vs->
  (l.mapM f).run P w=.ok vs w
 | [],vs,h=>by simp [kc8] at h;subst h;rfl
 | .tmp t::r,vs,h=>by
  unfold kc8 at h;split at h
  ·rename_i v l g i;simp only [X0] at h;subst h;have e:=(b.val t v g).1;have j:=qs5 b f d r l i;simp only [R1,Sem.run_bind,Sem.run_pure,Result.andThen_ok,j,e,d]
  ·cases h
 | .cell c t::r,vs,h=>by simp [kc8] at h
def ye6 {ds:List Deferred} {a:Act} (b:Fr n ds F a) {fn:Func} {f:ResultVar->Sem Value} (c: ∀t,f (.tmp t)=Pure.pure (a.tmps.getD t undef)) {vs:List Value} (h:kc8 F fn.results.toList=some vs):
  (fn.results.mapM f).run P w=.ok vs.toArray w:=by
 have:=qs5 (P:=P) (w:=w) b f c fn.results.toList vs h;rw [S8];simp only [Sem.run_map,this,Result.andThen_ok]
def qs6 {fn ds a} (d:Fr n ds F a) {v} (h:gj7 fn F=some v):(results fn a.tmps).run P w=.ok v w:=by
 unfold gj7 at h;split at h
 ·rename_i u b;simp only [X0] at h;subst h;unfold results;rw [Sem.run_bind,ye6 d (fun t=>rfl) b];rfl
 ·rename_i l c b;simp only [X0] at h;subst h;unfold results;rw [Sem.run_bind,ye6 d (fun t=>rfl) b];have:l.toArray.size≠1:=by
   intro e
   match l,e with
   | [u],_=>exact c u rfl
  simp only [Result.andThen_ok,this,dite_false];rfl
 ·cases h
def gj8 {fn R} (v) (h:gj7 fn F=some v) (c:R (.returned v) w): ∀a,Fr n [] F a->bodyPost P fn R .ret a w:=
 fun _ b=>⟨b.defers,v,qs6 b h,c⟩
def kp0 {fn R} (v) (h:gj7 fn F=some v) (c:R (.returned v) w): ∀a,Fr n [] F a->bodyPost P fn R .normal a w:=
 fun _ b=>⟨b.defers,v,qs6 b h,c⟩
end
end Go.V
namespace Go.V
open Go.RowKit
structure Chg (S:List Nat) (w w':World):Prop where
 os:w'.os=w.os
 tape:w'.tape=w.tape
 output:w'.output=w.output
 size:w.heap.size<=w'.heap.size
 block: ∀k,k<w.heap.size->k∉S->w'.heap[k]?=w.heap[k]?
def Chg.refl (S w):Chg S w w:=⟨rfl,rfl,rfl,W6 _,fun _ _ _=>rfl⟩
def Chg.step {S T w0 w w'} (h:Chg S w0 w) (a:Chg T w w') (e: ∀t∈T,t∈S\/w0.heap.size<=t):Chg S w0 w':=
 ⟨a.os.trans h.os,a.tape.trans h.tape,a.output.trans h.output,W7 h.size a.size,fun k b c=>
  (a.block k (V1 b h.size) fun f=>by rcases e k f with d|d;exact c d;omega).trans (h.block k b c)⟩
def Chg.pure {S w0 w w'} (h:Chg S w0 w) (a:Chg [] w w'):Chg S w0 w':=h.step a (by simp)
def Chg.weak {S T w w'} (h:Chg T w w') (a: ∀t∈T,t∈S):Chg S w w':=
 ⟨h.os,h.tape,h.output,h.size,fun k b c=>h.block k b fun d=>c (a k d)⟩
def Chg.drew (w):Chg [] w {w with drawn:=w.drawn+1}:=⟨rfl,rfl,rfl,W6 _,fun _ _ _=>rfl⟩
def Chg.below {w w'} (h:Chg [] w w'):Below w.heap.size w w':=⟨h.os,h.tape,h.output,h.size,fun k a=>h.block k a (by simp)⟩
def Chg.ofBelow {w w'} (h:Below w.heap.size w w'):Chg [] w w':=⟨h.os,h.tape,h.output,h.size,fun k a _=>h.block k a⟩
def Chg.alloc (w o):Chg [] w (w.alloc o):=⟨rfl,rfl,rfl,by simp,fun k a _=>Below.heap_alloc w o k a⟩
def Blk (w:World) (g:Nat) (c:Array Value) (e:TypeId):Prop:=w.heap[g]?=some (.cells c e (0,0))
def Blk.lt {w g c e} (h:Blk w g c e):g<w.heap.size:=(Y3.1 h).1
def Blk.chg {S w w' g c e} (h:Blk w g c e) (a:Chg S w w') (b:g∉S):Blk w' g c e:=(a.block g h.lt b).trans h
def Blk.pure {w w' g c e} (h:Blk w g c e) (a:Chg [] w w'):Blk w' g c e:=h.chg a (by simp)
def Chg.step1 {S g w0 w w'} (h:Chg S w0 w) (b:Chg [g] w w') (c:w0.heap.size<=g):Chg S w0 w':=h.step b (by intro t a;simp only [Z0,T0,or_false] at a;subst a;exact .inr c)
structure New (w w':World) (g:Nat) (c:Array Value) (e:TypeId):Prop where
 blk:Blk w' g c e
 chg:Chg [] w w'
 fresh:w.heap.size<=g
def New.alloc (w c e):New w (w.alloc (.cells c e)) w.heap.size c e:=⟨heap_alloc_new w _,Chg.alloc w _,W6 _⟩
def bk:Option Addr->Nat|some a=>a.block|none=>0
def of:Option Addr->Nat|some a=>a.off|none=>0
def Rg (w:World) (ad:Option Addr) (cs:List Value):Prop:=
 ∀j u,cs[j]?=some u->ad=some ⟨bk ad,of ad,none⟩/\w.cell? ⟨bk ad,of ad+j,none⟩=some u
def Rg.nil (w ad):Rg w ad []:=fun j u h=>by simp at h
def Rg.chg {S w w' ad cs} (h:Rg w ad cs) (d:Chg S w w') (a:bk ad∉S\/cs= []):Rg w' ad cs:=by
 intro j u b;obtain ⟨e,c⟩:=h j u b;refine ⟨e,?_⟩;rcases a with a|a
 ·exact (World.cell?_of_block (d.block _ (World.block_lt_of_cell? w _ c) a)).trans c
 ·subst a;simp at b
def Rg.pure {w w' ad cs} (h:Rg w ad cs) (a:Chg [] w w'):Rg w' ad cs:=h.chg a (.inl (by simp))
def Rg.lt {w ad cs} (h:Rg w ad cs) (a:cs≠ []):bk ad<w.heap.size:=by
 cases cs with
 |nil=>exact absurd rfl a
 |cons u r=>exact World.block_lt_of_cell? w _ (h 0 u rfl).2
def Rg.blk {w g a c e} (h:Blk w g c e) (cs) (b: ∀j u,cs[j]?=some u->c[a+j]?=some u):Rg w (some ⟨g,a,none⟩) cs:=by
 intro j u d;refine ⟨rfl,?_⟩;have:=cell_of_row w g (a+j) c e (0,0) h;show w.cell? ⟨g,a+j,none⟩=some u;rw [this];exact b j u d
def Rg.sub {w ad cs} (h:Rg w ad cs) (l m a) (c:ad=some ⟨bk ad,of ad,none⟩->a=some ⟨bk ad,of ad+l,none⟩):Rg w a ((cs.drop l).take m):=by
 intro j u b;rw [Z3] at b;split at b
 ·rw [Q6] at b;obtain ⟨d,f⟩:=h (l+j) u b;have e:=c d;subst e;exact ⟨rfl,by simpa [bk,of,U9] using f⟩
 ·cases b
def Own (w:World) (B:Nat) (e:TypeId) (sz:Nat) (ad:Option Addr) (n cap:Nat) (cs:List Value):Prop:=
 cs.length=n*sz/\((Value.slice ad n cap=.slice none 0 0/\n=0)\/ ∃(g cap':Nat) (cur:Array Value),Value.slice ad n cap=.slice (some ⟨g,0,none⟩) n cap'/\B<=g/\w.heap[g]?=some (.cells cur e (0,0))/\n<=cap'/\cap'<=maxLen/\cap'*sz<=cur.size/\cur.toList.take (n*sz)=cs)
def Own.of {w:World} {B:Nat} {e:TypeId} {sz:Nat} {ad:Option Addr} {n cap:Nat} {cs:List Value} (h:w.ownsRow B e sz (.slice ad n cap) n cs):Own w B e sz ad n cap cs:=by
 obtain ⟨h1,h2|⟨g,cap',cur,h3,h4,h5,h6,h7,h8,h9⟩⟩:=h
 ·exact ⟨h1,.inl h2⟩
 ·exact ⟨h1,.inr ⟨g,cap',cur,h3,h4,h5,h6,h7,Nat.le_of_eq h8.symm,h9⟩⟩
def Own.len {w B e sz ad n cap cs} (h:Own w B e sz ad n cap cs):cs.length=n*sz:=h.1
def Own.cases {w:World} {B:Nat} {e:TypeId} {sz:Nat} {ad:Option Addr} {n cap:Nat} {cs:List Value} (h:Own w B e sz ad n cap cs):
  (ad=none/\n=0/\cap=0/\cs= [])\/ ∃c,ad=some ⟨bk ad,0,none⟩/\B<=bk ad/\Blk w (bk ad) c e/\n<=cap/\cap<=maxLen/\cap*sz<=c.size/\c.toList.take (n*sz)=cs:=by
 obtain ⟨h1,h2⟩:=h;rcases h2 with ⟨h2,h3⟩|⟨g,cap',cur,hv,hb,hg,hn,hm,hs,ht⟩
 ·simp only [Value.slice.injEq] at h2;obtain ⟨rfl,rfl,rfl⟩:=h2;exact .inl ⟨rfl,rfl,rfl,T1 (by simpa using h1)⟩
 ·simp only [Value.slice.injEq,true_and] at hv;obtain ⟨rfl,rfl⟩:=hv;exact .inr ⟨cur,rfl,hb,hg,hn,hm,hs,ht⟩
def Own.rg {w B e sz ad n cap cs} (h:Own w B e sz ad n cap cs):Rg w ad cs:=by
 rcases h.cases with ⟨_,_,_,rfl⟩|⟨c,b,_,d,_,_,_,f⟩
 ·exact Rg.nil _ _
 ·rw [b];refine Rg.blk d cs fun j u a=>?_;rw [<-f,Z3] at a;split at a
  ·simpa using a
  ·cases a
def Own.chg {S w w' B e sz ad n cap cs} (h:Own w B e sz ad n cap cs) (j:Chg S w w') (a:bk ad∉S\/ad=none):Own w' B e sz ad n cap cs:=by
 obtain ⟨l,d⟩:=h;refine ⟨l,?_⟩;rcases d with d|⟨g,b,f,c,m,i,r⟩
 ·exact .inl d
 ·refine .inr ⟨g,b,f,c,m,?_,r⟩;simp only [Value.slice.injEq,true_and] at c;rcases a with a|a
  ·rw [c.1] at a;exact (j.block g (Y3.1 i).1 a).trans i
  ·rw [a] at c;simp at c
def Own.pure {w w' B e sz ad n cap cs} (h:Own w B e sz ad n cap cs) (a:Chg [] w w'):Own w' B e sz ad n cap cs:=h.chg a (.inl (by simp))
def Own.nil (w:World) (B:Nat) (e:TypeId) (sz:Nat):Own w B e sz none 0 0 []:=.of (World.ownsRow_nil w B e sz)
def Own.le {w B e sz ad n cap cs} (h:Own w B e sz ad n cap cs):n<=cap/\cap<=maxLen:=by
 rcases h.cases with ⟨_,rfl,rfl,_⟩|⟨c,_,_,_,a,b,_⟩
 ·exact ⟨W6 _,U3 _⟩
 ·exact ⟨a,b⟩
def Own.ge {w B e sz ad n cap cs} (h:Own w B e sz ad n cap cs):ad=none\/(B<=bk ad/\bk ad<w.heap.size):=by
 rcases h.cases with ⟨a,_⟩|⟨c,_,a,b,_⟩
 ·exact .inl a
 ·exact .inr ⟨a,b.lt⟩
def ldv (P:Program) (t:TypeId) (c:Array Value) (o:Nat):Option Value:=
 match P.info? t,P.underlying t with
 |some i,some (.struct _)|some i,some (.array _ _)=>match Nat.ble (o+i.size) c.size with|true=>some (.agg (c.extract o (o+i.size)))|false=>none
 |some _,some _=>c[o]?
 |_,_=>none
def zi3 (P:Program) (t:TypeId):Bool:=match P.underlying t with|some (.struct _)|some (.array _ _)=>false|some _=>true|none=>false
def zz9:TypeDesc->Bool| .struct _=>true| .array _ _=>true|_=>false
def zl1 {P t d} (h:P.underlying t=some d) (w):(isAgg t).run P w=.ok (zz9 d) w:=by
 unfold isAgg;rw [Sem.run_bind];have:(underlying t).run P w=.ok d w:=by simp [underlying,h]
 rw [this];cases d<;>rfl
def zi7 {P t} (h:zi3 P t=true) {a w v} (b:w.cell? a=some v):(loadVar t a).run P w=.ok v w:=by
 unfold zi3 at h;cases hd:P.underlying t with
 |none=>rw [hd] at h;cases h
 |some d=>
  rw [hd] at h;unfold loadVar;rw [Sem.run_bind,zl1 hd];cases d<;>first|(cases h;done)|simp [zz9,load,Sem.run,b]
def jn3 (w:World) (g:Nat) (c:Array Value) (e:TypeId) (d:Nat×Nat) (f:w.heap[g]?=some (.cells c e d)) (o n:Nat) (i:o+n<=c.size) (P:Program):
  (loadCells ⟨g,o,none⟩ n).run P w=.ok (c.extract o (o+n)) w:=by
 have:=run_loadCells_list (P:=P) (w:=w) ⟨g,o,none⟩ (c.extract o (o+n)).toList (fun j v b=>by
  have a:(⟨g,o,none⟩:Addr).add j=⟨g,o+j,none⟩:=by unfold Addr.add;split<;>simp_all
  rw [a,cell_of_row w g (o+j) c e d f];simp only [Array.getElem?_toList,Array.getElem?_extract] at b;split at b
  ·exact b
  ·cases b)
 have h:(c.extract o (o+n)).toList.length=n:=by simp;omega
 rw [h] at this;rw [this]
def zm6 {P t w g o c e l v} (s:w.heap[g]?=some (.cells c e l)) (h:ldv P t c o=some v):
  (loadVar t ⟨g,o,none⟩).run P w=.ok v w:=by
 unfold ldv at h;have agg: ∀(i:TypeInfo) (d:TypeDesc),P.info? t=some i->P.underlying t=some d->zz9 d=true->
   (match Nat.ble (o+i.size) c.size with|true=>some (Value.agg (c.extract o (o+i.size)))|false=>none)=some v->(loadVar t ⟨g,o,none⟩).run P w=.ok v w:=by
  intro i d b a m j;split at j
  ·rename_i p;simp only [X0] at j;subst j;have f:=Y1 p;unfold loadVar;rw [Sem.run_bind,zl1 a,m];have u:(sizeOf t).run P w=.ok i.size w:=by simp [sizeOf,typeInfo,b]
   simp only [Result.andThen_ok,if_true,Sem.run_bind,u,jn3 w g c e l s o i.size f P,Sem.run_pure]
  ·cases j
 split at h
 ·rename_i i _ b a;exact agg i _ b a rfl h
 ·rename_i i _ _ b a;exact agg i _ b a rfl h
 ·rename_i i d q r b a;refine zi7 ?_ (by rw [cell_of_row w g o c e l s];exact h);unfold zi3;rw [a];cases d<;>first|rfl|(exact absurd rfl (q _))|(exact absurd rfl (r _ _))|skip
  all_goals simp_all
 ·cases h
def yg2 (c:Array Value) (o:Nat):List Value->Array Value
 | []=>c
 |v::r=>yg2 (c.setIfInBounds o v) (o+1) r
def stv (P:Program) (t:TypeId) (c:Array Value) (o:Nat) (v:Value):Option (Array Value):=
 match P.info? t with
 |some i=>match (Nat.beq v.cells.size i.size&&(Nat.ble (o+i.size) c.size&&v.cells.toList.all Value.oneCell')) with|true=>some (yg2 c o v.cells.toList)|false=>none
 |none=>none
def zi8 (P e g): ∀(vs o i c w),Blk w g c e->o+i+vs.length<=c.size->(∀v∈vs,v.oneCell'=true)->
  ∃w',(storeCells ⟨g,o,none⟩ vs i).run P w=.ok () w'/\Blk w' g (yg2 c (o+i) vs) e/\Chg [g] w w'
 | [],o,i,c,w,b,_,_=>⟨w,rfl,b,Chg.refl _ _⟩
 |v::r,o,i,c,w,b,p,m=>by
  simp only [U5] at p;have d:(⟨g,o,none⟩:Addr).add i=⟨g,o+i,none⟩:=by unfold Addr.add;split<;>simp_all
  have a:w.cell? ⟨g,o+i,none⟩=some c[o+i]:=by
   rw [cell_of_row w g (o+i) c e (0,0) b,Z6 (by omega)]
  have f:=frozen_of_row w g (o+i) c e b;have h:(store ((⟨g,o,none⟩:Addr).add i) v).run P w=.ok () (w.setCell ⟨g,o+i,none⟩ v):=by
   rw [d];have:=run_store P w ⟨g,o+i,none⟩ v .plain (m v (by simp));rw [this];simp [a,f]
  have j:Blk (w.setCell ⟨g,o+i,none⟩ v) g (c.setIfInBounds (o+i) v) e:=heap_setCell_same w g (o+i) c e v b;obtain ⟨w',q,s,t⟩:=zi8 P e g r o (i+1) _ _ j (by simp;omega) (fun u x=>m u (by simp [x]));refine ⟨w',?_,s,?_⟩
  ·unfold storeCells;rw [Sem.run_bind,h];exact q
  ·have l:Chg [g] w (w.setCell ⟨g,o+i,none⟩ v):=⟨rfl,rfl,rfl,by simp,fun k _ y=>heap_setCell_other w _ k v (by simpa using y)⟩;exact l.step t (by simp)
def yy2 {P t w g o c c' e v} (f:Blk w g c e) (h:stv P t c o v=some c'):
  ∃w',(storeVar t ⟨g,o,none⟩ v).run P w=.ok () w'/\Blk w' g c' e/\Chg [g] w w':=by
 unfold stv at h;split at h
 ·rename_i i j;split at h
  ·rename_i a;simp only [X0] at h;subst h;simp only [X3] at a;have b:v.cells.size=i.size:=X1 a.1;have l:=Y1 a.2.1;have d: ∀u∈v.cells.toList,u.oneCell'=true:=by
    have:=a.2.2;rw [Y8] at this;exact this
   obtain ⟨w',m,p,q⟩:=zi8 P e g v.cells.toList o 0 c w f (by simp [b];omega) d;refine ⟨w',?_,p,q⟩;have r:(sizeOf t).run P w=.ok i.size w:=by simp [sizeOf,typeInfo,j]
   unfold storeVar;simp only [Sem.run_bind,r,Result.andThen_ok,b,ne_eq,not_true_eq_false,if_false,m]
  ·cases h
 ·cases h
section
variable {P:Program} {ops:Array Oper} {Q:Exit->Act->World->Prop} {k n:Nat} {ds:List Deferred} {F:PF} {w:World}
def qb6 (ops:Array Oper) (k n:Nat) (F:PF):Option (Option Tmp×TypeId×Value):=
 match dec ops k n F with|some ⟨dst,.box e x,_,_,_,_⟩=>some (dst,e,evD F x)|_=>none
def WR.box {dst e v} (a:qb6 ops k n F=some (dst,e,v)) (c) (f:v.cells=c)
  (K: ∀g w',New w w' g c e->WR P ops Q (k+1) n ds (upd F dst (.pointer (some ⟨g,0,none⟩))) w'):WR P ops Q k n ds F w:=by
 unfold qb6 at a;split at a
 ·rename_i d h x ty i j l b;simp only [X0,X7] at a;obtain ⟨rfl,rfl,rfl⟩:=a;subst f;exact .val b (v:=.pointer (some ⟨w.heap.size,0,none⟩)) (w':=w.alloc (.cells (evD F x).cells h)) rfl (K _ _ (New.alloc w _ _))
 ·cases a
def yu9 (ops:Array Oper) (k n:Nat) (F:PF):Option (Option Tmp×TypeId):=
 match dec ops k n F with|some ⟨dst,.alloc e,_,_,_,_⟩=>some (dst,e)|_=>none
def qg5 (P:Program) (e:TypeId):Option (Array Value):=match P.info? e with|some i=>(match i.zero with|some z=>some z.cells|none=>none)|none=>none
def jb9 {e c} (h:qg5 P e=some c): ∃i z,P.info? e=some i/\i.zero=some z/\z.cells=c:=by
 unfold qg5 at h;split at h
 ·rename_i i a;split at h
  ·rename_i z b;exact ⟨i,z,a,b,by simpa using h⟩
  ·cases h
 ·cases h
def WR.alloc {dst e} (a:yu9 ops k n F=some (dst,e)) (c) (f:qg5 P e=some c)
  (K: ∀g w',New w w' g c e->WR P ops Q (k+1) n ds (upd F dst (.pointer (some ⟨g,0,none⟩))) w'):WR P ops Q k n ds F w:=by
 unfold yu9 at a;split at a
 ·rename_i d h ty j o p b;simp only [X0,X7] at a;obtain ⟨rfl,rfl⟩:=a;obtain ⟨i,z,l,m,rfl⟩:=jb9 f;refine .val b (v:=.pointer (some ⟨w.heap.size,0,none⟩)) (w':=w.alloc (.cells z.cells h)) ?_ (K _ _ (New.alloc w _ _));simp [execOp,Instr.alloc,zeroValue,typeInfo,l,m,newVar,newRow]
 ·cases a
def zp1 (ops:Array Oper) (k n:Nat) (F:PF):Option (Option Tmp×TypeId×Value):=
 match dec ops k n F with|some ⟨dst,.load t x,_,_,_,_⟩=>some (dst,t,evD F x)|_=>none
def zg8 {dst t p} (a:zp1 ops k n F=some (dst,t,p)): ∃o,dec ops k n F=some o/\o.dst=dst/\
  execOp (evD F) o=(do pure (.value (<-Instr.loadAt t p)):Sem Next):=by
 unfold zp1 at a;split at a
 ·rename_i d e x ty c f g b;simp only [X0,X7] at a;obtain ⟨rfl,rfl,rfl⟩:=a;exact ⟨_,b,rfl,rfl⟩
 ·cases a
def WR.load {dst t g o c e} (b:Blk w g c e) (d:zp1 ops k n F=some (dst,t,.pointer (some ⟨g,o,none⟩))) (v) (f:ldv P t c o=some v)
  (K:WR P ops Q (k+1) n ds (upd F dst v) w):WR P ops Q k n ds F w:=by
 obtain ⟨i,a,rfl,h⟩:=zg8 d;refine .val a (v:=v) (w':=w) ?_ K;rw [h];simp [Instr.loadAt,Instr.sureAddr,zm6 b f]
def WR.load1 {dst t a} (c:zp1 ops k n F=some (dst,t,.pointer (some a))) (d:zi3 P t=true) (v) (e:w.cell? a=some v)
  (K:WR P ops Q (k+1) n ds (upd F dst v) w):WR P ops Q k n ds F w:=by
 obtain ⟨g,b,rfl,f⟩:=zg8 c;refine .val b (v:=v) (w':=w) ?_ K;rw [f];simp [Instr.loadAt,Instr.sureAddr,zi7 d e]
def zn1 (ops:Array Oper) (k n:Nat) (F:PF):Option (TypeId×Value×Value):=
 match dec ops k n F with|some ⟨none,.store t a x,_,_,_,_⟩=>some (t,evD F a,evD F x)|_=>none
def WR.store {t g o c e v} (f:Blk w g c e) (b:zn1 ops k n F=some (t,.pointer (some ⟨g,o,none⟩),v)) (c') (h:stv P t c o v=some c')
  (K: ∀w',Blk w' g c' e->Chg [g] w w'->WR P ops Q (k+1) n ds F w'):WR P ops Q k n ds F w:=by
 unfold zn1 at b;split at b
 ·rename_i q a x ty i r s d;simp only [X0,X7] at b;obtain ⟨rfl,j,rfl⟩:=b;obtain ⟨w',l,m,p⟩:=yy2 (P:=P) f h;refine .skip d (w':=w') ?_ (K w' m p);simp [execOp,Instr.storeAt,Instr.sureAddr,j,l]
 ·cases b
def zu0 (ops:Array Oper) (k n:Nat) (F:PF):Option (Option Tmp×TypeId×Value×Value):=
 match dec ops k n F with|some ⟨dst,.indexAddr t x i,_,_,_,_⟩=>some (dst,t,evD F x,evD F i)|_=>none
def zn3 (P:Program) (t:TypeId):Option Nat:=match P.underlying t with|some (.slice e)=>(P.info? e).map (·.size)|_=>none
def WR.index {dst:Option Tmp} {t:TypeId} {ad:Option Addr} {m cap:Nat} {kk:IntKind} {i:Int} {cs:List Value} (hr:Rg w ad cs) (hd:zu0 ops k n F=some (dst,t,.slice ad m cap,.int kk i)) (sz:Nat) (hsz:zn3 P t=some sz)
  (h0:0<=i) (hi:i<m) (hne:cs≠ []) (j:Nat) (hj:j=i.toNat*sz)
  (K:WR P ops Q (k+1) n ds (upd F dst (.pointer (some ⟨bk ad,of ad+j,none⟩))) w):WR P ops Q k n ds F w:=by
 subst hj;unfold zu0 at hd;split at hd
 ·rename_i d t' x ix ty pos af gd hdec;simp only [X0,X7] at hd;obtain ⟨rfl,rfl,hx,hix⟩:=hd;obtain ⟨b,o,rfl⟩: ∃b o,ad=some ⟨b,o,none⟩:=by
   cases cs with
   |nil=>exact absurd rfl hne
   |cons u r=>exact ⟨_,_,(hr 0 u rfl).1⟩
  unfold zn3 at hsz;split at hsz
  ·rename_i e hu;cases hinf:P.info? e with
   |none=>rw [hinf] at hsz;cases hsz
   |some inf=>
    rw [hinf] at hsz;simp only [Z8,X0] at hsz;refine .val hdec (v:=.pointer (some ⟨b,o+i.toNat*sz,none⟩)) (w':=w) ?_ K;have hs:(sizeOf e).run P w=.ok inf.size w:=by simp [sizeOf,typeInfo,hinf]
    have hul:(underlying t').run P w=.ok (.slice e) w:=by simp [underlying,hu]
    have hadd:(⟨b,o,none⟩:Addr).add (i.toNat*inf.size)=⟨b,o+i.toNat*inf.size,none⟩:=by unfold Addr.add;split<;>simp_all
    simp only [execOp,hx,hix];simp [Instr.indexAt,asIntOf,hul,h0,hi,hs,<-hsz,hadd]
  ·cases hsz
 ·cases hd
def Ret (S:List Nat) (w:World) (R:Value->World->Prop):Ending->World->Prop
 | .returned v,w'=>Chg S w w'/\R v w'
 |_,_=>False
def zp7 (w:World) (v:Value):Ending->World->Prop:=Ret [] w fun u _=>u=v
def zo5 (P:Program) (ops:Array Oper) (k n:Nat) (F:PF) (w:World):Option (Option Tmp×Result Next):=
 match dec ops k n F with|some o=>some (o.dst,(execOp (evD F) o).run P w)|none=>none
def zj1 {w dst r} (h:zo5 P ops k n F w=some (dst,r)): ∃o,dec ops k n F=some o/\o.dst=dst/\(execOp (evD F) o).run P w=r:=by
 unfold zo5 at h;split at h
 ·rename_i o a;simp only [X0,X7] at h;exact ⟨o,a,h.1,h.2⟩
 ·cases h
def WR.call {dst f args S R} (c:zo5 P ops k n F w=some (dst,.ok (.enter f args) w)) (d:Calls P f args w (Ret S w R))
  (K: ∀v w',Chg S w w'->R v w'->WR P ops Q (k+1) n ds (upd F dst v) w'):WR P ops Q k n ds F w:=by
 obtain ⟨o,e,rfl,a⟩:=zj1 c;exact .enter e a d (fun v w' b=>K v w' b.1 b.2) (fun _ _ h=>h.elim) (fun _ h=>h.elim)
def WR.callP {dst f args R} (d:zo5 P ops k n F w=some (dst,.ok (.enter f args) w)) (e:Calls P f args w R)
  (g: ∀w',¬R .outgrown w')
  (K: ∀v w',R (.returned v) w'->WR P ops Q (k+1) n ds (upd F dst v) w') (i: ∀c w',R (.panicked c) w'-> ∀a,Fr n ds F a->Q (.panic c) a w'):WR P ops Q k n ds F w:=by
 obtain ⟨o,j,rfl,b⟩:=zj1 d;exact .enter j b e K i (fun w' h=>(g w' h).elim)
def WR.valR {dst v w'} (b:zo5 P ops k n F w=some (dst,.ok (.value v) w')) (K:WR P ops Q (k+1) n ds (upd F dst v) w'):WR P ops Q k n ds F w:=by
 obtain ⟨o,c,rfl,a⟩:=zj1 b;exact .val c a K
def WR.eqF {F':PF} (h:F=F') (K:WR P ops Q k n ds F' w):WR P ops Q k n ds F w:=h▸K
def WQ (P:Program) (ops:Array Oper) (C:World->Prop) (Qf:Act->Prop) (k n:Nat) (ds:List Deferred) (F:PF):Prop:=
 ∀a,Fr n ds F a->wpQuiet P ops C Qf (ops.toList.drop k) a
def CW.regionQ {id} (b:P.follows .mixedOrders=true) (c:Region.lexB .any ops=true)
  (h:WQ P ops (fun w'=>Chg [] w w') (fun d=> ∀w',Chg [] w w'->Q .normal d w') 0 n ds F):CW P (.region id ops true) Q n ds F w:=
 fun a e=>wp_region_quiet (C:=fun w'=>Chg [] w w') b c (Chg.drew w) (by simpa using h a e)
variable {C:World->Prop} {Qf:Act->Prop}
def WQ.step {o v} (d:dec ops k n F=some o) (h: ∀w,C w->Oper.quietUpon P C w v ((execOp (evD F) o).run P w))
  (K:WQ P ops C Qf (k+1) n ds (upd F o.dst v)):WQ P ops C Qf k n ds F:=by
 intro a c;obtain ⟨e,b,f,g,i⟩:=zn2 d;rw [zk6 e];unfold wpQuiet;rw [if_pos (i c)];refine ⟨v,fun w j=>?_,K _ (c.upd b v)⟩;unfold Oper.quietAt;rw [vf6 c f g];exact h w j
def WQ.val {dst} (v) (c: ∀w,zo5 P ops k n F w=some (dst,.ok (.value v) w)) (K:WQ P ops C Qf (k+1) n ds (upd F dst v)):WQ P ops C Qf k n ds F:=by
 obtain ⟨o,d,rfl,_⟩:=zj1 (c default);refine .step d (fun w _=>?_) K;obtain ⟨o',a,_,b⟩:=zj1 (c w);rw [d] at a;cases a;rw [b];exact ⟨rfl,rfl⟩
def WQ.pass {o} (c:ops[k]?=some o) (d:zv8 ops F o=some false) (e:zi0 n o.dst=true) (K:WQ P ops C Qf (k+1) n ds (upd F o.dst undef)):WQ P ops C Qf k n ds F:=by
 intro a b;rw [zk6 c];unfold wpQuiet;rw [if_neg (by rw [yg7 b d];simp)];exact K _ (b.upd e undef)
def yb2 (ops:Array Oper) (k n:Nat) (F:PF):Option (Option Tmp):=
 match ops[k]? with
 |some o=>(match zv8 ops F o with|some false=>(match zi0 n o.dst with|true=>some o.dst|false=>none)|_=>none)
 |none=>none
def WQ.pass1 {dst} (h:yb2 ops k n F=some dst) (K:WQ P ops C Qf (k+1) n ds (upd F dst undef)):WQ P ops C Qf k n ds F:=by
 unfold yb2 at h;split at h
 ·rename_i o a;split at h
  ·rename_i b;split at h
   ·rename_i c;simp only [X0] at h;subst h;exact .pass a b c K
   ·cases h
  ·cases h
 ·cases h
def WQ.call {dst:Option Tmp} {f:FuncId} {args:Array Value} (v:Value) (hr: ∀w,zo5 P ops k n F w=some (dst,.ok (.enter f args) w)) (hC: ∀w w',C w->Chg [] w w'->C w')
  (hc: ∀w,C w->Calls P f args w (zp7 w v)) (K:WQ P ops C Qf (k+1) n ds (upd F dst v)):WQ P ops C Qf k n ds F:=by
 obtain ⟨o,hd,rfl,_⟩:=zj1 (hr default);refine .step hd (fun w hw=>?_) K;obtain ⟨o',hd',_,hrun⟩:=zj1 (hr w);rw [hd] at hd';cases hd';rw [hrun];refine ⟨rfl,(hc w hw).mono fun e w' h=>?_⟩;cases e with
 |returned u=>obtain ⟨h1,h2⟩:=h;exact ⟨by rw [h2],hC w w' hw h1⟩
 |panicked ch=>exact h.elim
 |outgrown=>exact h.elim
def WQ.load1 {dst t a} (c:zp1 ops k n F=some (dst,t,.pointer (some a))) (d:zi3 P t=true) (v) (e: ∀w,C w->w.cell? a=some v)
  (K:WQ P ops C Qf (k+1) n ds (upd F dst v)):WQ P ops C Qf k n ds F:=by
 obtain ⟨h,b,rfl,f⟩:=zg8 c;refine .step b (fun w g=>?_) K;rw [f];simp [Instr.loadAt,Instr.sureAddr,zi7 d (e w g),Oper.quietUpon]
def ys1 {dst t b o m cap q i sz} (f:zu0 ops k n F=some (dst,t,.slice (some ⟨b,o,none⟩) m cap,.int q i)) (a:zn3 P t=some sz)
  (r:0<=i) (s:i<m): ∃j,dec ops k n F=some j/\j.dst=dst/\ ∀w,(execOp (evD F) j).run P w=.ok (.value (.pointer (some ⟨b,o+i.toNat*sz,none⟩))) w:=by
 unfold zu0 at f;split at f
 ·rename_i d u x B ty v D E g;simp only [X0,X7] at f;obtain ⟨rfl,rfl,y,l⟩:=f;unfold zn3 at a;split at a
  ·rename_i e z;cases hinf:P.info? e with
   |none=>rw [hinf] at a;cases a
   |some c=>
    rw [hinf] at a;simp only [Z8,X0] at a;refine ⟨_,g,rfl,fun w=>?_⟩;have A:(sizeOf e).run P w=.ok c.size w:=by simp [sizeOf,typeInfo,hinf]
    have p:(underlying u).run P w=.ok (.slice e) w:=by simp [underlying,z]
    have h:(⟨b,o,none⟩:Addr).add (i.toNat*c.size)=⟨b,o+i.toNat*c.size,none⟩:=by unfold Addr.add;split<;>simp_all
    simp only [execOp,y,l];simp [Instr.indexAt,asIntOf,p,r,s,A,<-a,h]
  ·cases a
 ·cases f
def WQ.index {dst:Option Tmp} {t:TypeId} {ad:Option Addr} {m cap:Nat} {kk:IntKind} {i:Int} {cs:List Value} {w0:World} (hr:Rg w0 ad cs) (hd:zu0 ops k n F=some (dst,t,.slice ad m cap,.int kk i)) (sz:Nat) (hsz:zn3 P t=some sz)
  (h0:0<=i) (hi:i<m) (hne:cs≠ []) (j:Nat) (hj:j=i.toNat*sz)
  (K:WQ P ops C Qf (k+1) n ds (upd F dst (.pointer (some ⟨bk ad,of ad+j,none⟩)))):WQ P ops C Qf k n ds F:=by
 subst hj;obtain ⟨b,o,rfl⟩: ∃b o,ad=some ⟨b,o,none⟩:=by
  cases cs with
  |nil=>exact absurd rfl hne
  |cons u r=>exact ⟨_,_,(hr 0 u rfl).1⟩
 obtain ⟨op,hdec,rfl,hrun⟩:=ys1 hd hsz h0 hi;exact .step hdec (fun w _=>by rw [hrun];exact ⟨rfl,rfl⟩) K
def WQ.keep {F':PF} (l:List Nat) (h:F.keep l=F') (K:WQ P ops C Qf k n ds F'):WQ P ops C Qf k n ds F:=fun a ha=>K a (ha.keep l h)
def WQ.eqF {F':PF} (h:F=F') (K:WQ P ops C Qf k n ds F'):WQ P ops C Qf k n ds F:=h▸K
def WQ.fin (b:Nat.ble ops.size k=true) (K: ∀w',Chg [] w w'-> ∀a,Fr n ds F a->Q .normal a w'):WQ P ops C (fun c=> ∀w',Chg [] w w'->Q .normal c w') k n ds F:=fun a d=>by
 rw [M6 (by simpa using Y1 b)];exact fun w' h=>K w' h a d
end
end Go.V
namespace Go.V
open Go.RowKit
def zc7 (ad:Option Addr):List Nat:=match ad with|some a=> [a.block]|none=> []
def Own.nil0 {w B e sz ad n cap cs} (h:Own w B e sz ad n cap cs) (b:ad=none):n=0/\cap=0:=by
 rcases h.cases with ⟨_,a,d,_⟩|⟨c,a,_⟩
 ·exact ⟨a,d⟩
 ·rw [b] at a;cases a
def Apart (a b:Option Addr):Prop:=a=none\/b=none\/bk a≠bk b
def Apart.symm {a b} (h:Apart a b):Apart b a:=by rcases h with h|h|h;exact .inr (.inl h);exact .inl h;exact .inr (.inr (Ne.symm h))
def Apart.grow {w:World} {B:Nat} {e:TypeId} {sz:Nat} {a a' b:Option Addr} {n cap:Nat} {cs:List Value} (h:Apart a b) (h2:Own w B e sz b n cap cs) (hw:a'=a\/w.heap.size<=bk a'):Apart a' b:=by
 rcases hw with rfl|hw
 ·exact h
 ·rcases h2.ge with h3|⟨_,h3⟩
  ·exact .inr (.inl h3)
  ·exact .inr (.inr (by omega))
def Apart.off {a b} (h:Apart a b):bk a∉zc7 b\/a=none:=by
 rcases h with h|h|h
 ·exact .inr h
 ·subst h;exact .inl (by simp [zc7])
 ·left;cases b with
  |none=>simp [zc7]
  |some b=>simpa [zc7,bk] using h
section
variable {P:Program} {ops:Array Oper} {Q:Exit->Act->World->Prop} {k n:Nat} {ds:List Deferred} {F:PF} {w:World}
def zp5 (P:Program) (t:TypeId):Option (TypeId×Nat×Nat×Array Value):=
 match P.underlying t with
 |some (.slice e)=>(match P.info? e with|some i=>(match i.zero with|some z=>(match Nat.beq z.cells.size i.size with|true=>some (e,i.size,i.bytes,z.cells)|false=>none)|none=>none)|none=>none)
 |_=>none
def zd2 {t e sz a b} (h:zp5 P t=some (e,sz,a,b)):
  ∃i z,P.underlying t=some (.slice e)/\P.info? e=some i/\i.zero=some z/\i.size=sz/\i.bytes=a/\z.cells=b/\b.size=sz:=by
 unfold zp5 at h;split at h
 ·rename_i j c;split at h
  ·rename_i i d;split at h
   ·rename_i z f;split at h
    ·rename_i g;simp only [X0,X7] at h;obtain ⟨rfl,rfl,rfl,rfl⟩:=h;exact ⟨i,z,c,d,f,rfl,rfl,rfl,X1 g⟩
    ·cases h
   ·cases h
  ·cases h
 ·cases h
def yh1 (ops:Array Oper) (k n:Nat) (F:PF):Option (Option Tmp×TypeId×Value×Value):=
 match dec ops k n F with|some ⟨dst,.makeSlice t l c,_,_,_,_⟩=>some (dst,t,evD F l,evD F c)|_=>none
def WR.make {dst:Option Tmp} {t e:TypeId} {kl kc:IntKind} {l c:Int} {sz by_:Nat} {zc:Array Value} (hd:yh1 ops k n F=some (dst,t,.int kl l,.int kc c)) (hi:zp5 P t=some (e,sz,by_,zc)) (m m':Nat) (hm:l=(m:Int)) (hm':c=(m':Int)) (hle:m<=m')
  (hbytes:by_*m'<=281474976710656) (h63:m'<=9223372036854775807)
  (K: ∀g w',New w w' g (madeCells zc (m'*sz)) e->WR P ops Q (k+1) n ds (upd F dst (.slice (some ⟨g,0,none⟩) m m')) w'):WR P ops Q k n ds F w:=by
 subst hm hm';unfold yh1 at hd;split at hd
 ·rename_i d t' lx cx ty pos af gd hdec;simp only [X0,X7] at hd;obtain ⟨rfl,rfl,hl,hc⟩:=hd;obtain ⟨i,z,hu,hin,hz,rfl,rfl,rfl,hzs⟩:=zd2 hi;have hb':(i.bytes:Int)*(m':Int)<=281474976710656:=by
   have h:((i.bytes*m':Nat):Int)<=281474976710656:=by omega
   rwa [Int.natCast_mul] at h
  have hr:=run_make (P:=P) w t' e i z hu hin hz kl kc m m' (by omega) (by omega) hb' (by omega);simp only [Z1] at hr;refine .val hdec (v:=.slice (some ⟨w.heap.size,0,none⟩) m m') (w':=w.alloc (.cells (madeCells z.cells (m'*i.size)) e)) ?_ (K _ _ (New.alloc w _ _));simp [execOp,hl,hc,hr]
 ·cases hd
def Own.made {w w' g b e sz m m'} (h:New w w' g (madeCells b (m'*sz)) e) (a:m<=m') (c:m'<=9223372036854775807):
  Own w' w.heap.size e sz (some ⟨g,0,none⟩) m m' ((madeCells b (m'*sz)).toList.take (m*sz)):=by
 refine ⟨?_,.inr ⟨g,m',madeCells b (m'*sz),rfl,h.fresh,h.blk,a,by unfold maxLen;omega,by simp [size_madeCells],rfl⟩⟩;have:m*sz<=m'*sz:=Q9 _ a;rw [Y6,J1,size_madeCells,V9 this]
def ws4 (z m m') (h:m<=m'):(madeCells #[z] (m'*1)).toList.take (m*1)=List.replicate m z:=by
 rw [Nat.mul_one,Nat.mul_one,toList_madeCells_one,List.take_replicate,V9 h]
def jd2 (ops:Array Oper) (k n:Nat) (F:PF):Option (Option Tmp×TypeId×Value×Value):=
 match dec ops k n F with
 |some ⟨dst,.call {callee:=.builtin .append,args:=a,argTypes:=ats},_,_,_,_⟩=>
  (match a.toList,ats.toList with| [s,x],[t,b]=>(match Nat.beq t b with|true=>some (dst,t,evD F s,evD F x)|false=>none)|_,_=>none)
 |_=>none
def yj0 {dst t s x} (h:jd2 ops k n F=some (dst,t,s,x)):
  ∃o,dec ops k n F=some o/\o.dst=dst/\ ∀w,(execOp (evD F) o).run P w=((Builtin.append_ #[t,t] o.type #[s,x]).run P w).andThen fun v w'=>.ok (.value v) w':=by
 unfold jd2 at h;split at h
 ·rename_i d a b ty i r u c;split at h
  ·rename_i j l g y m e;split at h
   ·rename_i p;have:=X1 p;subst this;simp only [X0,X7] at h;obtain ⟨rfl,rfl,rfl,rfl⟩:=h;refine ⟨_,c,rfl,fun w=>?_⟩;have q:a= #[j,l]:=by rw [<-Array.toArray_toList (xs:=a),m]
    have f:b= #[g,g]:=by rw [<-Array.toArray_toList (xs:=b),e]
    subst q f;simp [execOp,resolve,invoke,builtin]
   ·cases h
  ·cases h
 ·cases h
def WR.append {dst:Option Tmp} {t e:TypeId} {sz by_:Nat} {zc:Array Value} {B:Nat} {ad xd:Option Addr} {m cap xm xcap:Nat} {cs news:List Value} (ho:Own w B e sz ad m cap cs) (hx:Rg w xd news)
  (hd:jd2 ops k n F=some (dst,t,.slice ad m cap,.slice xd xm xcap)) (hi:zp5 P t=some (e,sz,by_,zc)) (hl:news.length=xm*sz) (hsz:0<sz) (h1: ∀u∈news,u.oneCell'=true) (hB:B<=w.heap.size)
  (h63:m+xm<=9223372036854775807) (hby:(m+xm)*by_<=140737488355328) (hnil:xd=none->xm=0/\xcap=0)
  (K: ∀ad' cap' w',Own w' B e sz ad' (m+xm) cap' (cs++news)->Chg (zc7 ad) w w'->(ad'=ad\/w.heap.size<=bk ad')->WR P ops Q (k+1) n ds (upd F dst (.slice ad' (m+xm) cap')) w'):WR P ops Q k n ds F w:=by
 obtain ⟨o,hdec,rfl,hrun⟩:=yj0 hd;obtain ⟨i,z,hu,hin,hz,rfl,rfl,rfl,hzs⟩:=zd2 hi;have hmc:=ho.le;have addE: ∀(b off j:Nat),(⟨b,off,none⟩:Addr).add j=⟨b,off+j,none⟩:=fun b off j=>by unfold Addr.add;split<;>simp_all
 by_cases hx0:xm=0
 ·
  subst hx0;have hn:news= []:=T1 (by simpa using hl);subst hn;have hr:(Builtin.append_ #[t,t] o.type #[.slice ad m cap,.slice xd 0 xcap]).run P w=.ok (.slice ad m cap) w:=by
   cases ad with
   |none=>
    cases xd with
    |none=>simp [Builtin.append_,run_underlying hu,sizeOf,typeInfo,hin,Builtin.lenOf,Builtin.firstCells,hmc.1]
    |some a=>simp [Builtin.append_,run_underlying hu,sizeOf,typeInfo,hin,Builtin.lenOf,Builtin.firstCells,loadCells,loadCellsFrom,hmc.1]
   |some g=>
    cases xd with
    |none=>simp [Builtin.append_,run_underlying hu,sizeOf,typeInfo,hin,Builtin.lenOf,Builtin.firstCells,storeCells,hmc.1]
    |some a=>simp [Builtin.append_,run_underlying hu,sizeOf,typeInfo,hin,Builtin.lenOf,Builtin.firstCells,loadCells,loadCellsFrom,storeCells,hmc.1]
  exact .val hdec (v:=.slice ad (m+0) cap) (w':=w) (by rw [hrun,hr];rfl) (K ad cap w (by simpa using ho) (Chg.refl _ _) (.inl rfl))
 ·have hxm:0<xm:=by omega
  have hne:news≠ []:=by
   intro e;rw [e] at hl;have:=Nat.mul_pos hxm hsz;simp at hl;omega
  obtain ⟨b,off,rfl⟩: ∃b off,xd=some ⟨b,off,none⟩:=by
   cases news with
   |nil=>exact absurd rfl hne
   |cons u r=>exact ⟨_,_,(hx 0 u rfl).1⟩
  have hnews: ∀j v,news[j]?=some v->w.cell? ((⟨b,off,none⟩:Addr).add j)=some v:=fun j v hj=>by rw [addE];exact (hx j v hj).2
  have hlen:(cs++news).length=(m+xm)*i.size:=by rw [X9,ho.len,hl,V5]
  have grown: ∀(old:Nat),Own (w.drew.alloc (.cells (cs.toArray++news.toArray++Builtin.zeroCells z.cells (grownCap w (m+xm) old e-(m+xm))) e)) B e i.size (some ⟨w.heap.size,0,none⟩) (m+xm) (grownCap w (m+xm) old e) (cs++news):=by
   intro old;have hge:=grownCap_ge w (m+xm) old e;have hcm:grownCap w (m+xm) old e<=maxLen:=grownCap_le_maxLen w (m+xm) old e (by unfold maxLen;omega);refine ⟨hlen,.inr ⟨w.heap.size,_,_,rfl,hB,heap_alloc_new w.drew _,hge,hcm,?_,?_⟩⟩
   ·have hs:cs.length+news.length=(m+xm)*i.size:=by rw [<-List.length_append];exact hlen
    have:(m+xm)*i.size+(grownCap w (m+xm) old e-(m+xm))*i.size=grownCap w (m+xm) old e*i.size:=by rw [<-Nat.add_mul];congr 1;omega
    simp only [Array.size_append,T2,size_zeroCells,hzs];omega
   ·simp only [Array.toList_append,Q2];rw [<-List.append_assoc,<-hlen];exact R2
  have hgc: ∀(old:Nat) (S:List Nat),Chg S w (w.drew.alloc (.cells (cs.toArray++news.toArray++Builtin.zeroCells z.cells (grownCap w (m+xm) old e-(m+xm))) e)):=
   fun old S=>⟨rfl,rfl,rfl,by simp,fun k hk _=>Below.heap_alloc w.drew _ k hk⟩
  rcases ho.cases with ⟨rfl,rfl,rfl,rfl⟩|⟨c',had,hBb,hbl,hmc',hcm',hcs,htk⟩
  ·have hr:=run_append_nil (P:=P) w t o.type e i z hu hin hz ⟨b,off,none⟩ xm xcap news hl hnews (by omega) (by omega) (by have hb:=hby;simp only [W8] at hb;omega);have hg:=grown 0;have hc:=hgc 0 (zc7 none);simp only [W8,U6,Array.empty_append] at hg hc hr;refine .val hdec (v:=.slice (some ⟨w.heap.size,0,none⟩) (0+xm) (grownCap w xm 0 e)) (by rw [hrun,hr,W8];rfl) (K _ _ _ (by simpa using hg) hc (.inr (W6 _)))
  ·obtain ⟨g,rfl⟩: ∃g,ad=some ⟨g,0,none⟩:=⟨_,had⟩;by_cases hroom:m+xm<=cap
   ·have hfit:m*i.size+news.length<=c'.size:=by rw [hl,<-Nat.add_mul];exact W7 (Q9 _ hroom) hcs
    have hr:=run_append_room (P:=P) w t o.type e i hu hin g m cap c' hbl ⟨b,off,none⟩ xm xcap news hl hnews h1 hroom hfit;refine .val hdec (v:=.slice (some ⟨g,0,none⟩) (m+xm) cap) (by rw [hrun,hr];rfl) (K (some ⟨g,0,none⟩) cap _ ?_ ?_ (.inl rfl))
    ·refine ⟨hlen,.inr ⟨g,cap,_,rfl,hBb,setRow_heap w g c' _ e _ hbl,hroom,hcm',?_,?_⟩⟩
     ·simp only [T2,X9,Y6,Q7,J1];omega
     ·rw [htk,<-hlen];exact R2
    ·exact ⟨rfl,rfl,rfl,by simp,fun k _ hk=>setRow_other w g k _ (fun e=>hk (by simp [zc7,e]))⟩
   ·have holds: ∀j v,cs[j]?=some v->w.cell? ((⟨g,0,none⟩:Addr).add j)=some v:=fun j v hj=>by rw [addE];exact (ho.rg j v hj).2
    have hr:=run_append_grow (P:=P) w t o.type e i z hu hin hz ⟨g,0,none⟩ m cap cs ho.len holds ⟨b,off,none⟩ xm xcap news hl hnews (by omega) (by omega) (growslice_fits (by omega) hby);exact .val hdec (v:=.slice (some ⟨w.heap.size,0,none⟩) (m+xm) (grownCap w (m+xm) cap e)) (by rw [hrun,hr];rfl) (K _ _ _ (grown cap) (hgc cap _) (.inr (W6 _)))
def zx2 (P:Program) (t:TypeId) (a:Nat) (b:List (Nat×Value)):Option (TypeId×Array Value):=
 match P.underlying t with
 |some (.slice e)=>(match P.info? e with
  |some i=>(match Nat.ble (a*i.size) 16777216 with
   |true=>(match (match Nat.beq (a*i.size) 0 with|true=>some #[]|false=>(match i.zero with|some z=>some z.cells|none=>none)) with
    |some zero=>(match Instr.fill (fun j=>some (j*i.size,i.size)) ((Array.range (a*i.size)).map (zero[· %zero.size]!)) b with|some c=>some (e,c)|none=>none)
    |none=>none)
   |false=>none)
  |none=>none)
 |_=>none
def vw4 (P:Program) (ops:Array Oper) (k n:Nat) (F:PF):Option (Option Tmp×Nat×TypeId×Array Value):=
 match dec ops k n F with
 |some ⟨dst,.buildSlice t b a,_,_,_,_⟩=>(match zx2 P t b (a.map fun (i,x)=>(i,evD F x)).toList with|some (e,c)=>some (dst,b,e,c)|none=>none)
 |_=>none
def WR.bslice {dst:Option Tmp} {len:Nat} {e:TypeId} (c:Array Value) (hd:vw4 P ops k n F=some (dst,len,e,c))
  (K: ∀g w',New w w' g c e->WR P ops Q (k+1) n ds (upd F dst (.slice (some ⟨g,0,none⟩) len len)) w'):WR P ops Q k n ds F w:=by
 unfold vw4 at hd;split at hd
 ·rename_i d t l parts ty pos af gd hdec;split at hd
  ·rename_i e' c' hb;simp only [X0,X7] at hd;obtain ⟨rfl,rfl,rfl,rfl⟩:=hd;refine .val hdec (v:=.slice (some ⟨w.heap.size,0,none⟩) l l) (w':=w.alloc (.cells c' e')) ?_ (K _ _ (New.alloc w _ _));unfold zx2 at hb;split at hb
   ·rename_i e1 hu;split at hb
    ·rename_i i hi;split at hb
     ·rename_i hle;have hle':=Y1 hle;split at hb
      ·rename_i zero hz;split at hb
       ·rename_i cells hfill;simp only [X0,X7] at hb;obtain ⟨rfl,rfl⟩:=hb;have hs:(sizeOf e1).run P w=.ok i.size w:=by simp [sizeOf,typeInfo,hi]
        have hn: ¬(16777216<l*i.size):=by omega
        have hul:(underlying t).run P w=.ok (.slice e1) w:=by simp [underlying,hu]
        simp only [execOp,Instr.buildSlice,Sem.run_bind,hul,Result.andThen_ok,hs];simp only [Nat.reducePow,gt_iff_lt,hn,if_false];by_cases h0:l*i.size=0
        ·have hz0:zero= #[]:=by
          split at hz
          ·simpa using hz.symm
          ·rename_i hb0;simp [h0] at hb0
         subst hz0;simp only [h0,if_true,Sem.run_bind,Sem.run_pure,Result.andThen_ok] at hfill⊢;simp only [hfill];simp [newRow]
        ·obtain ⟨z,hzz,hzc⟩: ∃z,i.zero=some z/\z.cells=zero:=by
          split at hz
          ·rename_i hb0;exact absurd (X1 hb0) h0
          ·split at hz
           ·rename_i z hzz;exact ⟨z,hzz,by simpa using hz⟩
           ·cases hz
         have hzv:(zeroValue e1).run P w=.ok z w:=by simp [zeroValue,typeInfo,hi,hzz]
         subst hzc;simp only [h0,if_false,Sem.run_bind,Sem.run_pure,hzv,Result.andThen_ok];simp only [hfill];simp [newRow]
       ·cases hb
      ·cases hb
     ·cases hb
    ·cases hb
   ·cases hb
  ·cases hd
 ·cases hd
def zy8 (ops:Array Oper) (k n:Nat) (F:PF):Option (Option Tmp×TypeId×Value×Option Value×Option Value):=
 match dec ops k n F with|some ⟨dst,.slice t x a b none,_,_,_,_⟩=>some (dst,t,evD F x,a.map (evD F),b.map (evD F))|_=>none
def ya2 {dst t x b c} (h:zy8 ops k n F=some (dst,t,x,b,c)):
  ∃o,dec ops k n F=some o/\o.dst=dst/\execOp (evD F) o=(do pure (.value (<-Instr.sliceAt t x b c none)):Sem Next):=by
 unfold zy8 at h;split at h
 ·rename_i d f g l' i ty e j l a;simp only [X0,X7] at h;obtain ⟨rfl,rfl,rfl,rfl,rfl⟩:=h;exact ⟨_,a,rfl,rfl⟩
 ·cases h
def yo2 {t e} (h:P.underlying t=some (.slice e)):P.underlying t=some (.slice (P.elem t)):=by
 have:P.elem t=e:=by simp [Program.elem,h]
 rw [this];exact h
def zv7 (P:Program) (t:TypeId):Option Nat:=(P.info? t).map (·.size)
def WR.loadA {dst t ad j cs sz} (p:Rg w ad cs) (q:zp1 ops k n F=some (dst,t,.pointer (some ⟨bk ad,of ad+j,none⟩))) (g:zi3 P t=false) (r:(P.underlying t).isSome=true) (a:zv7 P t=some sz) (vs) (s:vs.length=sz) (u:(cs.drop j).take sz=vs)
  (K:WR P ops Q (k+1) n ds (upd F dst (.agg vs.toArray)) w):WR P ops Q k n ds F w:=by
 obtain ⟨z,b,rfl,x⟩:=zg8 q;refine .val b (v:=.agg vs.toArray) (w':=w) ?_ K;obtain ⟨d,c⟩:=N4.1 r;have h:zz9 d=true:=by
  unfold zi3 at g;rw [c] at g;cases d<;>first|rfl|cases g
 have l:(sizeOf t).run P w=.ok sz w:=by
  unfold zv7 at a;cases hin:P.info? t with
  |none=>rw [hin] at a;cases a
  |some y=>rw [hin] at a;simp at a;simp [sizeOf,typeInfo,hin,a]
 have o:=run_loadCells_list (P:=P) (w:=w) ⟨bk ad,of ad+j,none⟩ vs (fun i v e=>by
  have f:(⟨bk ad,of ad+j,none⟩:Addr).add i=⟨bk ad,of ad+(j+i),none⟩:=by unfold Addr.add;split<;>simp_all [U9]
  rw [f];rw [<-u,Z3] at e;split at e
  ·rw [Q6] at e;exact (p (j+i) v e).2
  ·cases e)
 rw [s] at o;have m:(loadVar t ⟨bk ad,of ad+j,none⟩).run P w=.ok (.agg vs.toArray) w:=by
  unfold loadVar;rw [Sem.run_bind,zl1 c,h];simp only [Result.andThen_ok,if_true,Sem.run_bind,l,o,Sem.run_pure]
 rw [x];simp [Instr.loadAt,Instr.sureAddr,m]
def yy1 {t g o c e v} (i:Blk w g c e) (b:zv7 P t=some 1) (j:v.oneCell'=true) (d:v.cells= #[v]) (l:o<c.size):
  (storeVar t ⟨g,o,none⟩ v).run P w=.ok () (w.setCell ⟨g,o,none⟩ v):=by
 have f:(sizeOf t).run P w=.ok 1 w:=by
  unfold zv7 at b;cases hin:P.info? t with
  |none=>rw [hin] at b;cases b
  |some m=>rw [hin] at b;simp at b;simp [sizeOf,typeInfo,hin,b]
 have a:w.cell? ⟨g,o,none⟩=some c[o]:=by rw [cell_of_row w g o c e (0,0) i,Z6 l]
 have h:=run_store P w ⟨g,o,none⟩ v .plain j;unfold storeVar;simp only [d,Sem.run_bind,f,Result.andThen_ok];simp only [T2,U5,N5,W8,ne_eq,not_true_eq_false,if_false];simp only [storeCells,Sem.run_bind,Addr.add,if_true];rw [h];simp [a,frozen_of_row w g o c e i]
def WR.storeB {t g o c e v} (h:Blk w g c e) (b:zn1 ops k n F=some (t,.pointer (some ⟨g,o,none⟩),v)) (i:zv7 P t=some 1) (j:v.oneCell'=true) (f:v.cells= #[v]) (l:o<c.size)
  (K: ∀w',Blk w' g (c.setIfInBounds o v) e->Chg [g] w w'->WR P ops Q (k+1) n ds F w'):WR P ops Q k n ds F w:=by
 unfold zn1 at b;split at b
 ·rename_i r a x ty m s u d;simp only [X0,X7] at b;obtain ⟨rfl,p,rfl⟩:=b;refine .skip d (w':=w.setCell ⟨g,o,none⟩ (evD F x)) ?_ (K _ (heap_setCell_same w g o c e _ h) ⟨rfl,rfl,rfl,by simp,fun k _ q=>heap_setCell_other w _ k _ (by simpa using q)⟩);simp [execOp,Instr.storeAt,Instr.sureAddr,p,yy1 h i j f l]
 ·cases b
def WR.storeE {t B e ad m cap cs j v} (o:Own w B e 1 ad m cap cs) (p:zn1 ops k n F=some (t,.pointer (some ⟨bk ad,of ad+j,none⟩),v)) (r:zv7 P t=some 1) (s:v.oneCell'=true) (a:v.cells= #[v]) (y:j<m)
  (K: ∀w',Own w' B e 1 ad m cap (cs.set j v)->Chg (zc7 ad) w w'->WR P ops Q (k+1) n ds F w'):WR P ops Q k n ds F w:=by
 rcases o.cases with ⟨_,z,_⟩|⟨c,b,u,q,d,f,h,i⟩
 ·omega
 ·obtain ⟨g,rfl⟩: ∃g,ad=some ⟨g,0,none⟩:=⟨_,b⟩;simp only [bk,of,W8] at p q;refine .storeB q p r s a (by omega) fun w' l x=>K w' ?_ x;refine ⟨by simpa using o.1,.inr ⟨g,cap,_,rfl,u,l,d,f,by simpa using h,?_⟩⟩;rw [A1,<-i,List.take_set]
def jl8: ∀(vs o c),o+vs.length<=c.size->(yg2 c o vs).toList=c.toList.take o++vs++c.toList.drop (o+vs.length)
 | [],o,c,_=>by simp [yg2]
 |v::r,o,c,h=>by
  simp only [U5] at h;unfold yg2;rw [jl8 r (o+1) _ (by simp;omega)];simp only [A1,U5];have b:o<c.toList.length:=by simp;omega
  rw [List.take_set,List.drop_set_of_lt (by omega),S9 b];rw [show o+1+r.length=o+(r.length+1) by omega];have a:(c.toList.take o).length=o:=by rw [Y6];omega
  have:(c.toList.take o++ [c.toList[o]]).set o v=c.toList.take o++ [v]:=by
   rw [List.set_append_right _ _ (by omega),a,Nat.sub_self];rfl
  rw [this];simp
def WR.storeW {t g} {c:Array Value} {e} {vs:List Value} (p:Blk w g c e) (d:zn1 ops k n F=some (t,.pointer (some ⟨g,0,none⟩),.agg vs.toArray)) (b:zv7 P t=some c.size) (m:vs.length=c.size) (q: ∀v∈vs,v.oneCell'=true)
  (K: ∀w',Blk w' g vs.toArray e->Chg [g] w w'->WR P ops Q (k+1) n ds F w'):WR P ops Q k n ds F w:=by
 unfold zn1 at d;split at d
 ·rename_i h a x ty r B C f;simp only [X0,X7] at d;obtain ⟨rfl,s,u⟩:=d;obtain ⟨w',y,o,z⟩:=zi8 P e g vs 0 0 c w p (by omega) q;have i:yg2 c (0+0) vs=vs.toArray:=by
   apply Array.toList_inj.1;rw [jl8 vs 0 c (by omega)];simp [m]
  rw [i] at o;refine .skip f (w':=w') ?_ (K w' o z);have j:(sizeOf h).run P w=.ok c.size w:=by
   unfold zv7 at b;cases hin:P.info? h with
   |none=>rw [hin] at b;cases b
   |some A=>rw [hin] at b;simp at b;simp [sizeOf,typeInfo,hin,b]
  have l:(storeVar h ⟨g,0,none⟩ (.agg vs.toArray)).run P w=.ok () w':=by
   unfold storeVar;simp only [Value.cells,Sem.run_bind,j,Result.andThen_ok,T2,m,ne_eq,not_true_eq_false,if_false,y]
  simp [execOp,Instr.storeAt,Instr.sureAddr,s,u,l]
 ·cases d
def Blk.rg {w g c e} (h:Blk w g c e) (cs) (a:c.toList=cs):Rg w (some ⟨g,0,none⟩) cs:=
 Rg.blk h cs fun j u b=>by rw [<-a] at b;simpa using b
def Own.ofBlk {w:World} {g:Nat} {c:Array Value} {e B n cap sz:Nat} (h:Blk w g c e) (hB:B<=g) (hn:n<=cap) (hm:cap<=9223372036854775807) (hc:cap*sz<=c.size) (cs:List Value) (hcs:c.toList.take (n*sz)=cs):Own w B e sz (some ⟨g,0,none⟩) n cap cs:=by
 subst hcs;refine ⟨?_,.inr ⟨g,cap,c,rfl,hB,h,hn,by unfold maxLen;omega,hc,rfl⟩⟩;have:n*sz<=cap*sz:=Q9 _ hn;rw [Y6,J1,V9 (W7 this hc)]
end
end Go.V
namespace Go.V
open Go.RowKit
section
variable {P:Program} {ops:Array Oper} {Q:Exit->Act->World->Prop} {k n:Nat} {ds:List Deferred} {F:PF} {w:World}
def WR.defer {dst d} (g:zo5 P ops k n F w=some (dst,.ok (.defer d) w)) (K:WR P ops Q (k+1) n (d::ds) (upd F dst undef) w):WR P ops Q k n ds F w:=by
 obtain ⟨o,f,rfl,b⟩:=zj1 g;refine .step f fun a c h=>?_;unfold Oper.wp;rw [h,b];have e:Fr n (d::ds) F {a with defers:=d::a.defers}:=⟨c.size,by simp [c.defers],c.val⟩;exact K _ (e.upd (zn2 f).2.1 undef)
def uf6 (P:Program) (w:World) (F:PF):ResultVar->Value->Prop
 | .tmp t,v=>F.get t=some v
 | .cell p ty,v=> ∃a,F.get p=some (.pointer (some a))/\(loadVar ty a).run P w=.ok v w
def vw0 (P:Program) (w:World) (F:PF):List ResultVar->List Value->Prop
 | [],[]=>True
 |r::l,v::vs=>uf6 P w F r v/\vw0 P w F l vs
 |_,_=>False
def jw6 {a:Act} (ha:Fr n ds F a) (f:ResultVar->Sem Value) (hf: ∀t,f (.tmp t)=Pure.pure (a.tmps.getD t undef)) (hg: ∀c t,f (.cell c t)=(do loadVar t (<-asAddr (a.tmps.getD c undef)))): ∀(l:List ResultVar) (vs:List Value),vw0 P w F l vs->(l.mapM f).run P w=.ok vs w
 | [],vs,h=>by cases vs<;>first|rfl|exact h.elim
 |r::l,[],h=>h.elim
 |r::l,v::vs,h=>by
  obtain ⟨h1,h2⟩:=h;have ih:=jw6 ha f hf hg l vs h2;have hr:(f r).run P w=.ok v w:=by
   cases r with
   |tmp t=>rw [hf,(ha.val t v h1).1];rfl
   |cell p ty=>
    obtain ⟨b,hb,hl⟩:=h1;rw [hg,(ha.val p _ hb).1];simp [asAddr,hl]
  simp only [R1,Sem.run_bind,hr,Result.andThen_ok,ih,Sem.run_pure]
def tup:List Value->Value| [v]=>v|l=>.tuple l.toArray
def vt6 {a} (d:Fr n ds F a) {fn vs} (h:vw0 P w F fn.results.toList vs):(results fn a.tmps).run P w=.ok (tup vs) w:=by
 unfold results;have b: ∀(f:ResultVar->Sem Value),(∀t,f (.tmp t)=Pure.pure (a.tmps.getD t undef))->(∀c t,f (.cell c t)=(do loadVar t (<-asAddr (a.tmps.getD c undef))))->(fn.results.mapM f).run P w=.ok vs.toArray w:=by
  intro f e g;have:=jw6 (P:=P) (w:=w) d f e g fn.results.toList vs h;rw [S8];simp only [Sem.run_map,this,Result.andThen_ok]
 rw [Sem.run_bind,b _ (fun _=>rfl) (fun _ _=>rfl)];simp only [Result.andThen_ok]
 match vs with
 | []=>rfl
 | [v]=>rfl
 |v::u::r=>rfl
def qa7:FrameMode->Value×FrameMode
 | .panicking ({v,recovered:=false,goexit:=false}::older)=>(v,.panicking ({v,recovered:=true}::older))
 |u=>(.nilIface,u)
def kb0 (ops:Array Oper):Option Tmp:=match ops[0]? with|some (Oper.mk (some d) (.call (Call.mk (.builtin .recover) _ _)) _ _ _ none)=>some d|_=>none
def je5 {Q:Exit->Act->List Frame->World->Prop} {id:Nat} {d:Tmp} (hd:kb0 ops=some d) {c₀:Frame} {cs:List Frame} {v:Value} {u':FrameMode} (hu:qa7 c₀.mode=(v,u')) {a:Act}
  (h:wpList P ops (fun e a w=>Q e a ({c₀ with mode:=u'}::cs) w) (ops.toList.drop 1) (a.put (some d) v) w):(Code.region id ops false).wpS P Q a (c₀::cs) w:=by
 intro b k hb hro;unfold kb0 at hd;split at hd
 ·rename_i d' aS ats ty pos af ho;simp only [X0] at hd;subst hd;have hlt:0<ops.size:=(Y3.1 ho).1;have hr:(execOp a.eval ⟨some d',.call {callee:=.builtin .recover,args:=aS,argTypes:=ats},ty,pos,af,none⟩).run P w=.ok .recover w:=by
   simp [execOp,resolve,invoke,builtin]
  have hg:=stepG_op (P:=P) (b:=b) (a:=a) (k:=k) (cs:=c₀::cs) (w:=w) (rest:=List.range' 1 (ops.size-1)) (i:=0) ho (by simp [Region.wanted]);have hk:(b.at a (.inRegion ops (0::List.range' 1 (ops.size-1))::k)).kind=.deferred:=hb;have htr:=tryRecover_deferred hk (c₀::cs);have hfin: ∀v,(b.at a (.inRegion ops (0::List.range' 1 (ops.size-1))::k)).finish v=b.at (a.put (some d') v) (.inRegion ops (List.range' 1 (ops.size-1))::k):=by
   intro v;rw [Frame.finish_at,ho];rfl
  have hrange:List.range ops.size=0::List.range' 1 (ops.size-1):=by
   obtain ⟨m,hm⟩: ∃m,ops.size=m+1:=⟨ops.size-1,by omega⟩;rw [hm,List.range_eq_range',List.range'_succ];rfl
  have hops:wpOps P ops (fun e a w=>Q e a ({c₀ with mode:=u'}::cs) w) (List.range' 1 (ops.size-1)) (a.put (some d') v) w:=by
   have:=wpOps_eq_wpList (P:=P) (ops:=ops) (Q:=fun e a w=>Q e a ({c₀ with mode:=u'}::cs) w) (ops.toList.drop 1) 1 (by intro j;simp [J4]);have hl:(ops.toList.drop 1).length=ops.size-1:=by simp
   rw [hl] at this;rw [this];exact h
  obtain ⟨e,a',w',hq,harr⟩:=wp_ops _ _ _ hops b k ({c₀ with mode:=u'}::cs);have hstep:step P (lone (b.at a (.inRegion ops (0::List.range' 1 (ops.size-1))::k)) (c₀::cs) w)=.next (lone (b.at (a.put (some d') v) (.inRegion ops (List.range' 1 (ops.size-1))::k)) ({c₀ with mode:=u'}::cs) w):=by
   have hrec:recoverD (c₀::cs)=some (v,{c₀ with mode:=u'}::cs)\/(recoverD (c₀::cs)=none/\v=.nilIface/\u'=c₀.mode):=by
    unfold qa7 at hu;unfold recoverD;split at hu
    ·rename_i x older hm;simp only [X7] at hu;obtain ⟨rfl,rfl⟩:=hu;left;simp [hm]
    ·rename_i hne;simp only [X7] at hu;obtain ⟨rfl,rfl⟩:=hu;right;refine ⟨?_,rfl,rfl⟩;dsimp only;split
     ·rename_i y older hm;exact absurd hm (hne y older)
     all_goals rfl
   refine step_lone_go ?_;rw [hg,<-hfin];rcases hrec with hrec|⟨hrec,rfl,rfl⟩
   ·simp only [Frame.at] at htr⊢;simp [stepG.apply,hr,htr,hrec]
   ·simp only [Frame.at] at htr⊢;simp [stepG.apply,hr,htr,hrec]
  exact ⟨e,a',_,w',hq,.of_steps (.head step_region (by rw [hrange];exact .one hstep)) harr⟩
 ·cases hd
def qh0 {f:FuncId} {fn:Func} {id:Nat} {rest:Code} {args:Array Value} {u u':FrameMode} {v:Value} {R:Ending->FrameMode->World->Prop} (hf:P.funcs[f]?=some fn) (hb:fn.body=some (.seq (.region id ops false) rest)) (hn:fn.ntmps=n)
  (hfr:Fr n [] F {tmps:=args++Array.replicate (fn.ntmps-args.size) undef,defers:= []}) (d:Tmp) (hd:kb0 ops=some d) (hdn:zi0 n (some d)=true) (hu:qa7 u=(v,u'))
  (h: ∀K:Act->World->Prop,(∀a w,rest.wp P (bodyPost P fn fun e w'=>R e u' w') a w->K a w)->WR P ops (Exit.then K (bodyPost P fn fun e w'=>R e u' w')) 1 n [] (upd F (some d) v) w):CallsD P f args u w R:=by
 refine callsD_of_wpS hf hb fun c₀ cs hc=>wpS_seq ?_;subst hc;have post: ∀e a w,bodyPost P fn (fun e w'=>R e u' w') e a w->bodyPostS P fn c₀ cs R e a ({c₀ with mode:=u'}::cs) w:=by
  intro e a w hq;cases e with
  |normal=>obtain ⟨h1,v,h2,h3⟩:=hq;exact ⟨h1,u',rfl,v,h2,h3⟩
  |ret=>obtain ⟨h1,v,h2,h3⟩:=hq;exact ⟨h1,u',rfl,v,h2,h3⟩
  |panic ch=>obtain ⟨h1,h2⟩:=hq;exact ⟨h1,u',rfl,h2⟩
  |exit id=>exact hq.elim
  |goto l=>exact hq.elim
  |outgrown=>exact ⟨u',hq⟩
 refine je5 hd hu ?_;have hw:=h (fun a w=>rest.wp P (bodyPost P fn fun e w'=>R e u' w') a w) (fun _ _ h=>h) _ (hfr.upd hdn v);have mono: ∀(Q Q':Exit->Act->World->Prop),(∀e a w,Q e a w->Q' e a w)-> ∀(l:List Oper) (a:Act) (w:World),wpList P ops Q l a w->wpList P ops Q' l a w:=by
  intro Q Q' hq l;induction l with
  |nil=>intro a w h;exact hq _ _ _ h
  |cons o r ih=>
   intro a w h;unfold wpList at h⊢;split
   ·rename_i hwant;rw [if_pos hwant] at h;rcases h with h|⟨h1,a₀,w₀,h2⟩
    ·left;unfold Oper.wp at h⊢;generalize (execOp a.eval o).run P w=r' at h⊢;unfold Oper.upon at h⊢;split at h
     ·exact ih _ _ h
     ·exact ih _ _ h
     ·exact ih _ _ h
     ·refine h.mono fun e w' he=>?_;cases e with
      |returned v=>exact ih _ _ he
      |panicked ch=>exact hq _ _ _ he
      |outgrown=>obtain ⟨a1,w1,h1⟩:=he;exact ⟨a1,w1,hq _ _ _ h1⟩
     ·exact h.mono fun v w' he=>ih _ _ he
     ·exact hq _ _ _ h
     ·exact h.elim
    ·right;exact ⟨h1,a₀,w₀,hq _ _ _ h2⟩
   ·rename_i hwant;rw [if_neg hwant] at h;exact ih _ _ h
 refine mono _ _ (fun e a w hq=>?_) _ _ _ hw;cases e with
 |normal=>exact wpS_of_wp (wp_mono hq post)
 |ret=>exact post .ret a w hq
 |panic ch=>exact post (.panic ch) a w hq
 |exit id=>exact post (.exit id) a w hq
 |goto l=>exact post (.goto l) a w hq
 |outgrown=>exact post .outgrown a w hq
end
end Go.V
namespace Go.V
open Go.RowKit
section
variable {P:Program} {ops:Array Oper} {Q:Exit->Act->World->Prop} {n:Nat} {ds:List Deferred} {F:PF} {w:World}
def WR.pass1 {k dst} (h:yb2 ops k n F=some dst) (K:WR P ops Q (k+1) n ds (upd F dst undef) w):WR P ops Q k n ds F w:=by
 unfold yb2 at h;split at h
 ·rename_i o c;split at h
  ·rename_i d;split at h
   ·rename_i e;simp only [X0] at h;subst h;intro a b;rw [zk6 c];unfold wpList;rw [if_neg (by rw [yg7 b d];simp)];exact K _ (b.upd e undef)
   ·cases h
  ·cases h
 ·cases h
def zg1 (ops:Array Oper) (i:Nat):List Nat:=match ops[i]? with|some o=>(o.after.toList.filter fun e=>Region.binds .any e).map (·.on)|none=> []
def gz8 (a:List Nat):List Nat->List Nat| []=>a|x::r=>gz8 (match a.contains x with|true=>a|false=>x::a) r
def yq0 (ops:Array Oper):Nat->List (List Nat)
 |0=> []
 |n+1=>yq0 ops n++ [gz8 [] (zg1 ops n++(zg1 ops n).flatMap fun k=>(yq0 ops n).getD k [])]
def va0 (ops:Array Oper) (m:Nat):Bool:=(List.range' m (ops.size-m)).all fun j=>(List.range j).all fun i=>((yq0 ops ops.size).getD j []).contains i
def zp8 (ops:Array Oper) (u:Nat->Value):Nat->Nat->PF
 |_,0=> []
 |i,m+1=>match (ops[i]?).bind (·.dst) with|some d=>(d,u i)::zp8 ops u (i+1) m|none=>zp8 ops u (i+1) m
def yo0 (ops:Array Oper) (m:Nat):List Nat:=(List.range m).filterMap fun i=>(ops[i]?).bind (·.dst)
def zf9:List Nat->Bool| []=>true|a::r=> !r.contains a&&zf9 r
def zl4 (ops:Array Oper):Bool:=(List.range ops.size).all fun i=>(zg1 ops i).all fun j=>Nat.blt j i
def zh7 (ops:Array Oper) (m:Nat):Bool:=(List.range m).all fun i=>match ops[i]? with|some o=>(match o.guard with|some (g,_)=>Nat.blt g i|none=>true)|none=>true
def zu1 {u s x}: ∀(m i),(zp8 ops u i m).get s=some x-> ∃j,i<=j/\j<i+m/\(ops[j]?).bind (·.dst)=some s/\x=u j
 |0,i,h=>by simp [zp8,PF.get] at h
 |m+1,i,h=>by
  unfold zp8 at h;split at h
  ·rename_i d b;simp only [PF.get] at h;split at h
   ·rename_i c;have:=X1 c;subst this;exact ⟨i,W6 _,by omega,b,by simpa using h.symm⟩
   ·obtain ⟨j,e,f,a⟩:=zu1 m (i+1) h;exact ⟨j,by omega,by omega,a⟩
  ·obtain ⟨j,e,f,a⟩:=zu1 m (i+1) h;exact ⟨j,by omega,by omega,a⟩
def zx8 (A B s):(A++B).get s=match A.get s with|some v=>some v|none=>PF.get B s:=by
 induction A with
 |nil=>simp [PF.get]
 |cons p r a=>
  obtain ⟨j,v⟩:=p;simp only [M9,PF.get];split<;>simp_all
def Nd (Q:Exit->Act->World->Prop) (n:Nat) (ds:List Deferred) (S:List Nat) (F:PF) (dst:Option Tmp) (w:World) (R:Value->World->Prop):Exit->Act->World->Prop
 | .normal,a,w'=>Chg S w w'/\ ∃v,Fr n ds (upd F dst v) a/\R v w'
 |e,a,w'=>Q e a w'
def zf3 (ops:Array Oper) (i:Nat):Option Tmp:=(ops[i]?).bind (·.dst)
inductive Tp (ops:Array Oper):Nat->Nat->Prop
 |one {i j:Nat} (h:(zg1 ops i).contains j=true):Tp ops i j
 |step {i k j:Nat} (h:(zg1 ops i).contains k=true) (t:Tp ops k j):Tp ops i j
def Tp.done {a:Array Bool} (b: ∀j i,a.getD j false=true->(zg1 ops j).contains i=true->a.getD i false=true) {i j} (t:Tp ops i j) (c:a.getD i false=true):a.getD j false=true:=by
 induction t with
 |one h=>exact b _ _ c h
 |step h _ d=>exact d (b _ _ c h)
def qt4 {x}: ∀ {l a},x∈gz8 a l->x∈a\/x∈l
 | [],_,h=>.inl h
 |y::r,a,h=>by
  unfold gz8 at h;rcases qt4 h with h|h
  ·split at h
   ·exact .inl h
   ·rcases Z0.1 h with rfl|h
    ·exact .inr (U1 ..)
    ·exact .inl h
  ·exact .inr (Z4 _ h)
def yj7 (ops): ∀n,(yq0 ops n).length=n
 |0=>rfl
 |n+1=>by rw [yq0,X9,yj7 ops n];rfl
def zp4: ∀(n j i),i∈(yq0 ops n).getD j []->Tp ops j i
 |0,j,i,h=>by simp [yq0] at h
 |n+1,j,i,h=>by
  rw [yq0,Y2] at h;rcases M1 j n with a|rfl|a
  ·rw [X8 (by rw [yj7];exact a),<-List.getD_eq_getElem?_getD] at h;exact zp4 n j i h
  ·rw [Z2 (by rw [yj7];exact W6 _),yj7,Nat.sub_self] at h;simp only [Y4,V3] at h;rcases qt4 h with h|h
   ·cases h
   ·rcases X4.1 h with h|h
    ·exact .one (by simpa using h)
    ·obtain ⟨k,b,h⟩:=V6.1 h;exact .step (by simpa using b) (zp4 j k i h)
  ·rw [Y5 (by simp [yj7];omega)] at h;simp at h
def Tp.lt (c:zl4 ops=true) {i j} (t:Tp ops i j) (d:i<ops.size):j<i:=by
 have one: ∀a b,a<ops.size->(zg1 ops a).contains b=true->b<a:=by
  intro a b e h;unfold zl4 at c;rw [Y8] at c;have:=c a (V0.2 e);rw [Y8] at this;simpa [U4] using this b (by simpa using h)
 induction t with
 |one h=>exact one _ _ d h
 |step h _ f=>have g:=one _ _ d h;have:=f (by omega);omega
def prj:Option Nat->Value->Value
 |none,v=>v
 |some c,.tuple a=>a.getD c undef
 |some _,_=>undef
def cL (a:List (Nat×Nat)) (i:Nat):List Nat:=(a.filter fun p=>p.1==i).map (·.2)
def wb2 {b i}: ∀t∈cL b i,t∈b.map (·.2):=by
 intro t a;unfold cL at a;rw [U0] at a⊢;obtain ⟨p,c,d⟩:=a;exact ⟨p,(W0.1 c).1,d⟩
def Ob (P:Program) (ops:Array Oper) (Q:Exit->Act->World->Prop) (n:Nat) (ds:List Deferred) (m:Nat) (B:PF) (W:World->Prop) (R:Nat->Value->World->Prop) (E:Nat->World->Value->Prop) (a:List (Nat×Nat×Option Nat)) (b:List (Nat×Nat)) (c:Nat->World->Prop) (i:Nat):Prop:=
 ∀(u:Nat->Value) (w:World),W w->(∀j,j=i\/Tp ops j i->c j w)->(∀j,Tp ops i j->R j (u j) w)->(∀p∈a,Tp ops i p.1->u p.1=prj p.2.2 (u p.2.1))->WR P (ops.extract 0 (i+1)) (Nd Q n ds (cL b i) (zp8 ops u 0 m++B) (zf3 ops i) w (fun v w'=>(E i w v/\ ∀p∈a,p.1=i->v=prj p.2.2 (u p.2.1))/\R i v w')) i n ds (zp8 ops u 0 m++B) w
def Obs (P:Program) (ops:Array Oper) (Q:Exit->Act->World->Prop) (n:Nat) (ds:List Deferred) (m:Nat) (B:PF) (W:World->Prop) (R:Nat->Value->World->Prop) (E:Nat->World->Value->Prop) (a:List (Nat×Nat×Option Nat)) (b:List (Nat×Nat)) (c:Nat->World->Prop):Nat->Nat->Prop
 |_,0=>True
 |i,f+1=>Ob P ops Q n ds m B W R E a b c i/\Obs P ops Q n ds m B W R E a b c (i+1) f
def vg9 {m B W R E a b c}: ∀(f i),Obs P ops Q n ds m B W R E a b c i f-> ∀j,i<=j->j<i+f->Ob P ops Q n ds m B W R E a b c j
 |0,i,_,j,d,e=>by omega
 |f+1,i,h,j,d,e=>by
  by_cases g:j=i
  ·subst g;exact h.1
  ·exact vg9 f (i+1) h.2 j (by omega) (by omega)
def ja4 {p} (I:Array Bool->Act->World->Prop)
  (step: ∀c a w i,I c a w->i∈Region.ready p ops c->wpOp P ops Q i (I (c.setIfInBounds i true)) a w)
  (k: ∀c a w,I c a w->Region.ready p ops c= []->Q .normal a w):
  ∀(d:Nat) (c:Array Bool) (a:Act) (w:World),(c.size=ops.size/\(c.toList.filter (· ==false)).length<=d)->I c a w->wpAny P p ops Q d c a w
 |0,c,a,w,q,s=>by
  have t:Region.ready p ops c= []:=by
   unfold Region.ready;rw [List.filter_eq_nil_iff];intro i m;have f:i<c.size:=by rw [q.1];simpa using m
   have:c[i]=true:=by
    cases o:c[i] with
    |true=>rfl
    |false=>
     have:c[i]∈c.toList.filter (· ==false):=by
      rw [W0];exact ⟨by simp,by simp [o]⟩
     have z:=List.length_pos_of_mem this;omega
   simp [this,f]
  exact ⟨t,k c a w s t⟩
 |d+1,c,a,w,q,s=>by
  refine ⟨fun t=>k c a w s t,fun i m=>wpOp_mono (fun x w' u=>ja4 I step k d _ x w' ?_ u) (step c a w i s m)⟩;have j:i<ops.size/\c.getD i true=false:=by
   unfold Region.ready at m;rw [W0] at m;refine ⟨by simpa using m.1,?_⟩;have:=m.2;rw [X3] at this;simpa using this.1
  refine ⟨by simpa using q.1,?_⟩;have f:i<c.size:=by rw [q.1];exact j.1
  have g:c[i]=false:=by
   have:=j.2;simpa [f] using this
  have v: ∀(l:List Bool) (i:Nat) (h:i<l.length),l[i]=false->((l.set i true).filter (· ==false)).length+1=(l.filter (· ==false)).length:=by
   intro l;induction l with
   |nil=>intro i h;simp at h
   |cons b r y=>
    intro i h o;cases i with
    |zero=>simp at o;subst o;simp
    |succ i=>
     have:=y i (by simpa using h) (by simpa using o);cases b<;>simp_all<;>omega
  have:=v c.toList i (by simpa using f) (by simpa using g);have e:(c.setIfInBounds i true).toList=c.toList.set i true:=by simp
  rw [e];omega
def CW.regionN {id} (m:Nat) (CL:List (Nat×Nat)) (Pr:Nat->World->Prop) (hPr0: ∀j,Pr j {w with drawn:=w.drawn+1}) (hPr: ∀i j w w',i≠j->Pr j w->Chg (cL CL i) w w'->Pr j w') (W:World->Prop) (R:Nat->Value->World->Prop) (E:Nat->World->Value->Prop) (AL:List (Nat×Nat×Option Nat)) (hAL:(AL.all fun p=>(zg1 ops p.1).contains p.2.1)=true) (D:Nat->Nat->Value->Value->Prop) (hD: ∀i j wq wq' v x,i≠j->E i wq v->R i v wq'->R j x wq->D i j v x/\D j i x v) (hm:P.follows .mixedOrders=true) (X:(Nat.ble m ops.size&&(va0 ops m&&(zf9 (yo0 ops m)&&(zl4 ops&&zh7 ops m))))=true)
  (hd:(yo0 ops m).all (fun d=>Nat.blt d n)=true) (hW0:W {w with drawn:=w.drawn+1}) (hW: ∀i w w',W w->Chg (cL CL i) w w'->W w') (hR: ∀i j v w w',i≠j->R j v w->Chg (cL CL i) w w'->R j v w')
  (ob:Obs P ops Q n ds m F W R E AL CL Pr 0 m)
  (K: ∀u w,W w->(∀j,j<m->R j (u j) w)->(∀j k,j<m->k<m->j≠k->D j k (u j) (u k))->(∀p∈AL,p.1<m->u p.1=prj p.2.2 (u p.2.1))->WR P ops Q m n ds (zp8 ops u 0 m++F) w):CW P (.region id ops true) Q n ds F w:=by
 intro a ha;simp only [X3] at X;obtain ⟨hmle,X,hdis,U,hgb⟩:=X;have hmle:=Y1 hmle;have hdn: ∀i d,i<m->(ops[i]?).bind (·.dst)=some d->d<n:=by
  intro i d hi hb;rw [Y8] at hd;have:=hd d (by unfold yo0;rw [T3];exact ⟨i,V0.2 hi,hb⟩);simpa [U4] using this
 have huniq: ∀i j d,i<m->j<m->(ops[i]?).bind (·.dst)=some d->(ops[j]?).bind (·.dst)=some d->i=j:=by
  have key: ∀(l:List Nat),zf9 (l.filterMap fun i=>(ops[i]?).bind (·.dst))=true->l.Nodup-> ∀i j d,i∈l->j∈l->(ops[i]?).bind (·.dst)=some d->(ops[j]?).bind (·.dst)=some d->i=j:=by
   intro l;induction l with
   |nil=>intro _ _ i j d hi;simp at hi
   |cons x r ih=>
    intro Z hn i j d hi f B q;rw [List.nodup_cons] at hn;have hmem: ∀y e,y∈r->(ops[y]?).bind (·.dst)=some e->e∈r.filterMap fun i=>(ops[i]?).bind (·.dst):=fun y e hy he=>T3.2 ⟨y,hy,he⟩;have N:zf9 (r.filterMap fun i=>(ops[i]?).bind (·.dst))=true:=by
     rw [List.filterMap_cons] at Z;split at Z
     ·exact Z
     ·simp only [zf9,X3] at Z;exact Z.2
    have hfirst: ∀e,(ops[x]?).bind (·.dst)=some e->e∉r.filterMap fun i=>(ops[i]?).bind (·.dst):=by
     intro e hx hm;rw [List.filterMap_cons] at Z;split at Z
     ·rename_i hn0;rw [hx] at hn0;cases hn0
     ·rename_i e' he';rw [hx] at he';cases he';simp only [zf9,X3,V4,R3,decide_eq_false_iff_not] at Z;exact Z.1 hm
    rcases Z0.1 hi with rfl|hi'
    ·rcases Z0.1 f with rfl|hj'
     ·rfl
     ·exact absurd (hmem j d hj' q) (hfirst d B)
    ·rcases Z0.1 f with rfl|hj'
     ·exact absurd (hmem i d hi' B) (hfirst d q)
     ·exact ih N hn.2 i j d hi' hj' B q
  intro i j d hi f;exact key (List.range m) hdis List.nodup_range i j d (V0.2 hi) (V0.2 f)
 let I:Array Bool->Act->World->Prop:=fun c a w=>c.size=ops.size/\
  (((∀j,m<=j->c.getD j true=false\/ops.size<=j)/\W w/\ ∃u,Fr n ds (zp8 ops u 0 m++F) a/\(∀j,j<m->c.getD j false=true->R j (u j) w)/\(∀j k,j<m->k<m->j≠k->c.getD j false=true->c.getD k false=true->D j k (u j) (u k))/\(∀p∈AL,p.1<m->c.getD p.1 false=true->c.getD p.2.1 false=true/\u p.1=prj p.2.2 (u p.2.1))/\(∀j i,c.getD j false=true->(zg1 ops j).contains i=true->c.getD i false=true)/\(∀j,c.getD j false=false->Pr j w))\/
   (∃k,m<k/\k<=ops.size/\(∀j,j<k->c.getD j false=true)/\(∀j,k<=j->c.getD j true=false\/ops.size<=j)/\wpList P ops Q (ops.toList.drop k) a w))
 have sufd: ∀j,m<=j->j<ops.size-> ∀i,i<j->Tp ops j i:=by
  intro j B q i hi;unfold va0 at X;rw [Y8] at X;have:=X j (by rw [List.mem_range'_1];omega);rw [Y8] at this;exact zp4 ops.size _ i (by simpa using this i (V0.2 hi))
 have readyd: ∀(c:Array Bool) i,i∈Region.ready .any ops c->i<ops.size/\c.getD i true=false/\ ∀j,(zg1 ops i).contains j=true->c.getD j false=true:=by
  intro c i hi;unfold Region.ready at hi;rw [W0] at hi;have hlt:i<ops.size:=by simpa using hi.1
  have q:=hi.2;rw [X3] at q;refine ⟨hlt,by simpa using q.1,fun j f=>?_⟩;unfold zg1 at f;rw [Z6 hlt] at f q;simp only [R3,decide_eq_true_eq,U0,W0] at f;obtain ⟨e,⟨he,hb⟩,rfl⟩:=f;have h3:=q.2;simp only [Z8,V3,Array.all_eq_true'] at h3;have:=h3 e (by simpa using he);rw [hb] at this;simpa using this
 have readyI: ∀(c:Array Bool) i,i<ops.size->c.getD i true=false->(∀j,(zg1 ops i).contains j=true->c.getD j false=true)->i∈Region.ready .any ops c:=by
  intro c i hlt B q;unfold Region.ready;rw [W0];refine ⟨by simpa using hlt,?_⟩;rw [Z6 hlt,B];simp only [Bool.not_false,N6,Z8,V3,Array.all_eq_true'];intro e he;cases hb:Region.binds .any e with
  |false=>rfl
  |true=>
   have:=q e.on (by
    unfold zg1;rw [Z6 hlt];simp only [R3,decide_eq_true_eq,U0,W0];exact ⟨e,⟨by simpa using he,hb⟩,rfl⟩)
   rw [this];rfl
 refine wp_region_any hm (ja4 I ?_ ?_ ops.size _ a _ ⟨by simp,by simp⟩ ⟨by simp,.inl ⟨fun j f=>?_,hW0,fun i=>a.tmps.getD ((zf3 ops i).getD 0) undef,⟨ha.size,ha.defers,?_⟩,fun j f C=>?_,fun j k f hk V C _=>?_,fun pr _ _ C=>?_,fun j _ C _=>?_,fun j _=>hPr0 j⟩⟩)
 ·
  intro c a w i hI hi;obtain ⟨J,H,hip⟩:=readyd c i hi;obtain ⟨hls,hI⟩:=hI;have G: ∀j d,(c.setIfInBounds i true).getD j d=if j=i then true else c.getD j d:=by
   intro j d;rw [Y7,Array.getElem?_setIfInBounds];split
   ·rename_i h;subst h;simp [hls,J]
   ·rename_i h;rw [if_neg (fun e=>h e.symm),<-Array.getD_eq_getD_getElem?]
  rcases hI with ⟨O,hWw,u,hfr,hRs,hDs,hAs,hcl,hPs⟩|⟨k,hmk,hkn,S,N,hwl⟩
  ·by_cases him:i<m
   ·
    have S: ∀j,Tp ops i j->c.getD j false=true:=by
     intro j t;cases t with
     |one h=>exact hip _ h
     |step h t=>exact t.done hcl (hip _ h)
    have hAm: ∀p∈AL,Tp ops i p.1->u p.1=prj p.2.2 (u p.2.1):=by
     intro p hp t;have L:=S p.1 t;have hjlt:p.1<ops.size:=by
      rcases U7 p.1 c.size with h|h
      ·rw [<-hls];exact h
      ·rw [Y7,Array.getElem?_eq_none h] at L;cases L
     have hjm:p.1<m:=by
      rcases U7 p.1 m with h|h
      ·exact h
      ·rcases O p.1 h with h'|h'
       ·rw [Y7] at h' L;rw [Z6 (by omega)] at h' L;simp at h' L;rw [h'] at L;cases L
       ·omega
     exact (hAs p hp hjm L).2
    have hOb:=vg9 m 0 ob i (U3 _) (by omega) u w hWw (fun j f=>hPs j (by
     have hif:c.getD i false=false:=by
      rw [Y7] at H⊢;rw [Z6 (by omega)] at H⊢;simpa using H
     rcases f with rfl|f
     ·exact hif
     ·cases hlj:c.getD j false with
      |false=>rfl
      |true=>rw [f.done hcl hlj] at hif;cases hif)) (fun j f=>by
     have L:=S j f;have hjlt:j<ops.size:=by
      rcases U7 j c.size with h|h
      ·rw [<-hls];exact h
      ·rw [Y7,Array.getElem?_eq_none h] at L;cases L
     have hjm:j<m:=by
      rcases U7 j m with h|h
      ·exact h
      ·rcases O j h with h'|h'
       ·rw [Y7] at h' L;rw [Z6 (by omega)] at h' L;simp at h' L;rw [h'] at L;cases L
       ·omega
     exact hRs j hjm L) hAm
    have hw:=hOb a hfr;have hext:(ops.extract 0 (i+1)).toList.drop i= [ops[i]]:=by
     rw [Array.toList_extract];simp only [List.extract_eq_take_drop,J5,J9];rw [S9 (by simpa using J),R4];simp [V9 (Nat.le_of_lt J)]
    rw [hext] at hw;have hio:ops[i]?=some ops[i]:=Z6 J;have hyi: ∀(o:Oper),Region.wanted o (yielded (ops.extract 0 (i+1)) a.tmps)=Region.wanted o (yielded (ops.extract 0 (i+1)) a.tmps):=fun _=>rfl;have hdO:zf3 ops i=ops[i].dst:=by simp [zf3,hio]
    have leave: ∀a' w',Nd Q n ds (cL CL i) (zp8 ops u 0 m++F) (zf3 ops i) w (fun v w'=>(E i w v/\ ∀p∈AL,p.1=i->v=prj p.2.2 (u p.2.1))/\R i v w') .normal a' w'->I (c.setIfInBounds i true) a' w':=by
     rintro a' w' ⟨hch,v,hf',⟨hEv,hAv⟩,hRv⟩
     refine ⟨by simpa using hls,.inl ⟨fun j f=>?_,hW i w w' hWw hch,fun j=>if j=i then v else u j,⟨hf'.size,hf'.defers,?_⟩,fun j f C=>?_,fun j k f hk V C hl2=>?_,fun pr hp hpm C=>?_,fun j i' C hd'=>?_,fun j C=>?_⟩⟩
     ·rw [G];rw [if_neg (by omega)];exact O j f
     ·intro s x hx;rw [zx8] at hx;split at hx
      ·rename_i y hy;simp only [X0] at hx;subst hx;obtain ⟨j,B,q,h3,rfl⟩:=zu1 m 0 hy;by_cases A:j=i
       ·subst A;simp only [if_true];have:(upd (zp8 ops u 0 m++F) (zf3 ops j) v).get s=some v:=by
         unfold zf3;rw [h3];simp [upd,PF.get]
        exact hf'.val s v this
       ·rw [if_neg A];have hne:zf3 ops i≠some s:=fun e=>A (huniq j i s (by omega) him h3 e);have f: ∀(m' k:Nat),k<=j->j<k+m'->m'+k<=m->(zp8 ops u k m').get s=some (u j):=by
         intro m';induction m' with
         |zero=>intro k B q;omega
         |succ m' ih=>
          intro k B q h4;unfold zp8;by_cases hkj:k=j
          ·subst hkj;rw [h3];simp [PF.get]
          ·split
           ·rename_i d hd;simp only [PF.get];split
            ·rename_i hb;have:=X1 hb;subst this;exact absurd (huniq k j d (by omega) (by omega) hd h3) hkj
            ·exact ih (k+1) (by omega) (by omega) (by omega)
           ·exact ih (k+1) (by omega) (by omega) (by omega)
        refine hf'.val s (u j) ?_;have e1:(zp8 ops u 0 m++F).get s=some (u j):=by
         rw [zx8,f m 0 (U3 _) (by omega) (by omega)]
        unfold upd;split
        ·rename_i d hd;simp only [PF.get];split
         ·rename_i hb;have:=X1 hb;subst this;exact absurd hd hne
         ·exact e1
        ·exact e1
      ·rename_i hy;have hnot: ∀j,j<m->(ops[j]?).bind (·.dst)≠some s:=by
        intro j f hs;have hj': ∀(m' k:Nat),k<=j->j<k+m'->(zp8 ops (fun j=>if j=i then v else u j) k m').get s≠none:=by
         intro m';induction m' with
         |zero=>intro k B q;omega
         |succ m' ih=>
          intro k B q;unfold zp8;by_cases hkj:k=j
          ·subst hkj;rw [hs];simp [PF.get]
          ·split
           ·simp only [PF.get];split
            ·simp
            ·exact ih (k+1) (by omega) (by omega)
           ·exact ih (k+1) (by omega) (by omega)
        exact hj' m 0 (U3 _) (by omega) hy
       refine hf'.val s x ?_;have hne:zf3 ops i≠some s:=hnot i him;have e1:(zp8 ops u 0 m++F).get s=some x:=by
        rw [zx8];split
        ·rename_i z hz;obtain ⟨j,_,q,h3,_⟩:=zu1 m 0 hz;exact absurd h3 (hnot j (by omega))
        ·exact hx
       unfold upd;split
       ·rename_i d hd;simp only [PF.get];split
        ·rename_i hb;have:=X1 hb;subst this;exact absurd hd hne
        ·exact e1
       ·exact e1
     ·rw [G] at C;by_cases A:j=i
      ·subst A;simpa using hRv
      ·rw [if_neg A] at C;simp only [if_neg A];exact hR i j (u j) w w' (Ne.symm A) (hRs j f C) hch
     ·rw [G] at C hl2;by_cases A:j=i
      ·subst A;rw [if_neg (fun e=>V e.symm)] at hl2;simp only [if_true,if_neg (fun e=>V (Eq.symm e): ¬k=j)];exact (hD j k w w' v (u k) V hEv hRv (hRs k hk hl2)).1
      ·rw [if_neg A] at C;by_cases hki:k=i
       ·subst hki;simp only [if_true,if_neg A];exact (hD k j w w' v (u j) (Ne.symm V) hEv hRv (hRs j f C)).2
       ·rw [if_neg hki] at hl2;simp only [if_neg A,if_neg hki];exact hDs j k f hk V C hl2
     ·have hdep:(zg1 ops pr.1).contains pr.2.1=true:=by rw [Y8] at hAL;exact hAL pr hp
      rw [G] at C;by_cases hpi:pr.1=i
      ·have T:c.getD pr.2.1 false=true:=hip pr.2.1 (by rw [<-hpi];exact hdep);have hne: ¬pr.2.1=i:=by
        intro e;rw [e] at T;rw [Y7] at T H;rw [Z6 (by omega)] at T H;simp at T H;rw [T] at H;cases H
       rw [G,if_neg hne];exact ⟨T,by simp only [hpi,if_true,if_neg hne];exact hAv pr hp hpi⟩
      ·rw [if_neg hpi] at C;obtain ⟨T,he⟩:=hAs pr hp hpm C;have hne: ¬pr.2.1=i:=by
        intro e;rw [e] at T;rw [Y7] at T H;rw [Z6 (by omega)] at T H;simp at T H;rw [T] at H;cases H
       rw [G,if_neg hne];exact ⟨T,by simp only [if_neg hpi,if_neg hne];exact he⟩
     ·rw [G] at C⊢;by_cases A:j=i
      ·split
       ·rfl
       ·exact hip i' (by rw [<-A];exact hd')
      ·rw [if_neg A] at C;split
       ·rfl
       ·exact hcl j i' C hd'
     ·rw [G] at C;by_cases A:j=i
      ·rw [if_pos A] at C;cases C
      ·rw [if_neg A] at C;exact hPr i j w w' (Ne.symm A) (hPs j C) hch
    have hwant:Region.wanted ops[i] (yielded (ops.extract 0 (i+1)) a.tmps)=Region.wanted ops[i] (yielded ops a.tmps):=by
     unfold Region.wanted;cases hg:ops[i].guard with
     |none=>rfl
     |some gb=>
      obtain ⟨g,b⟩:=gb;have hgi:g<i:=by
       unfold zh7 at hgb;rw [Y8] at hgb;have:=hgb i (V0.2 him);rw [hio] at this;simp only [hg] at this;simpa [U4] using this
      have:(ops.extract 0 (i+1))[g]?=ops[g]?:=by
       rw [Array.getElem?_extract];simp only [J5,W8];rw [if_pos (by omega)]
      simp only [yielded,this]
    unfold wpOp;rw [hio];simp only;unfold wpList at hw;have Y: ∀a' w',wpList P (ops.extract 0 (i+1)) (Nd Q n ds (cL CL i) (zp8 ops u 0 m++F) (zf3 ops i) w (fun v w'=>(E i w v/\ ∀p∈AL,p.1=i->v=prj p.2.2 (u p.2.1))/\R i v w')) [] a' w'->I (c.setIfInBounds i true) a' w':=fun a' w' h=>leave a' w' h;have qmono: ∀e a' w',e≠.normal->Nd Q n ds (cL CL i) (zp8 ops u 0 m++F) (zf3 ops i) w (fun v w'=>(E i w v/\ ∀p∈AL,p.1=i->v=prj p.2.2 (u p.2.1))/\R i v w') e a' w'->Q e a' w':=by
     intro e a' w' he h;cases e<;>first|exact absurd rfl he|exact h
    have opmono:ops[i].wp P a w (wpList P (ops.extract 0 (i+1)) (Nd Q n ds (cL CL i) (zp8 ops u 0 m++F) (zf3 ops i) w (fun v w'=>(E i w v/\ ∀p∈AL,p.1=i->v=prj p.2.2 (u p.2.1))/\R i v w')) []) (Nd Q n ds (cL CL i) (zp8 ops u 0 m++F) (zf3 ops i) w (fun v w'=>(E i w v/\ ∀p∈AL,p.1=i->v=prj p.2.2 (u p.2.1))/\R i v w'))->ops[i].wp P a w (I (c.setIfInBounds i true)) Q:=by
     intro h;unfold Oper.wp at h⊢;generalize (execOp a.eval ops[i]).run P w=r at h⊢;unfold Oper.upon at h⊢;split at h
     ·exact Y _ _ h
     ·exact Y _ _ h
     ·exact Y _ _ h
     ·refine h.mono fun e w' he=>?_;cases e with
      |returned v=>exact Y _ _ he
      |panicked ch=>exact qmono _ _ _ (by simp) he
      |outgrown=>obtain ⟨a1,w1,B⟩:=he;exact ⟨a1,w1,qmono _ _ _ (by simp) B⟩
     ·exact h.mono fun v w' he=>Y _ _ he
     ·exact qmono _ _ _ (by simp) h
     ·exact h.elim
    have outmono:LetsOut (Nd Q n ds (cL CL i) (zp8 ops u 0 m++F) (zf3 ops i) w (fun v w'=>(E i w v/\ ∀p∈AL,p.1=i->v=prj p.2.2 (u p.2.1))/\R i v w'))->LetsOut Q:=fun ⟨a1,w1,B⟩=>⟨a1,w1,qmono _ _ _ (by simp) B⟩;rw [hwant] at hw;split
    ·rename_i hwn;rw [if_pos hwn] at hw;rcases hw with hw|hw
     ·exact .inl (opmono hw)
     ·exact .inr ⟨hw.1,outmono hw.2⟩
    ·rename_i hwn;rw [if_neg hwn] at hw;exact Y _ _ hw
   ·
    have him':m<=i:=by omega
    have M: ∀j,j<i->c.getD j false=true:=fun j f=>by
     cases sufd i him' J j f with
     |one h=>exact hip _ h
     |step h t=>exact t.done hcl (hip _ h)
    have hieq:i=m:=by
     rcases U7 m i with h|h
     ·exfalso;have B:=M m h;rcases O m (W6 _) with q|q
      ·rw [Y7] at B q;rw [Z6 (by omega)] at B q;simp at B q;rw [B] at q;cases q
      ·omega
     ·omega
    subst hieq;have hK:=K u w hWw (fun j f=>hRs j f (M j f)) (fun j k f hk V=>hDs j k f hk V (M j f) (M k hk)) (fun pr hp hpm=>(hAs pr hp hpm (M pr.1 hpm)).2) a hfr;rw [zk6 (Z6 J)] at hK;have hwo:wpOp P ops Q i (wpList P ops Q (ops.toList.drop (i+1))) a w:=by
     unfold wpOp;rw [Z6 J];exact hK
    refine wpOp_mono (fun a' w' h=>⟨by simpa using hls,.inr ⟨i+1,by omega,by omega,fun j f=>?_,fun j f=>?_,h⟩⟩) hwo
    ·rw [G];split
     ·rfl
     ·exact M j (by omega)
    ·rw [G,if_neg (by omega)];exact O j (by omega)
  ·
   have hik:i=k:=by
    rcases M1 i k with h|h|h
    ·have B:=S i h;rw [Y7] at B H;rw [Z6 (by omega)] at B H;simp at B H;rw [B] at H;cases H
    ·exact h
    ·exfalso;have B:c.getD k false=true:=by
      cases sufd i (by omega) J k h with
      |one h=>exact hip _ h
      | @step _ p _ h t=>
       have hp:=hip _ h;have hpi:p<i:=Tp.lt U (.one h) J;have hpk:=Tp.lt U t (by omega);rcases N p (by omega) with q|q
       ·rw [Y7] at hp q;rw [Z6 (by omega)] at hp q;simp at hp q;rw [hp] at q;cases q
       ·omega
     rcases N k (W6 _) with q|q
     ·rw [Y7] at B q;rw [Z6 (by omega)] at B q;simp at B q;rw [B] at q;cases q
     ·omega
   subst hik;rw [zk6 (Z6 J)] at hwl;have hwo:wpOp P ops Q i (wpList P ops Q (ops.toList.drop (i+1))) a w:=by
    unfold wpOp;rw [Z6 J];exact hwl
   refine wpOp_mono (fun a' w' h=>⟨by simpa using hls,.inr ⟨i+1,by omega,by omega,fun j f=>?_,fun j f=>?_,h⟩⟩) hwo
   ·rw [G];split
    ·rfl
    ·exact S j (by omega)
   ·rw [G,if_neg (by omega)];exact N j (by omega)
 ·
  intro c a w hI hr;obtain ⟨hls,hI⟩:=hI;have M: ∀j,j<ops.size->c.getD j true=true:=by
   intro j;induction j using Nat.strongRecOn with
   |_ j ih=>
    intro f;cases hb:c.getD j true with
    |true=>rfl
    |false=>
     exfalso;have hmem:=readyI c j f hb (fun i hi=>by
      have hij:i<j:=by
       unfold zl4 at U;rw [Y8] at U;have:=U j (V0.2 f);rw [Y8] at this;have:=this i (by simpa using hi);simpa [U4] using this
      have B:=ih i hij (by omega);rw [Y7] at B⊢;rw [Z6 (by omega)] at B⊢;simpa using B)
     rw [hr] at hmem;cases hmem
  rcases hI with ⟨O,hWw,u,hfr,hRs,hDs,hAs,hcl,_⟩|⟨k,hmk,hkn,S,N,hwl⟩
  ·have hms:m=ops.size:=by
    rcases U7 m ops.size with h|h
    ·exfalso;rcases O m (W6 _) with q|q
     ·rw [M m h] at q;cases q
     ·omega
    ·omega
   have hall': ∀j,j<m->c.getD j false=true:=by
    intro j f;have B:=M j (by omega);rw [Y7] at B⊢;rw [Z6 (by omega)] at B⊢;simpa using B
   have hK:=K u w hWw (fun j f=>hRs j f (hall' j f)) (fun j k f hk V=>hDs j k f hk V (hall' j f) (hall' k hk)) (fun pr hp hpm=>(hAs pr hp hpm (hall' pr.1 hpm)).2) a hfr;rw [M6 (by simp;omega)] at hK;exact hK
  ·have hks:k=ops.size:=by
    rcases U7 k ops.size with h|h
    ·exfalso;rcases N k (W6 _) with q|q
     ·rw [M k h] at q;cases q
     ·omega
    ·omega
   rw [M6 (by simp;omega)] at hwl;exact hwl
 ·rcases U7 j ops.size with h|h
  ·left;rw [Y7];simp [h]
  ·exact .inr h
 ·intro s x hx;rw [zx8] at hx;split at hx
  ·rename_i y hy;simp only [X0] at hx;subst hx;obtain ⟨j,B,q,h3,rfl⟩:=zu1 m 0 hy;refine ⟨?_,hdn j s (by omega) h3⟩;simp [zf3,h3]
  ·exact ha.val s x hx
 ·exfalso;rw [Y7] at C;rcases U7 j ops.size with h|h
  ·simp [h] at C
  ·simp [Nat.not_lt.2 h] at C
 ·exfalso;rw [Y7] at C;rcases U7 j ops.size with h|h
  ·simp [h] at C
  ·simp [Nat.not_lt.2 h] at C
 ·exfalso;rw [Y7] at C;rcases U7 pr.1 ops.size with h|h
  ·simp [h] at C
  ·simp [Nat.not_lt.2 h] at C
 ·exfalso;rw [Y7] at C;rcases U7 j ops.size with h|h
  ·simp [h] at C
  ·simp [Nat.not_lt.2 h] at C
def adL:List Value->Option Addr| .slice ad _ _::_=>ad|_::r=>adL r| []=>none
def zt7:Value->Option Addr| .slice ad _ _=>ad| .pointer a=>a| .tuple a=>adL a.toList|_=>none
def wa6 {a:List (Nat×Nat×Option Nat)} {i:Nat} {u:Nat->Value} {v:Value} (h:(a.all fun p=>p.1 != i)=true): ∀p∈a,p.1=i->v=prj p.2.2 (u p.2.1):=by
 intro p b c;rw [Y8] at h;have:=h p b;rw [c] at this;simp at this
def CW.regionF {id} (m:Nat) (b:List (Nat×Nat)) (c:Nat->World->Prop) (e: ∀j,c j {w with drawn:=w.drawn+1}) (r: ∀i j w w',i≠j->c j w->Chg (cL b i) w w'->c j w') (a:List Nat) (q:List (Nat×Nat×Option Nat)) (s:(q.all fun p=>(zg1 ops p.1).contains p.2.1)=true) (W:World->Prop) (R:Nat->Value->World->Prop) (f: ∀j x w,a.contains j=true->R j x w->zt7 x=none\/bk (zt7 x)<w.heap.size) (B:P.follows .mixedOrders=true) (g:(Nat.ble m ops.size&&(va0 ops m&&(zf9 (yo0 ops m)&&(zl4 ops&&zh7 ops m))))=true)
  (C:(yo0 ops m).all (fun d=>Nat.blt d n)=true) (t:W {w with drawn:=w.drawn+1}) (D: ∀i w w',W w->Chg (cL b i) w w'->W w') (E: ∀i j v w w',i≠j->R j v w->Chg (cL b i) w w'->R j v w')
  (G:Obs P ops Q n ds m F W R (fun i l v=>a.contains i=true->zt7 v=none\/l.heap.size<=bk (zt7 v)) q b c 0 m)
  (K: ∀u w,W w->(∀j,j<m->R j (u j) w)->(∀j k,j<m->k<m->j≠k->a.contains j=true->a.contains k=true->Apart (zt7 (u j)) (zt7 (u k)))->(∀p∈q,p.1<m->u p.1=prj p.2.2 (u p.2.1))->WR P ops Q m n ds (zp8 ops u 0 m++F) w):CW P (.region id ops true) Q n ds F w:=by
 refine CW.regionN m b c e r W R (fun i l v=>a.contains i=true->zt7 v=none\/l.heap.size<=bk (zt7 v)) q s (fun j k u v=>a.contains j=true->a.contains k=true->Apart (zt7 u) (zt7 v)) ?_ B g C t D E G K;intro i j l H v x _ I _ J;have o:a.contains i=true->a.contains j=true->Apart (zt7 v) (zt7 x):=by
  intro y z;rcases I y with h|h
  ·exact .inl h
  ·rcases f j x l z J with A|A
   ·exact .inr (.inl A)
   ·exact .inr (.inr (by omega))
 exact ⟨o,fun y z=>(o z y).symm⟩
def NdG (n:Nat) (ds:List Deferred) (S:List Nat) (F:PF) (dst:Option Tmp) (w:World) (R:Value->World->Prop):Exit->Act->World->Prop
 | .normal,a,w'=>Chg S w w'/\ ∃v,Fr n ds (upd F dst v) a/\R v w'
 |_,_,_=>False
def fxU (a:List (Option Value)) (u:Nat->Value) (j:Nat):Value:=(a.getD j none).getD (u j)
def RX (a:List (Option Value)) (R:Nat->Value->World->Prop) (i:Nat) (v:Value) (w:World):Prop:=match a.getD i none with|some x=>v=x|none=>R i v w
def zo7 (o:Oper):List Nat:=o.op.operands.toList.filterMap fun x=>match x with| .tmp t=>some t|_=>none
def zq8 (ops:Array Oper) (o:Oper):List Nat:=match o.guard with|some (g,_)=>(zf3 ops g).toList|none=> []
def vw6 (ops:Array Oper) (m:Nat):Bool:=(List.range m).all fun i=>match ops[i]? with
 |some o=>zb3 o&&((zo7 o++zq8 ops o).all fun t=>(zg1 ops i).any (fun j=>Nat.blt j m&&zf3 ops j==some t)||(List.range m).all fun j=>zf3 ops j != some t)
 |none=>true
def ObG (P:Program) (ops:Array Oper) (n:Nat) (ds:List Deferred) (a:List (Option Value)) (b:(Nat->Value)->PF) (W:World->Prop) (R:Nat->Value->World->Prop) (E:Nat->World->Value->Prop) (c:List (Nat×Nat×Option Nat)) (d:List (Nat×Nat)) (e:Nat->World->Prop) (i:Nat):Prop:=
 ∀(u:Nat->Value) (w:World),W w->(∀j,j=i\/Tp ops j i->e j w)->(∀j,Tp ops i j->a.getD j none=none->R j (u j) w)->(∀p∈c,Tp ops i p.1->u p.1=prj p.2.2 (u p.2.1))->WR P (ops.extract 0 (i+1)) (NdG n ds (cL d i) (b u) (zf3 ops i) w (fun v w'=>(E i w v/\ ∀p∈c,p.1=i->v=prj p.2.2 (u p.2.1))/\RX a R i v w')) i n ds (b u) w
def ve6 (P:Program) (ops:Array Oper) (n:Nat) (ds:List Deferred) (a:List (Option Value)) (b:(Nat->Value)->PF) (W:World->Prop) (R:Nat->Value->World->Prop) (E:Nat->World->Value->Prop) (c:List (Nat×Nat×Option Nat)) (d:List (Nat×Nat)) (e:Nat->World->Prop):Nat->Nat->Prop
 |_,0=>True
 |i,f+1=>ObG P ops n ds a b W R E c d e i/\ve6 P ops n ds a b W R E c d e (i+1) f
def jy7 {u s m} (a: ∀i j d,i<m->j<m->(ops[i]?).bind (·.dst)=some d->(ops[j]?).bind (·.dst)=some d->i=j) {j} (f:j<m) (c:(ops[j]?).bind (·.dst)=some s):(zp8 ops u 0 m).get s=some (u j):=by
 have g: ∀(m' k:Nat),k<=j->j<k+m'->m'+k<=m->(zp8 ops u k m').get s=some (u j):=by
  intro m';induction m' with
  |zero=>intro k h l;omega
  |succ m' e=>
   intro k h l q;unfold zp8;by_cases b:k=j
   ·subst b;rw [c];simp [PF.get]
   ·split
    ·rename_i d o;simp only [PF.get];split
     ·rename_i p;have:=X1 p;subst this;exact absurd (a k j d (by omega) (by omega) o c) b
     ·exact e (k+1) (by omega) (by omega) (by omega)
    ·exact e (k+1) (by omega) (by omega) (by omega)
 exact g m 0 (U3 _) (by omega) (by omega)
def yn9 {m} (h:zf9 (yo0 ops m)=true): ∀i j d,i<m->j<m->(ops[i]?).bind (·.dst)=some d->(ops[j]?).bind (·.dst)=some d->i=j:=by
 have t: ∀(l:List Nat),zf9 (l.filterMap fun i=>(ops[i]?).bind (·.dst))=true->l.Nodup-> ∀i j d,i∈l->j∈l->(ops[i]?).bind (·.dst)=some d->(ops[j]?).bind (·.dst)=some d->i=j:=by
  intro l;induction l with
  |nil=>intro _ _ i j d k;simp at k
  |cons x r B=>
   intro a z i j d k s u v;rw [List.nodup_cons] at z;have c: ∀y e,y∈r->(ops[y]?).bind (·.dst)=some e->e∈r.filterMap fun i=>(ops[i]?).bind (·.dst):=fun y e C D=>T3.2 ⟨y,C,D⟩;have f:zf9 (r.filterMap fun i=>(ops[i]?).bind (·.dst))=true:=by
    rw [List.filterMap_cons] at a;split at a
    ·exact a
    ·simp only [zf9,X3] at a;exact a.2
   have b: ∀e,(ops[x]?).bind (·.dst)=some e->e∉r.filterMap fun i=>(ops[i]?).bind (·.dst):=by
    intro e A E;rw [List.filterMap_cons] at a;split at a
    ·rename_i o;rw [A] at o;cases o
    ·rename_i G p;rw [A] at p;cases p;simp only [zf9,X3,V4,R3,decide_eq_false_iff_not] at a;exact a.1 E
   rcases Z0.1 k with rfl|q
   ·rcases Z0.1 s with rfl|g
    ·rfl
    ·exact absurd (c j d g v) (b d u)
   ·rcases Z0.1 s with rfl|g
    ·exact absurd (c i d q u) (b d v)
    ·exact B f z.2 i j d q g u v
 intro i j d k s;exact t (List.range m) h List.nodup_range i j d (V0.2 k) (V0.2 s)
def va4 {o:Oper} {Q:Exit->Act->World->Prop} {a b:Act} {w:World} {ops:Array Oper} (hs: ∀cs b,o.op≠.select cs b) (he: ∀x∈o.op.operands,b.eval x=a.eval x) (hg:Region.wanted o (yielded ops b.tmps)=Region.wanted o (yielded ops a.tmps))
  {Q':Exit->Act->World->Prop} (hn: ∀v w',Q .normal (b.put o.dst v) w'->Q' .normal (a.put o.dst v) w') (hx: ∀e a' w',e≠.normal->Q e a' w'->False) (hdf: ∀(d:Deferred) w',Q .normal ({b with defers:=d::b.defers}.put o.dst undef) w'->Q' .normal ({a with defers:=d::a.defers}.put o.dst undef) w')
  (h:wpList P ops Q [o] b w):wpList P ops Q' [o] a w:=by
 unfold wpList at h⊢;rw [hg] at h;split
 ·rename_i hw;rw [if_pos hw] at h;have hop:execOp b.eval o=execOp a.eval o:=execOp_congr o hs he;rcases h with h|⟨h1,a1,w1,h2⟩
  ·left;unfold Oper.wp at h⊢;rw [hop] at h;generalize (execOp a.eval o).run P w=r at h⊢;unfold Oper.upon at h⊢;split at h
   ·exact hn _ _ h
   ·exact hn _ _ h
   ·exact hdf _ _ h
   ·refine h.mono fun e w' hq=>?_;cases e with
    |returned v=>exact hn _ _ hq
    |panicked ch=>exact (hx _ _ _ (by simp) hq).elim
    |outgrown=>obtain ⟨a1,w1,h1⟩:=hq;exact (hx _ _ _ (by simp) h1).elim
   ·exact h.mono fun v w' hq=>hn _ _ hq
   ·exact (hx _ _ _ (by simp) h).elim
   ·exact h.elim
  ·exact (hx _ _ _ (by simp) h2).elim
 ·rename_i hw;rw [if_neg hw] at h;exact hn _ _ h
def je3 (F:PF) (a:Act):Act:= {a with tmps:=Array.ofFn (n:=a.tmps.size) fun s=>match F.get s with|some v=>v|none=>a.tmps[s]}
def qm5 (F a s):(je3 F a).tmps.getD s undef=match F.get s with|some v=>if s<a.tmps.size then v else undef|none=>a.tmps.getD s undef:=by
 unfold je3;rw [Y7];rcases U7 s a.tmps.size with h|h
 ·simp only [Array.getElem?_ofFn,h,dite_true,if_true,V3];split
  ·rfl
  ·rw [Y7,Z6 h];rfl
 ·have: ¬s<a.tmps.size:=by omega
  simp only [Array.getElem?_ofFn,this,dite_false,R5,if_false];split
  ·rfl
  ·rw [Y7,Array.getElem?_eq_none h];rfl
def gf7 {F a} (b:a.tmps.size=n) (e:a.defers=ds) (hF: ∀s v,F.get s=some v->s<n):Fr n ds F (je3 F a):=by
 refine ⟨by simp [je3,b],e,fun i v c=>?_⟩;have d:=hF i v c;refine ⟨?_,d⟩;rw [qm5,c];simp [b,d]
def gf4 {m fx k W R E AL CL Pr} (hmle:m<=ops.size)
  (O: ∀u,zp8 ops (fxU fx u) 0 m++F=k u) (o:vw6 ops m=true) (G:zh7 ops m=true) (S:zf9 (yo0 ops m)=true) (T: ∀i d,i<m->(ops[i]?).bind (·.dst)=some d->d<n) {i} (H:i<m)
  (h:ObG P ops n ds fx k W R E AL CL Pr i):Ob P ops Q n ds m F W (RX fx R) E AL CL Pr i:=by
 intro u w hW hPr hR hA a B;have c:=yn9 S;have z:ops[i]?=some ops[i]:=Z6 (by omega);have U:zb3 ops[i]=true/\ ∀t∈zo7 ops[i]++zq8 ops ops[i],(zg1 ops i).any (fun j=>Nat.blt j m&&zf3 ops j==some t)=true\/((List.range m).all fun j=>zf3 ops j != some t)=true:=by
  unfold vw6 at o;rw [Y8] at o;have:=o i (V0.2 H);rw [z] at this;simp only [X3] at this;refine ⟨this.1,fun t ht=>?_⟩;have A:=this.2;rw [Y8] at A;simpa [M2] using A t ht
 have hw:=h u w hW hPr (fun j hj hn=>by
  have:=hR j hj;unfold RX at this;rw [hn] at this;exact this) hA
 have C: ∀s v,(k u).get s=some v->s<n:=by
  intro s v p;rw [<-O u,zx8] at p;split at p
  ·rename_i y M;obtain ⟨j,_,A,I,_⟩:=zu1 m 0 M;exact T j s (by omega) I
  ·rename_i M;have:(zp8 ops u 0 m++F).get s=some v:=by
    rw [zx8];split
    ·rename_i y2 hy2;obtain ⟨j,_,A,I,_⟩:=zu1 m 0 hy2;rw [jy7 c (by omega:j<m) I] at M;cases M
    ·exact p
   exact (B.val s v this).2
 have hb:=gf7 (ds:=ds) B.size B.defers C;have q: ∀t∈zo7 ops[i]++zq8 ops ops[i],(je3 (k u) a).tmps.getD t undef=a.tmps.getD t undef:=by
  intro t ht;rw [qm5];split
  ·rename_i v p;have htn:t<a.tmps.size:=by rw [B.size];exact C t v p
   rw [if_pos htn];rw [<-O u,zx8] at p;have V: ∀x,(zp8 ops u 0 m++F).get t=some x->a.tmps.getD t undef=x:=fun x X=>(B.val t x X).1;rcases U.2 t ht with l|l
   ·rw [List.any_eq_true] at l;obtain ⟨j,hj,J⟩:=l;simp only [X3,beq_iff_eq] at J;have Y:j<m:=by simpa [U4] using J.1
    have Z:(ops[j]?).bind (·.dst)=some t:=J.2;rw [jy7 c Y Z] at p;simp only [X0] at p;have X:=V (u j) (by rw [zx8,jy7 c Y Z]);rw [X,<-p];unfold fxU;cases N:fx.getD j none with
    |none=>rfl
    |some x=>
     have:=hR j (.one (by simpa using hj));unfold RX at this;rw [N] at this;simp [this]
   ·have hno: ∀u',(zp8 ops u' 0 m).get t=none:=by
     intro u';cases hg:(zp8 ops u' 0 m).get t with
     |none=>rfl
     |some y=>
      obtain ⟨j,_,A,I,_⟩:=zu1 m 0 hg;rw [Y8] at l;have:=l j (V0.2 (by omega));simp only [zf3,I,bne_self_eq_false] at this;cases this
    rw [hno] at p;exact (V v (by rw [zx8,hno];exact p)).symm
  ·rfl
 have hext:(ops.extract 0 (i+1)).toList.drop i= [ops[i]]:=by
  rw [Array.toList_extract];simp only [List.extract_eq_take_drop,J5,J9];rw [S9 (by simp;omega),R4];simp [V9 (Nat.le_of_lt (by omega:i<ops.size))]
 have hw:=hw _ hb;rw [hext] at hw⊢;have hsel: ∀cs b,ops[i].op≠.select cs b:=by
  intro cs b e;have:=U.1;simp [zb3,e] at this
 have K: ∀x∈ops[i].op.operands,(je3 (k u) a).eval x=a.eval x:=by
  intro x X;cases x with
  |tmp t=>
   refine q t (List.mem_append_left _ ?_);unfold zo7;rw [T3];exact ⟨.tmp t,by simpa using X,rfl⟩
  |const v=>rfl
  |global g=>rfl
  |func f=>rfl
 have L:Region.wanted ops[i] (yielded (ops.extract 0 (i+1)) (je3 (k u) a).tmps)=Region.wanted ops[i] (yielded (ops.extract 0 (i+1)) a.tmps):=by
  unfold Region.wanted;cases hg:ops[i].guard with
  |none=>rfl
  |some gb=>
   obtain ⟨g,b⟩:=gb;have hgi:g<i:=by
    unfold zh7 at G;rw [Y8] at G;have:=G i (V0.2 H);rw [z] at this;simp only [hg] at this;simpa [U4] using this
   have hge:(ops.extract 0 (i+1))[g]?=ops[g]?:=by
    rw [Array.getElem?_extract];simp only [J5,W8];rw [if_pos (by omega)]
   have M:yielded (ops.extract 0 (i+1)) (je3 (k u) a).tmps g=yielded (ops.extract 0 (i+1)) a.tmps g:=by
    unfold yielded;rw [hge];cases l:(ops[g]?).bind (·.dst) with
    |none=>rfl
    |some d=>
     have h1:=q d (List.mem_append_right _ (by unfold zq8;rw [hg];simp [zf3,l]));have hsz:(je3 (k u) a).tmps.size=a.tmps.size:=by simp [je3]
     have A:(je3 (k u) a).tmps[d]?=a.tmps[d]?:=by
      rcases U7 d a.tmps.size with h|h
      ·rw [Y7,Y7,Z6 (by omega),Z6 h] at h1;rw [Z6 (by omega),Z6 h];simpa using h1
      ·rw [Array.getElem?_eq_none (by omega),Array.getElem?_eq_none h]
     simp only [T9,A]
   simp only [M]
 have r:zf3 ops i=ops[i].dst:=by simp [zf3,z]
 refine va4 hsel K L ?_ ?_ ?_ hw
 ·rintro v w' ⟨hch,v',N,hq⟩
  have ha2:Fr n ds (upd (zp8 ops u 0 m++F) (zf3 ops i) v') (a.put ops[i].dst v):=by
   cases l:ops[i].dst with
   |none=>rw [r,l];exact B
   |some d=>
    have D:d<n:=T i d H (by rw [z];simpa using l);have hvv:v=v':=by
     rw [r,l] at N;have:=(N.val d v' (by simp [upd,PF.get])).1;simp only [Act.put] at this;rw [Y7,Array.getElem?_setIfInBounds_self_of_lt (by rw [hb.size];exact D)] at this;simpa using this
    subst hvv;rw [r,l];exact B.upd (by simp [zi0,U4,D]) v
  exact ⟨hch,v',ha2,hq⟩
 ·intro e a' w' he hq;cases e<;>first|exact absurd rfl he|exact hq.elim
 ·rintro d w' ⟨_,v',N,_⟩
  have:=N.defers;have A:({je3 (k u) a with defers:=d::(je3 (k u) a).defers}.put ops[i].dst undef).defers=d::(je3 (k u) a).defers:=by
   cases ops[i].dst<;>rfl
  rw [A] at this;have I:(je3 (k u) a).defers=ds:=B.defers;rw [I] at this;exact absurd (congrArg List.length this) (by simp)
def CW.regionG {id} (m:Nat) (b:List (Option Value)) (I:(Nat->Value)->PF) (z: ∀u,zp8 ops (fxU b u) 0 m++F=I u) (A:vw6 ops m=true) (o:List (Nat×Nat)) (q:Nat->World->Prop) (B: ∀j,q j {w with drawn:=w.drawn+1}) (J: ∀i j w w',i≠j->q j w->Chg (cL o i) w w'->q j w') (g:List Nat) (t:List (Nat×Nat×Option Nat)) (L:(t.all fun p=>(zg1 ops p.1).contains p.2.1)=true) (W:World->Prop) (R:Nat->Value->World->Prop) (C: ∀j x w,g.contains j=true->R j x w->zt7 x=none\/bk (zt7 x)<w.heap.size) (D:(g.all fun j=>(b.getD j none).isNone)=true) (hm:P.follows .mixedOrders=true) (l:(Nat.ble m ops.size&&(va0 ops m&&(zf9 (yo0 ops m)&&(zl4 ops&&zh7 ops m))))=true)
  (M:(yo0 ops m).all (fun d=>Nat.blt d n)=true) (N:W {w with drawn:=w.drawn+1}) (hW: ∀i w w',W w->Chg (cL o i) w w'->W w') (hR: ∀i j v w w',i≠j->R j v w->Chg (cL o i) w w'->R j v w')
  (ob:ve6 P ops n ds b I W R (fun i E v=>g.contains i=true->zt7 v=none\/E.heap.size<=bk (zt7 v)) t o q 0 m)
  (K: ∀u w,W w->(∀j,j<m->b.getD j none=none->R j (u j) w)->(∀j k,j<m->k<m->j≠k->g.contains j=true->g.contains k=true->Apart (zt7 (u j)) (zt7 (u k)))->(∀p∈t,p.1<m->u p.1=prj p.2.2 (u p.2.1))->WR P ops Q m n ds (I u) w):CW P (.region id ops true) Q n ds F w:=by
 have c:=l;simp only [X3] at c;obtain ⟨e,_,G,_,O⟩:=c;have e:=Y1 e;have S: ∀i d,i<m->(ops[i]?).bind (·.dst)=some d->d<n:=by
  intro i d T hb;rw [Y8] at M;have:=M d (by unfold yo0;rw [T3];exact ⟨i,V0.2 T,hb⟩);simpa [U4] using this
 have r: ∀j,g.contains j=true->b.getD j none=none:=by
  intro j y;rw [Y8] at D;simpa using D j (by simpa using y)
 have conv: ∀(f i:Nat),i+f<=m->ve6 P ops n ds b I W R (fun i E v=>g.contains i=true->zt7 v=none\/E.heap.size<=bk (zt7 v)) t o q i f->Obs P ops Q n ds m F W (RX b R) (fun i E v=>g.contains i=true->zt7 v=none\/E.heap.size<=bk (zt7 v)) t o q i f:=by
  intro f;induction f with
  |zero=>intro i _ _;trivial
  |succ f U=>
   intro i T h;exact ⟨gf4 e z A O G S (by omega) h.1,U (i+1) (by omega) h.2⟩
 refine CW.regionF m o q B J g t L W (RX b R) ?_ hm l M N hW ?_ (conv m 0 (by omega) ob) ?_
 ·intro j x w y s;unfold RX at s;rw [r j y] at s;exact C j x w y s
 ·intro i j v w w' V H hc;unfold RX at H⊢;split
  ·rename_i x s;rw [s] at H;exact H
  ·rename_i s;rw [s] at H;exact hR i j v w w' V H hc
 ·intro u w X hr Y Z a ha;refine K u w X (fun j y hn=>by have:=hr j y;unfold RX at this;rw [hn] at this;exact this) Y Z a ?_;rw [<-z u];have: ∀(f i:Nat),i+f<=m->zp8 ops (fxU b u) i f=zp8 ops u i f:=by
   intro f;induction f with
   |zero=>intro i _;rfl
   |succ f U=>
    intro i T;have he:fxU b u i=u i:=by
     have:=hr i (by omega);unfold RX at this;unfold fxU;cases hf:b.getD i none with
     |none=>rfl
     |some x=>rw [hf] at this;simp [this]
    unfold zp8;rw [U (i+1) (by omega),he]
  rw [this m 0 (by omega)];exact ha
def zy3 {c:List (Option Value)} {d W R} {e:List Nat} {g:List (Nat×Nat×Option Nat)} {q r}: ∀(k:Nat) (i f:Nat),
  (∀u w,(List.range' i k).map (fun j=>zo5 P (ops.extract 0 (j+1)) j n (d u) w)=(List.range' i k).map (fun j=>some (zf3 ops j,.ok (.value ((c.getD j none).getD undef)) w)))->
  ((List.range' i k).all fun j=>(c.getD j none).isSome&&(!e.contains j&&g.all fun p=>p.1 != j))=true->
  ve6 P ops n ds c d W R (fun i l v=>e.contains i=true->zt7 v=none\/l.heap.size<=bk (zt7 v)) g q r (i+k) f->ve6 P ops n ds c d W R (fun i l v=>e.contains i=true->zt7 v=none\/l.heap.size<=bk (zt7 v)) g q r i (k+f)
 |0,i,f,_,_,h=>by simpa using h
 |k+1,i,f,m,o,h=>by
  rw [Nat.add_right_comm k 1 f];simp only [List.range'_succ,U2,List.cons.injEq,J6,X3] at m o;refine ⟨?_,zy3 k (i+1) f (fun u w=>(m u w).2) o.2 (by rw [U9,J4 1 k];exact h)⟩;intro u w _ _ _ _;obtain ⟨⟨z,s,A⟩,_⟩:=o;obtain ⟨x,t⟩:=N4.1 z;have y:=(m u w).1;rw [t] at y;refine WR.valR y fun a B=>?_;have b:(ops.extract 0 (i+1)).toList.drop (i+1)= []:=M6 (by simp;omega);rw [b];refine ⟨Chg.refl _ _,x,B,⟨fun h=>?_,wa6 A⟩,?_⟩
  ·simp only [V4] at s;rw [s] at h;cases h
  ·unfold RX;rw [t]
end
end Go.V
namespace Go.V
open Go.RowKit
def un9 {α b:Type} (a:α) (f:α->b):b:=f a
def ug5 {α a:Type} (o:Option α) (n:a) (f:α->a):a:=match o with|some x=>f x|none=>n
@[simp] theorem wq5 {α b} (a : α) (f : α -> b) : un9 a f = f a := rfl
@[simp] theorem wo5 {α a} (n : a) (f : α -> a) : ug5 none n f = n := rfl
@[simp] theorem wo6 {α b} (a : α) (n : b) (f : α -> b) : ug5 (some a) n f = f a := rfl
section
variable {P:Program} {w w':World} {α:Type} {f:FuncId} {args:Array Value}
def um6 {n F fn R} (vs v) (c:tup vs=v) (h:vw0 P w F fn.results.toList vs) (d:R (.returned v) w): ∀a,Fr n [] F a->bodyPost P fn R .ret a w:=
 fun _ b=>⟨b.defers,v,by rw [<-c];exact vt6 b h,d⟩
def vl0 {F p ty g o c e v} (a:Blk w g c e) (b:F.get p=some (.pointer (some ⟨g,o,none⟩))) (d:ldv P ty c o=some v):uf6 P w F (.cell p ty) v:=
 ⟨_,b,zm6 a d⟩
end
def zo9 (k:IntKind) (x y:Int):Int:=k.wrap ((BitVec.ofInt k.bits x&&&BitVec.ofInt k.bits y).toNat:Int)
def bOr (k:IntKind) (x y:Int):Int:=k.wrap ((BitVec.ofInt k.bits x|||BitVec.ofInt k.bits y).toNat:Int)
def zt9 (k:IntKind) (x y:Int):Int:=k.wrap ((BitVec.ofInt k.bits x^^^BitVec.ofInt k.bits y).toNat:Int)
def ve9 (k:IntKind) (x y:Int):Int:=k.wrap ((BitVec.ofInt k.bits x&&& ~~~BitVec.ofInt k.bits y).toNat:Int)
def yg4 (k:IntKind) (x y:Int):Int:=k.wrap (x*2^(min y.toNat k.bits))
def je4 (k:IntKind) (x y:Int):Int:=x.fdiv (2^(min y.toNat k.bits))
def gd5 (x y:Int):Int:=if y<x then y else x
def kp3 (x y:Int):Int:=if y>x then y else x
section
variable {P:Program} {ops:Array Oper} {k n:Nat} {F:PF} {dst:Option Tmp}
end
section
variable {P:Program}
def yw5 (P:Program) (t:TypeId) (cs:Array Value) (a:Nat):Option Value:=
 match P.underlying t with
 |some d=>(match zz9 d with|true=>(match P.info? t with|some i=>some (.agg (cs.extract a (a+i.size)))|none=>none)|false=>cs[a]?)
 |none=>none
def ym7 {t cs a v} (h:yw5 P t cs a=some v) (w):(part t cs a).run P w=.ok v w:=by
 unfold yw5 at h;split at h
 ·rename_i d c;unfold part;rw [Sem.run_bind,zl1 c];split at h
  ·rename_i b;rw [b];split at h
   ·rename_i i e;simp only [X0] at h;subst h;simp [sizeOf,typeInfo,e]
   ·cases h
  ·rename_i b;rw [b];simp [h]
 ·cases h
def kb8 (P:Program) (c:TypeId->Value->Value->Option Bool) (xs ys:Array Value):List Field->Option Bool
 | []=>some true
 | [f]=>match f.name== "_" with|true=>some true|false=>(match yw5 P f.type xs f.offset,yw5 P f.type ys f.offset with|some a,some b=>c f.type a b|_,_=>none)
 |f::g::r=>match f.name== "_" with|true=>kb8 P c xs ys (g::r)|false=>(match yw5 P f.type xs f.offset,yw5 P f.type ys f.offset with|some a,some b=>(match c f.type a b,kb8 P c xs ys (g::r) with|some p,some q=>some (p&&q)|_,_=>none)|_,_=>none)
def eqB (P:Program):Nat->TypeId->Value->Value->Option Bool
 |0,_,_,_=>none
 |d+1,t,x,y=>
  match P.underlying t,x,y with
  |some .bool,.bool a,.bool b=>some (a==b)
  |some (.int _),.int j a,.int c b=>match decide (j=c) with|true=>some (a==b)|false=>none
  |some .string,.string a,.string b=>some (a==b)
  |some (.struct e),.agg xs,.agg ys=>match P.stoodInHeld t with|true=>none|false=>kb8 P (eqB P d) xs ys e.toList
  |_,_,_=>none
def jd3 (d:Nat) (xs ys:Array Value) (f:Field):Sem (ForInStep (Option Bool×Unit)):=
 if f.name≠ "_" then do
  let a<-part f.type xs f.offset
  let b<-part f.type ys f.offset
  let r<-Op.equalIn d f.type a b
  if (!r)=true then pure (ForInStep.done (some false,())) else pure (ForInStep.yield (none,()))
 else pure (ForInStep.yield (none,()))
def jk4 {xs ys d} (e: ∀(t:TypeId) (x y:Value) (b:Bool),eqB P d t x y=some b-> ∀w:World,(Op.equalIn d t x y).run P w=.ok b w):
  ∀(u b),kb8 P (eqB P d) xs ys u=some b-> ∀w:World,
  (forIn (m:=Sem) u ((none,()):Option Bool×Unit) (fun f _=>jd3 d xs ys f)).run P w=.ok (if b then (none,()) else (some false,())) w
 | [],b,h,w=>by
  simp only [kb8,X0] at h;subst h;rfl
 |f::r,b,h,w=>by
  have one: ∀(c:Bool),f.name≠ "_" ->(match yw5 P f.type xs f.offset,yw5 P f.type ys f.offset with|some a,some b=>eqB P d f.type a b|_,_=>none)=some c->
    (jd3 d xs ys f).run P w=.ok (if c then ForInStep.yield (none,()) else ForInStep.done (some false,())) w:=by
   intro c i j;split at j
   ·rename_i x y l o;unfold jd3;rw [if_pos i,Sem.run_bind,ym7 l];simp only [Result.andThen_ok];rw [Sem.run_bind,ym7 o];simp only [Result.andThen_ok];rw [Sem.run_bind,e _ _ _ _ j];cases c<;>rfl
   ·cases j
  have skip:f.name= "_" ->(jd3 d xs ys f).run P w=.ok (ForInStep.yield (none,())) w:=by
   intro i;unfold jd3;rw [if_neg (by simpa using i)];rfl
  rw [List.forIn_cons]
  match r,h with
  | [],h=>
   unfold kb8 at h;split at h
   ·rename_i i;simp only [X0] at h;subst h;rw [Sem.run_bind,skip (by simpa using i)];rfl
   ·rename_i i;rw [Sem.run_bind,one b (by simpa using i) h];cases b<;>rfl
  |g::r,h=>
   unfold kb8 at h;split at h
   ·rename_i i;rw [Sem.run_bind,skip (by simpa using i)];exact jk4 e (g::r) b h w
   ·rename_i i;have s:f.name≠ "_" :=by simpa using i
    split at h
    ·rename_i x y l o;split at h
     ·rename_i p q v z;simp only [X0] at h;subst h;rw [Sem.run_bind,one p s (by rw [l,o];exact v)];cases p
      ·rfl
      ·exact jk4 e (g::r) q z w
     ·cases h
    ·cases h
def jy8: ∀(d t x y b),eqB P d t x y=some b-> ∀w:World,(Op.equalIn d t x y).run P w=.ok b w
 |0,_,_,_,_,h,_=>by simp [eqB] at h
 |d+1,t,x,y,b,h,w=>by
  unfold eqB at h;unfold Op.equalIn;split at h
  ·rename_i a c e;simp only [X0] at h;subst h;simp [underlying,e]
  ·rename_i r j a m c e;split at h
   ·rename_i o;simp only [X0] at h;subst h;have:j=m:=by simpa using o
    subst this;simp [underlying,e]
   ·cases h
  ·rename_i a c e;simp only [X0] at h;subst h;simp [underlying,e]
  ·rename_i l xs ys e;split at h
   ·cases h
   ·rename_i i;have p:(underlying t).run P w=.ok (.struct l) w:=by simp [underlying,e]
    rw [Sem.run_bind,p];simp only [Result.andThen_ok];have q:(program).run P w=.ok P w:=rfl;rw [Sem.run_bind,q];simp only [Result.andThen_ok,i];have g:=jk4 (P:=P) (d:=d) (xs:=xs) (ys:=ys) (jy8 d) l.toList b h w;rw [<-Array.forIn_toList];simp only [Bool.false_eq_true,if_false];rw [Sem.run_bind];unfold jd3 at g;rw [g];cases b<;>rfl
  ·cases h
end
end Go.V
namespace Go.V
open Go.RowKit
def Mp (w:World) (g:Nat) (es:Array MapEntry) (c:Nat):Prop:=w.heap[g]?=some (.map es c)
def Mp.lt {w g es c} (h:Mp w g es c):g<w.heap.size:=(Y3.1 h).1
def Mp.chg {S w w' g es c} (h:Mp w g es c) (a:Chg S w w') (b:g∉S):Mp w' g es c:=(a.block g h.lt b).trans h
structure NewM (w w':World) (g:Nat) (es:Array MapEntry) (c:Nat):Prop where
 blk:Mp w' g es c
 chg:Chg [] w w'
 fresh:w.heap.size<=g
def yx8 (P:Program) (t:TypeId):Option (TypeId×TypeId×TypeDesc):=
 match P.underlying t with
 |some (.map a b)=>(match P.underlying a with|some d=>some (a,b,d)|none=>none)
 |_=>none
def zp9 {P t a b d} (h:yx8 P t=some (a,b,d)):P.underlying t=some (.map a b)/\P.underlying a=some d:=by
 unfold yx8 at h;split at h
 ·rename_i c e f;split at h
  ·rename_i i g;simp only [X0,X7] at h;obtain ⟨rfl,rfl,rfl⟩:=h;exact ⟨f,g⟩
  ·cases h
 ·cases h
section
variable {P:Program} {ops:Array Oper} {Q:Exit->Act->World->Prop} {k n:Nat} {ds:List Deferred} {F:PF} {w:World}
def yd0 (ops:Array Oper) (k n:Nat) (F:PF):Option (Option Tmp×TypeId):=
 match dec ops k n F with|some ⟨dst,.makeMap t none,_,_,_,_⟩=>some (dst,t)|_=>none
def WR.mkMap {dst t} (a:yd0 ops k n F=some (dst,t))
  (K: ∀g w',NewM w w' g #[] 0->WR P ops Q (k+1) n ds (upd F dst (.map (some g))) w'):WR P ops Q k n ds F w:=by
 unfold yd0 at a;split at a
 ·rename_i d e ty c f h b;simp only [X0,X7] at a;obtain ⟨rfl,rfl⟩:=a;refine .val b (v:=.map (some w.heap.size)) (w':=w.alloc (.map #[] 0)) ?_ (K _ _ ⟨(MapKept.heap_alloc w _).1,Chg.alloc w _,W6 _⟩);simp [execOp,Instr.makeMap]
 ·cases a
def zw3 (ops:Array Oper) (k n:Nat) (F:PF):Option (Option Tmp×TypeId×Value×Value×Bool):=
 match dec ops k n F with|some ⟨dst,.lookup t m x a,_,_,_,_⟩=>some (dst,t,evD F m,evD F x,a)|_=>none
def lkV (z:Value):Bool->Option (Nat×Value)->Value
 |true,some (_,v)=>.tuple #[v,.bool true]
 |true,none=>.tuple #[z,.bool false]
 |false,some (_,v)=>v
 |false,none=>z
def ji5 {dst t B l d g c es x z o} (C:Mp w g es c) (b:zw3 ops k n F=some (dst,t,.map (some g),x,o)) (D:yx8 P t=some (B,l,d)) (p:MapKept.IsKey d x)
  (r) (q:Instr.findNow d x es.toList 0=some r) (e:(P.info? l).bind (·.zero)=some z) (v) (E:lkV z o r=v):zo5 P ops k n F w=some (dst,.ok (.value v) w):=by
 obtain ⟨s,a⟩:=zp9 D;subst E;unfold zw3 at b;split at b
 ·rename_i I J m' K f ty G L M h;simp only [X0,X7] at b;obtain ⟨rfl,rfl,u,y,rfl⟩:=b;unfold zo5;rw [h];have A:w.heap[g]?=some (.map es c):=C;have m:(zeroValue l).run P w=.ok z w:=by
   cases hin:P.info? l with
   |none=>rw [hin] at e;cases e
   |some i=>rw [hin] at e;simp at e;simp [zeroValue,typeInfo,hin,e]
  cases r with
  |none=>cases f<;>simp [execOp,u,y,Instr.lookup,run_underlying s,MapKept.run_getObj_map A,MapKept.run_checkKey a p,MapKept.run_findKey a q,Result.andThen,m,lkV]
  |some H=>obtain ⟨j,v⟩:=H;cases f<;>simp [execOp,u,y,Instr.lookup,run_underlying s,MapKept.run_getObj_map A,MapKept.run_checkKey a p,MapKept.run_findKey a q,Result.andThen,lkV]
 ·cases b
end
end Go.V
namespace Go.V
open Go.RowKit Go.ChangeShapes Go.WideShapes Go.ChangeAt Go.Deep
def ql5 {α c f}: ∀ {xs:List α} {l:List c},xs.mapM f=some l->l.length=xs.length/\ ∀(k:Nat) (x:α),xs[k]?=some x->f x=l[k]?
 | [],l,h=>by
  simp at h;subst h;exact ⟨rfl,fun k x a=>by simp at a⟩
 |x::xs,l,h=>by
  rw [R1] at h;cases a:f x with
  |none=>rw [a] at h;simp at h
  |some y=>
   rw [a] at h;cases hr:xs.mapM f with
   |none=>rw [hr] at h;simp at h
   |some r=>
    rw [hr] at h;simp only [Option.pure_def,Option.bind_eq_bind,T9,X0] at h;subst h;obtain ⟨d,g⟩:=ql5 hr;refine ⟨by simp [d],fun k z b=>?_⟩;cases k with
    |zero=>simp at b;subst b;simpa using a
    |succ k=>simp at b;simpa using g k z b
def js3 {w:World} {base} {a:Addr} {n} {cs:List Value} (h:w.cells? base a n=some cs):cs.length=n/\ ∀(k:Nat) (u:Value),cs[k]?=some u->w.cell? (a.add k)=some u:=by
 unfold World.cells? at h;split at h
 ·obtain ⟨b,d⟩:=ql5 h;refine ⟨by simpa using b,fun k u c=>?_⟩;have f:k<n:=by
   have:=(X2.1 c).1;rw [b] at this;simpa using this
  rw [d k k (by simp [f]),c]
 ·cases h
section
variable {H:Type} {enc:TypeId×Value->H} {P:Program} {w:World} {t e:TypeId}
def retLaw {w w':World} {v:Value} {e:Ending} (h:zp7 w v e w'):e=.returned v/\Chg [] w w':=by
 cases e with
 |returned u=>obtain ⟨h1,h2⟩:=h;subst h2;exact ⟨rfl,h1⟩
 |panicked ch=>exact h.elim
 |outgrown=>exact h.elim
def qj8 (i:laidOutB P=true) {W j} (k:Below W.heap.size W j) {l}: ∀ {f vs ds ps},(f.all fun t=>P.readableRec t&&decide (t<P.types.size))=true->
  DataW.TrodAll enc P W 0 (fun _=>true) true f vs ds ps->(∀x∈ps,x.block<W.heap.size)->(∀x∈ps,l x.block=true)->DataW.TrodAll enc P j 0 l true f vs ds ps
 | [],[],[],_,_,h,_,_=>h
 |t::f,v::vs,d::ds,ps,g,h,b,c=>by
  obtain ⟨p,q,m,n,rfl⟩:=h;simp only [J6,X3,decide_eq_true_eq] at g;exact ⟨p,q,WideElems.Trod_stays i g.1.1 g.1.2 m (fun x a=>k.same (b x (by simp [a]))) (fun x a=>c x (by simp [a])),qj8 i k (by simpa using g.2) n (fun x a=>b x (by simp [a])) (fun x a=>c x (by simp [a])),rfl⟩
 | [],_::_,_,_,_,h,_,_=>by simp [DataW.TrodAll] at h
 | [],[],_::_,_,_,h,_,_=>by simp [DataW.TrodAll] at h
 |_::_,[],_,_,_,h,_,_=>by simp [DataW.TrodAll] at h
 |_::_,_::_,[],_,_,h,_,_=>by simp [DataW.TrodAll] at h
def lawPost {f:Func} {s:ChangeSpec} {o a d b W r} {args:Array Value} {ds u c} (A:laidOutB P=true)
  (i:DataW.Whole enc P f.params.toList s.vars a W args.toList ds u c) (v:s.vars= []) (j:s.fn H (ds++u)= {results:= [.lit (.bool true)],args:=ds,vars:= []})
  (k:f.resultTypes= #[o]) (l:P.underlying o=some .bool) (B:(f.params.toList.all fun t=>P.readableRec t&&decide (t<P.types.size))=true) (C:Chg [] W r):
  s.post enc P f a d b false W args (.bool true) r:=by
 have g:=i.lt;have m:=i;obtain ⟨p,q,D,y,rfl,E,F⟩:=i;rw [v] at y;obtain ⟨rfl,rfl⟩:=trodVars_none y;have z:=C.below;refine ⟨ds,[],p++ [],[],p,[],m,?_,?_,?_,z.frame _,fun h=>by cases h⟩
 ·rw [j,k];exact trodAll_mk1 (shut_bool l true)
 ·rw [j];exact qj8 A z B D (fun x n=>g x (by simpa using n)) (fun x n=>by simpa using g x (by simpa using n))
 ·rw [j,v];rfl
end
end Go.V
