import Derived.Orders
import Derived.Deep.Quiet
import Derived.KernelRfl
import Derived.Below
import Derived.WalkKit
import Derived.Recover
import Derived.MapKept
import Derived.ProofKit
import Derived.OpenShut
import Derived.Carry
import Derived.JoinedCond
import Derived.Deep.Slices
set_option linter.defProp false
namespace Go.V
open Go.RowKit
abbrev X0:= @Option.some.injEq
abbrev X1:= @Nat.eq_of_beq_eq_true
abbrev X2:= @List.getElem?_eq_some_iff
abbrev X3:= @Bool.and_eq_true
abbrev X4:= @List.mem_append
abbrev X5:= @Option.some.inj
abbrev X6:= @List.mem_of_getElem?
abbrev X7:= @Prod.mk.injEq
abbrev X8:= @List.getElem?_append_left
abbrev X9:= @List.length_append
abbrev Y0:= @List.getElem?_eq_getElem
abbrev Y1:= @Nat.le_of_ble_eq_true
abbrev Y2:= @List.getD_eq_getElem?_getD
abbrev Y3:= @Array.getElem?_eq_some_iff
abbrev Y4:= @List.getElem?_cons_zero
abbrev Y5:= @List.getElem?_eq_none
abbrev Y6:= @List.length_take
abbrev Y7:= @Array.getD_eq_getD_getElem?
abbrev Y8:= @List.all_eq_true
abbrev Y9:= @List.mem_iff_getElem?
abbrev Z0:= @List.mem_cons
abbrev Z1:= @Int.toNat_natCast
abbrev Z2:= @List.getElem?_append_right
abbrev Z3:= @List.getElem?_take
abbrev Z4:= @List.mem_cons_of_mem
abbrev Z5:= @List.getElem?_set_ne
abbrev Z6:= @Array.getElem?_eq_getElem
abbrev Z7:= @List.take_append_of_le_length
abbrev Z8:= @Option.map_some
abbrev Z9:= @List.length_replicate
abbrev Q0:= @List.getElem?_set_self
abbrev Q1:= @List.length_set
abbrev Q2:= @List.append_assoc
abbrev Q4:= @List.take_of_length_le
abbrev Q5:= @List.mem_singleton
abbrev Q6:= @List.getElem?_drop
abbrev Q7:= @List.length_drop
abbrev Q8:= @List.take_append_drop
abbrev Q9:= @Nat.mul_le_mul_right
abbrev W3:= @List.mem_filter
abbrev W4:= @List.getElem?_map
abbrev W5:= @Nat.ble_eq_true_of_le
abbrev W6:= @decide_eq_true
abbrev W7:= @decide_eq_false
abbrev W8:= @Nat.le_refl
abbrev W9:= @Nat.le_trans
abbrev U0:= @Nat.zero_add
abbrev U1:= @List.map_cons
abbrev U2:= @List.mem_map
abbrev U3:= @List.mem_cons_self
abbrev U4:= @Nat.zero_le
abbrev U5:= @Bool.not_true
abbrev U6:= @List.length_map
abbrev U7:= @List.length_cons
abbrev U8:= @Nat.blt_eq
abbrev U9:= @Bool.not_eq_true'
abbrev V0:= @List.mem_range
abbrev V1:= @Nat.lt_or_ge
abbrev V2:= @Nat.add_assoc
abbrev V3:= @Option.getD_some
abbrev V4:= @Nat.lt_of_lt_of_le
abbrev V5:= @List.flatMap_cons
abbrev V6:= @Nat.min_eq_left
abbrev V7:= @List.mem_flatMap
abbrev V8:= @Nat.add_mul
abbrev V9:= @List.map_append
abbrev J0:= @Nat.succ_mul
abbrev J1:= @List.all_cons
abbrev J2:= @Nat.beq_refl
abbrev J3:= @List.flatMap_append
abbrev J4:= @Nat.sub_zero
abbrev J5:= @Bool.or_eq_true
abbrev J6:= @Nat.add_zero
abbrev J7:= @List.append_nil
abbrev J8:= @Nat.add_comm
abbrev J9:= @Array.length_toList
abbrev M0:= @List.mem_or_eq_of_mem_set
abbrev M1:= @Nat.lt_trichotomy
abbrev M2:= @List.nil_append
abbrev M3:= @List.drop_eq_nil_of_le
abbrev M4:= @Nat.zero_mul
abbrev M5:= @Bool.not_false
abbrev M6:= @List.drop_eq_getElem_cons
abbrev M7:= @Array.toList_map
abbrev M8:= @Nat.eq_zero_or_pos
abbrev M9:= @Nat.add_sub_cancel_left
abbrev N0:= @List.drop_zero
abbrev N1:= @List.cons_append
abbrev N2:= @Bool.and_self
abbrev N3:= @List.mem_of_mem_take
abbrev N4:= @Nat.sub_self
abbrev N5:= @List.not_mem_nil
abbrev N6:= @List.reverse_cons
abbrev N7:= @Nat.le_of_eq
abbrev N8:= @List.set_getElem_self
abbrev N9:= @Option.getD_none
abbrev T0:= @Option.isSome_iff_exists
abbrev T1:= @Bool.false_or
abbrev T2:= @Nat.mul_comm
abbrev T3:= @List.contains_iff_mem
abbrev T4:= @List.pairwise_cons
abbrev T5:= @Array.toList_inj
abbrev T6:= @List.mem_filterMap
abbrev T7:= @List.take_length
abbrev T8:= @List.eq_of_mem_replicate
abbrev T9:= @List.eq_nil_of_length_eq_zero
abbrev R0:= @Array.toList_range
abbrev R1:= @Nat.mod_eq_of_lt
abbrev R2:= @List.length_nil
abbrev R3:= @List.take_left
abbrev R4:= @List.contains_eq_mem
abbrev R5:= @List.size_toArray
abbrev R6:= @List.append_eq_nil_iff
abbrev R7:= @List.length_eq_zero_iff
abbrev R8:= @Nat.lt_or_eq_of_le
abbrev R9:= @Bool.false_eq_true
abbrev S7:= @Bool.true_eq_false
abbrev S8:= @List.drop_of_length_le
abbrev S9:= @List.ext_getElem?
abbrev A0:= @List.length_eraseIdx_of_lt
abbrev A1:= @Array.toList_setIfInBounds
abbrev A2:= @List.take_succ_eq_append_getElem
abbrev PF:=List (Nat×Value)
def PF.get:PF->Nat->Option Value
 | [],_=>none
 |(j,v)::r,i=>match Nat.beq j i with|true=>some v|false=>PF.get r i
def PF.keep (F:PF):List Nat->PF
 | []=> []
 |i::r=>match F.get i with|some v=>(i,v)::F.keep r|none=>F.keep r
def upd (F:PF) (dst:Option Tmp) (v:Value):PF:=match dst with|some d=>(d,v)::F|none=>F
def ev (F:PF):Operand->Option Value
 | .tmp t=>F.get t
 | .const v=>some v
 | .global g=>some (.pointer (some ⟨g,0,none⟩))
 | .func f=>some (.func (.func f) #[] #[])
def evD (F:PF) (x:Operand):Value:=(ev F x).getD undef
structure Fr (n:Nat) (ds:List Deferred) (F:PF) (a:Act):Prop where
 size:a.tmps.size=n
 defers:a.defers=ds
 val: ∀i v,F.get i=some v->a.tmps.getD i undef=v/\i<n
def PF.get_keep (F:PF) (i:Nat) (v:Value): ∀l:List Nat,(F.keep l).get i=some v->F.get i=some v
 | [],h=>by simp [PF.keep,PF.get] at h
 |j::r,h=>by
  unfold PF.keep at h;split at h
  ·rename_i u a;simp only [PF.get] at h;split at h
   ·rename_i b;have:=X1 b;subst this;rw [a];exact h
   ·exact PF.get_keep F i v r h
  ·exact PF.get_keep F i v r h
def Fr.keep {n:Nat} {ds:List Deferred} {F F':PF} {a:Act} (h:Fr n ds F a) (l:List Nat) (hk:F.keep l=F'):Fr n ds F' a:=
 ⟨h.size,h.defers,fun i v hv=>h.val i v (PF.get_keep F i v l (by rw [hk];exact hv))⟩
def Fr.eval {n:Nat} {ds:List Deferred} {F:PF} {a:Act} (h:Fr n ds F a) {x:Operand} {v:Value} (hx:ev F x=some v):a.eval x=v:=by
 cases x with
 |tmp t=>exact (h.val t v hx).1
 |const u=>simpa [ev,Act.eval] using hx
 |global g=>simpa [ev,Act.eval] using hx
 |func f=>simpa [ev,Act.eval] using hx
def zi5 (n:Nat):Option Tmp->Bool|some d=>Nat.blt d n|none=>true
def Fr.upd {n:Nat} {ds:List Deferred} {F:PF} {a:Act} (h:Fr n ds F a) {dst:Option Tmp} (hd:zi5 n dst=true) (v:Value):Fr n ds (upd F dst v) (a.put dst v):=by
 cases dst with
 |none=>exact h
 |some d=>
  have hdn:d<n:=by simpa [zi5,U8] using hd
  refine ⟨by simp [Act.put,h.size],by simp [Act.put,h.defers],?_⟩;intro i u hu;simp only [Go.V.upd,PF.get] at hu;split at hu
  ·rename_i hb;have:=X1 hb;subst this;simp only [X0] at hu;subst hu;refine ⟨?_,hdn⟩;simp only [Act.put];rw [Y7,Array.getElem?_setIfInBounds_self_of_lt (by rw [h.size];exact hdn)];rfl
  ·rename_i hb;have hne:d≠i:=fun e=>by subst e;simp at hb
   have:=h.val i u hu;refine ⟨?_,this.2⟩;simp only [Act.put];rw [Y7,Array.getElem?_setIfInBounds_ne hne,<-Array.getD_eq_getD_getElem?];exact this.1
def yd3 (ops:Array Oper) (F:PF) (j:Nat):Option (Option Bool):=
 match (ops[j]?).bind (·.dst) with
 |some d=>match F.get d with|some (.bool b)=>some (some b)|some (.tuple _)=>some none|_=>none
 |none=>none
def jm8 {ops F j b n ds a} (h:Fr n ds F a) (f:yd3 ops F j=some b):yielded ops a.tmps j=b:=by
 unfold yd3 at f;unfold yielded;split at f
 ·rename_i d m;rw [m];have g: ∀v,F.get d=some v->a.tmps[d]?=some v:=by
   intro v o;have:=h.val d _ o;have i:d<a.tmps.size:=by rw [h.size];exact this.2
   have e:=this.1;rw [Y7,Z6 i] at e;rw [Z6 i];simpa using e
  split at f
  ·rename_i c l;simp only [Option.bind_some,g _ l];simpa using f
  ·rename_i c l;simp only [Option.bind_some,g _ l];simpa using f
  ·cases f
 ·cases f
def zb0 (o:Oper):Bool:=match o.op with| .select ..=>false|_=>true
def yb1 (F:PF) (o:Oper):Bool:=o.op.operands.toList.all fun x=>(ev F x).isSome
def zy2 (ops:Array Oper) (F:PF) (o:Oper):Option Bool:=
 match o.guard with
 |none=>some true
 |some (j,b)=>(yd3 ops F j).map fun c=>match c,b with|some true,true=>true|some false,false=>true|_,_=>false
def zy3 {ops F o b n ds a} (h:Fr n ds F a) (e:zy2 ops F o=some b):Region.wanted o (yielded ops a.tmps)=b:=by
 unfold zy2 at e;unfold Region.wanted;split at e
 ·rename_i f;rw [f];simpa using e
 ·rename_i j c f;rw [f];cases hv:yd3 ops F j with
  |none=>rw [hv] at e;cases e
  |some d=>
   rw [hv] at e;simp only [Z8,X0] at e;simp only [jm8 h hv];subst e;rcases d with _|d
   ·cases c<;>rfl
   ·cases d<;>cases c<;>rfl
def dec (ops:Array Oper) (k n:Nat) (F:PF):Option Oper:=
 match ops[k]? with
 |none=>none
 |some o=>
  match zy2 ops F o with
  |some true=>match (zi5 n o.dst&&(zb0 o&&yb1 F o)) with|true=>some o|false=>none
  |_=>none
def zk1 {ops k n F o} (h:dec ops k n F=some o):
  ops[k]?=some o/\zi5 n o.dst=true/\(∀cs b,o.op≠.select cs b)/\(∀x∈o.op.operands,(ev F x).isSome=true)/\
  ∀ {ds:List Deferred} {a:Act},Fr n ds F a->Region.wanted o (yielded ops a.tmps)=true:=by
 unfold dec at h;split at h
 ·cases h
 ·rename_i o' f;split at h
  ·rename_i g;split at h
   ·rename_i c;simp only [X0] at h;subst h;simp only [X3] at c;refine ⟨f,c.1,?_,?_,fun d=>zy3 d g⟩
    ·intro cs b e;have:=c.2.1;simp [zb0,e] at this
    ·intro x i;have:=c.2.2;unfold yb1 at this;rw [Y8] at this;exact this x (Array.mem_toList_iff.2 i)
   ·cases h
  ·cases h
def jw8 {n ds F a o} (h:Fr n ds F a) (d: ∀cs b,o.op≠.select cs b) (e: ∀x∈o.op.operands,(ev F x).isSome=true):
  execOp a.eval o=execOp (evD F) o:=
 execOp_congr o d fun x f=>by
  obtain ⟨v,c⟩:=T0.1 (e x f);rw [h.eval c];simp [evD,c]
def step1 (P:Program) (ops:Array Oper) (k n:Nat) (F:PF) (w:World):Option (PF×World):=
 match ops[k]? with
 |none=>none
 |some o=>
  match zy2 ops F o with
  |some true=>
   match (zi5 n o.dst&&(zb0 o&&yb1 F o)) with
   |true=>
    match (execOp (evD F) o).run P w with
    | .ok (.value v) w'=>some (upd F o.dst v,w')
    | .ok .skip w'=>some (upd F o.dst undef,w')
    |_=>none
   |false=>none
  |some false=>match zi5 n o.dst with|true=>some (upd F o.dst undef,w)|false=>none
  |none=>none
def evK (P:Program) (ops:Array Oper) (n:Nat):Nat->Nat->PF->World->Option (PF×World)
 |0,_,F,w=>some (F,w)
 |m+1,k,F,w=>match step1 P ops k n F w with|some (F',w')=>evK P ops n m (k+1) F' w'|none=>none
def WR (P:Program) (ops:Array Oper) (Q:Exit->Act->World->Prop) (k n:Nat) (ds:List Deferred) (F:PF) (w:World):Prop:=
 ∀a,Fr n ds F a->wpList P ops Q (ops.toList.drop k) a w
def CW (P:Program) (c:Code) (Q:Exit->Act->World->Prop) (n:Nat) (ds:List Deferred) (F:PF) (w:World):Prop:=
 ∀a,Fr n ds F a->c.wp P Q a w
section
variable {P:Program} {ops:Array Oper} {Q:Exit->Act->World->Prop} {k n:Nat} {ds:List Deferred} {F F':PF} {w w':World}
def zh0 {o} (h:ops[k]?=some o):ops.toList.drop k=o::ops.toList.drop (k+1):=by
 have a:k<ops.toList.length:=by
  have:=(Y3.1 h).1;simpa using this
 rw [M6 a];congr 1;have:=(Y3.1 h).2;simpa using this
def WR.step {o} (c:dec ops k n F=some o)
  (h: ∀a,Fr n ds F a->execOp a.eval o=execOp (evD F) o->o.wp P a w (wpList P ops Q (ops.toList.drop (k+1))) Q):WR P ops Q k n ds F w:=by
 intro a b;obtain ⟨d,_,e,f,g⟩:=zk1 c;rw [zh0 d];unfold wpList;rw [if_pos (g b)];exact .inl (h a b (jw8 b e f))
def WR.val {o v} (b:dec ops k n F=some o) (c:(execOp (evD F) o).run P w=.ok (.value v) w')
  (K:WR P ops Q (k+1) n ds (upd F o.dst v) w'):WR P ops Q k n ds F w:=
 .step b fun a d e=>by
  unfold Oper.wp;rw [e,c];exact K _ (d.upd (zk1 b).2.1 v)
def WR.skip {o} (b:dec ops k n F=some o) (c:(execOp (evD F) o).run P w=.ok .skip w')
  (K:WR P ops Q (k+1) n ds (upd F o.dst undef) w'):WR P ops Q k n ds F w:=
 .step b fun a d e=>by
  unfold Oper.wp;rw [e,c];exact K _ (d.upd (zk1 b).2.1 undef)
def WR.enter {o:Oper} {f:FuncId} {args:Array Value} {R:Ending->World->Prop} (hd:dec ops k n F=some o) (hr:(execOp (evD F) o).run P w=.ok (.enter f args) w')
  (hc:Calls P f args w' R) (K: ∀v w'',R (.returned v) w''->WR P ops Q (k+1) n ds (upd F o.dst v) w'')
  (hp: ∀ch w'',R (.panicked ch) w''-> ∀a,Fr n ds F a->Q (.panic ch) a w'') (ho: ∀w'',R .outgrown w''->LetsOut Q):WR P ops Q k n ds F w:=
 .step hd fun a ha he=>by
  unfold Oper.wp;rw [he,hr];refine hc.mono fun e w'' hR=>?_;cases e with
  |returned v=>exact K v w'' hR _ (ha.upd (zk1 hd).2.1 v)
  |panicked ch=>exact hp ch w'' hR a ha
  |outgrown=>exact ho w'' hR
def WR.throw {o v} (b:dec ops k n F=some o) (c:(execOp (evD F) o).run P w=.halt (.panic v) w')
  (K: ∀a,Fr n ds F a->Q (.panic [{v,recovered:=false}]) a w'):WR P ops Q k n ds F w:=
 .step b fun a d e=>by
  unfold Oper.wp;rw [e,c];exact K a d
def qv5 (h:step1 P ops k n F w=some (F',w')) (K:WR P ops Q (k+1) n ds F' w'):WR P ops Q k n ds F w:=by
 unfold step1 at h;split at h
 ·cases h
 ·rename_i o f;split at h
  ·rename_i c;split at h
   ·rename_i d;have g:dec ops k n F=some o:=by unfold dec;simp only [f,c,d]
    split at h
    ·rename_i v b e;simp only [X0,X7] at h;obtain ⟨rfl,rfl⟩:=h;exact .val g e K
    ·rename_i b e;simp only [X0,X7] at h;obtain ⟨rfl,rfl⟩:=h;exact .skip g e K
    ·cases h
   ·cases h
  ·rename_i c;split at h
   ·rename_i d;simp only [X0,X7] at h;obtain ⟨rfl,rfl⟩:=h;intro a i;rw [zh0 f];unfold wpList;rw [if_neg (by rw [zy3 i c];simp)];exact K _ (i.upd d undef)
   ·cases h
  ·cases h
def WR.evs: ∀(m k:Nat) (F:PF) (w:World),evK P ops n m k F w=some (F',w')->WR P ops Q (k+m) n ds F' w'->WR P ops Q k n ds F w
 |0,_,_,_,h,K=>by
  simp only [evK,X0,X7] at h;obtain ⟨rfl,rfl⟩:=h;exact K
 |m+1,k,F,w,h,K=>by
  unfold evK at h;split at h
  ·rename_i F₁ w₁ h1;exact qv5 h1 (WR.evs m (k+1) F₁ w₁ h (by rw [V2,J8 1 m];exact K))
  ·cases h
def WR.keep (l:List Nat) (h:F.keep l=F') (K:WR P ops Q k n ds F' w):WR P ops Q k n ds F w:=fun a ha=>K a (ha.keep l h)
def WR.batch (m:Nat) (F':PF) (h:(match evK P ops n m k F w with|some (G,w₁)=>some (G.keep (F'.map Prod.fst),w₁)|none=>none)=some (F',w)) (K:WR P ops Q (k+m) n ds F' w):WR P ops Q k n ds F w:=by
 split at h
 ·rename_i G w₁ hG;simp only [X0,X7] at h;obtain ⟨h1,rfl⟩:=h;exact .evs m k F _ hG (.keep _ h1 K)
 ·cases h
def WR.fin (b:Nat.ble ops.size k=true) (K: ∀a,Fr n ds F a->Q .normal a w):WR P ops Q k n ds F w:=fun a c=>by
 rw [M3 (by simpa using Y1 b)];exact K a c
def CW.region {id} (h:WR P ops Q 0 n ds F w):CW P (.region id ops false) Q n ds F w:=fun a b=>wp_region_list (by simpa using h a b)
def CW.seq {x y} (h: ∀K:Act->World->Prop,(∀a w,y.wp P Q a w->K a w)->CW P x (Exit.then K Q) n ds F w):CW P (.seq x y) Q n ds F w:=
 fun a b=>wp_seq_k fun K c=>h K c a b
def go {y:Code} {K:Act->World->Prop} (b: ∀a w,y.wp P Q a w->K a w) (h:CW P y Q n ds F w): ∀a,Fr n ds F a->K a w:=fun a c=>b a w (h a c)
def CW.keep {c:Code} (l:List Nat) (h:F.keep l=F') (K:CW P c Q n ds F' w):CW P c Q n ds F w:=fun a ha=>K a (ha.keep l h)
def CW.skip (K: ∀a,Fr n ds F a->Q .normal a w):CW P .skip Q n ds F w:=fun a b=>wp_skip (K a b)
def CW.ret (K: ∀a,Fr n ds F a->Q .ret a w):CW P .ret Q n ds F w:=fun a b=>wp_ret (K a b)
def CW.exit {id} (K: ∀a,Fr n ds F a->Q (.exit id) a w):CW P (.exit id) Q n ds F w:=fun a b=>wp_exit (K a b)
def CW.block {id c} (h:CW P c (Exit.inBlock id Q) n ds F w):CW P (.block id c) Q n ds F w:=fun a b=>wp_block (h a b)
def CW.yes {c x y} (d:ev F c=some (.bool true)) (h:CW P x Q n ds F w):CW P (.cond c x y) Q n ds F w:=fun a b=>wp_cond_true (b.eval d) (h a b)
def CW.no {c x y} (d:ev F c=some (.bool false)) (h:CW P y Q n ds F w):CW P (.cond c x y) Q n ds F w:=fun a b=>wp_cond_false (b.eval d) (h a b)
def CW.cond {c:Operand} {x y:Code} (t:Bool) (hc:ev F c=some (.bool t)) (ht:t=true->CW P x Q n ds F w) (hf:t=false->CW P y Q n ds F w):CW P (.cond c x y) Q n ds F w:=
 fun a ha=>wp_cond_split (ha.eval hc) (fun h=>ht h a ha) (fun h=>hf h a ha)
def ge7 {b:Type} (n:Nat) (ds:List Deferred) (I:b->World->Prop) (c:b->PF) (d:b->Nat) (Q:Exit->Act->World->Prop) (m:Nat):Exit->Act->World->Prop
 | .normal,a,w=> ∃s,I s w/\d s<m/\Fr n ds (c s) a
 |e,a,w=>Q e a w
def CW.loop {σ:Type} {c:Code} (I:σ->World->Prop) (FF:σ->PF) (μ:σ->Nat) (s:σ) (h0:I s w) (l:List Nat) (hF:F.keep l=FF s)
  (round: ∀s w,I s w->CW P c (ge7 n ds I FF μ Q (μ s)) n ds (FF s) w):CW P (.loop c) Q n ds F w:=by
 intro a ha
 classical
 have hmeas: ∀a w,(∃s,I s w/\Fr n ds (FF s) a)-> ∃m,(∃s,I s w/\Fr n ds (FF s) a/\μ s=m)/\ ∀s,I s w->Fr n ds (FF s) a->m<=μ s:=by
  intro a w ⟨s,hs,hf⟩;have key: ∀m,(∃s,I s w/\Fr n ds (FF s) a/\μ s=m)-> ∃m,(∃s,I s w/\Fr n ds (FF s) a/\μ s=m)/\ ∀s,I s w->Fr n ds (FF s) a->m<=μ s:=by
   intro m;induction m using Nat.strongRecOn with
   |_ m ih=>
    intro hm;by_cases hex: ∃s,I s w/\Fr n ds (FF s) a/\μ s<m
    ·obtain ⟨s',h1,h2,h3⟩:=hex;exact ih (μ s') h3 ⟨s',h1,h2,rfl⟩
    ·exact ⟨m,hm,fun s' h1 h2=>Nat.le_of_not_lt fun h3=>hex ⟨s',h1,h2,h3⟩⟩
  exact key (μ s) ⟨s,hs,hf,rfl⟩
 refine wp_loop (fun a w=> ∃s,I s w/\Fr n ds (FF s) a) (fun a w=>if h: ∃s,I s w/\Fr n ds (FF s) a then Classical.choose (hmeas a w h) else 0) ⟨s,h0,ha.keep l hF⟩ ?_;intro a w hI;have hc:=Classical.choose_spec (hmeas a w hI);obtain ⟨⟨s,hs,hf,hm⟩,_⟩:=hc;simp only [dif_pos hI];rw [<-hm];refine wp_mono (round s w hs a hf) fun e a' w' hq=>?_;cases e with
 |normal=>
  obtain ⟨s',h1,h2,h3⟩:=hq;have hI': ∃s,I s w'/\Fr n ds (FF s) a':=⟨s',h1,h3⟩;refine ⟨hI',?_⟩;simp only [dif_pos hI'];exact Nat.lt_of_le_of_lt ((Classical.choose_spec (hmeas a' w' hI')).2 s' h1 h3) h2
 |exit id=>exact hq
 |goto l=>exact hq
 |ret=>exact hq
 |panic ch=>exact hq
 |outgrown=>exact hq
end
section
variable {P:Program} {n:Nat} {F:PF} {w:World}
def je3 (l:List Value):Nat->PF
 |i=>match l with| []=> []|v::r=>(i,v)::je3 r (i+1)
def yc9 (l:List Value): ∀(i j:Nat) (v:Value),(je3 l i).get j=some v->i<=j/\l[j-i]?=some v:=by
 induction l with
 |nil=>intro i j v h;simp [je3,PF.get] at h
 |cons u r ih=>
  intro i j v h;simp only [je3,PF.get] at h;split at h
  ·rename_i hb;have:=X1 hb;subst this;simpa using h
  ·rename_i hb;have hne:i≠j:=fun e=>by subst e;simp at hb
   obtain ⟨h1,h2⟩:=ih (i+1) j v h;refine ⟨by omega,?_⟩;rw [show j-i=(j-(i+1))+1 by omega];simpa using h2
def zf5 {f:FuncId} {fn:Func} {c:Code} {args:Array Value} {R:Ending->World->Prop} (hf:P.funcs[f]?=some fn) (hb:fn.body=some c) (hn:fn.ntmps=n) (hs:Nat.ble args.size n=true)
  (l:List Nat) (hF:(je3 args.toList 0).keep l=F) (h:CW P c (bodyPost P fn R) n [] F w):Calls P f args w R:=by
 have hsz:args.size<=n:=Y1 hs;refine calls_of_wp hf hb (h _ (Fr.keep ⟨?_,rfl,?_⟩ l hF))
 ·simp [hn];omega
 ·intro i v hv;obtain ⟨_,h2⟩:=yc9 args.toList 0 i v hv;simp only [J4,Array.getElem?_toList] at h2;have hi:=(Y3.1 h2).1;refine ⟨?_,by omega⟩;rw [Y7,Array.getElem?_append_left hi,h2];rfl
def vq9 (F:PF):List ResultVar->Option (List Value)
 | []=>some []
 | .tmp t::r=>match F.get t,vq9 F r with|some v,some l=>some (v::l)|_,_=>none
 | .cell _ _::_=>none
def ko8 (fn:Func) (F:PF):Option Value:=match vq9 F fn.results.toList with|some [v]=>some v|some l=>some (.tuple l.toArray)|none=>none
def qo8 {ds a} (b:Fr n ds F a) (f:ResultVar->Sem Value) (d: ∀t,f (.tmp t)=Pure.pure (a.tmps.getD t undef)): ∀(l:List ResultVar) (vs:List Value),vq9 F l=some vs->
  (l.mapM f).run P w=.ok vs w
 | [],vs,h=>by simp [vq9] at h;subst h;rfl
 | .tmp t::r,vs,h=>by
  unfold vq9 at h;split at h
  ·rename_i v l g i;simp only [X0] at h;subst h;have e:=(b.val t v g).1;have j:=qo8 b f d r l i;simp only [List.mapM_cons,Sem.run_bind,Sem.run_pure,Result.andThen_ok,j,e,d]
  ·cases h
 | .cell c t::r,vs,h=>by simp [vq9] at h
def ye1 {ds:List Deferred} {a:Act} (b:Fr n ds F a) {fn:Func} {f:ResultVar->Sem Value} (c: ∀t,f (.tmp t)=Pure.pure (a.tmps.getD t undef)) {vs:List Value} (h:vq9 F fn.results.toList=some vs):
  (fn.results.mapM f).run P w=.ok vs.toArray w:=by
 have:=qo8 (P:=P) (w:=w) b f c fn.results.toList vs h;rw [Array.mapM_eq_mapM_toList];simp only [Sem.run_map,this,Result.andThen_ok]
def qo9 {fn ds a} (d:Fr n ds F a) {v} (h:ko8 fn F=some v):(results fn a.tmps).run P w=.ok v w:=by
 unfold ko8 at h;split at h
 ·rename_i u b;simp only [X0] at h;subst h;unfold results;rw [Sem.run_bind,ye1 d (fun t=>rfl) b];rfl
 ·rename_i l c b;simp only [X0] at h;subst h;unfold results;rw [Sem.run_bind,ye1 d (fun t=>rfl) b];have:l.toArray.size≠1:=by
   intro e
   match l,e with
   | [u],_=>exact c u rfl
  simp only [Result.andThen_ok,this,dite_false];rfl
 ·cases h
def qv0 {fn:Func} {R:Ending->World->Prop} (v:Value) (h:ko8 fn F=some v) (hR:R (.returned v) w): ∀a,Fr n [] F a->bodyPost P fn R .ret a w:=
 fun _ ha=>⟨ha.defers,v,qo9 ha h,hR⟩
def gj6 {fn:Func} {R:Ending->World->Prop} (v:Value) (h:ko8 fn F=some v) (hR:R (.returned v) w): ∀a,Fr n [] F a->bodyPost P fn R .normal a w:=
 fun _ ha=>⟨ha.defers,v,qo9 ha h,hR⟩
end
end Go.V
namespace Go.V
open Go.RowKit
structure Chg (S:List Nat) (w w':World):Prop where
 os:w'.os=w.os
 tape:w'.tape=w.tape
 output:w'.output=w.output
 size:w.heap.size<=w'.heap.size
 block: ∀k,k<w.heap.size->k∉S->w'.heap[k]?=w.heap[k]?
def Chg.refl (S:List Nat) (w:World):Chg S w w:=⟨rfl,rfl,rfl,W8 _,fun _ _ _=>rfl⟩
def Chg.step {S T w0 w w'} (h:Chg S w0 w) (a:Chg T w w') (e: ∀t∈T,t∈S\/w0.heap.size<=t):Chg S w0 w':=
 ⟨a.os.trans h.os,a.tape.trans h.tape,a.output.trans h.output,W9 h.size a.size,fun k b c=>
  (a.block k (V4 b h.size) fun f=>by rcases e k f with d|d;exact c d;omega).trans (h.block k b c)⟩
def Chg.pure {S w0 w w'} (h:Chg S w0 w) (a:Chg [] w w'):Chg S w0 w':=h.step a (by simp)
def Chg.weak {S T w w'} (h:Chg T w w') (a: ∀t∈T,t∈S):Chg S w w':=
 ⟨h.os,h.tape,h.output,h.size,fun k b c=>h.block k b fun d=>c (a k d)⟩
def Chg.drew (w:World):Chg [] w {w with drawn:=w.drawn+1}:=⟨rfl,rfl,rfl,W8 _,fun _ _ _=>rfl⟩
def Chg.below {w w'} (h:Chg [] w w'):Below w.heap.size w w':=⟨h.os,h.tape,h.output,h.size,fun k a=>h.block k a (by simp)⟩
def Chg.ofBelow {w w'} (h:Below w.heap.size w w'):Chg [] w w':=⟨h.os,h.tape,h.output,h.size,fun k a _=>h.block k a⟩
def Chg.alloc (w:World) (o:Obj):Chg [] w (w.alloc o):=⟨rfl,rfl,rfl,by simp,fun k hk _=>Below.heap_alloc w o k hk⟩
def Blk (w:World) (g:Nat) (c:Array Value) (e:TypeId):Prop:=w.heap[g]?=some (.cells c e (0,0))
def Blk.lt {w g c e} (h:Blk w g c e):g<w.heap.size:=(Y3.1 h).1
def Blk.chg {S w w' g c e} (h:Blk w g c e) (a:Chg S w w') (b:g∉S):Blk w' g c e:=(a.block g h.lt b).trans h
def Blk.pure {w w' g c e} (h:Blk w g c e) (a:Chg [] w w'):Blk w' g c e:=h.chg a (by simp)
def Chg.step1 {S g w0 w w'} (h:Chg S w0 w) (b:Chg [g] w w') (c:w0.heap.size<=g):Chg S w0 w':=h.step b (by intro t a;simp only [Z0,N5,or_false] at a;subst a;exact .inr c)
structure New (w w':World) (g:Nat) (c:Array Value) (e:TypeId):Prop where
 blk:Blk w' g c e
 chg:Chg [] w w'
 fresh:w.heap.size<=g
def New.alloc (w:World) (c:Array Value) (e:TypeId):New w (w.alloc (.cells c e)) w.heap.size c e:=⟨heap_alloc_new w _,Chg.alloc w _,W8 _⟩
def bk:Option Addr->Nat|some a=>a.block|none=>0
def of:Option Addr->Nat|some a=>a.off|none=>0
def Rg (w:World) (ad:Option Addr) (cs:List Value):Prop:=
 ∀j u,cs[j]?=some u->ad=some ⟨bk ad,of ad,none⟩/\w.cell? ⟨bk ad,of ad+j,none⟩=some u
def Rg.nil (w:World) (ad:Option Addr):Rg w ad []:=fun j u h=>by simp at h
def Rg.chg {S w w' ad cs} (h:Rg w ad cs) (d:Chg S w w') (a:bk ad∉S\/cs= []):Rg w' ad cs:=by
 intro j u b;obtain ⟨e,c⟩:=h j u b;refine ⟨e,?_⟩;rcases a with a|a
 ·exact (World.cell?_of_block (d.block _ (World.block_lt_of_cell? w _ c) a)).trans c
 ·subst a;simp at b
def Rg.pure {w w' ad cs} (h:Rg w ad cs) (a:Chg [] w w'):Rg w' ad cs:=h.chg a (.inl (by simp))
def Rg.lt {w ad cs} (h:Rg w ad cs) (a:cs≠ []):bk ad<w.heap.size:=by
 cases cs with
 |nil=>exact absurd rfl a
 |cons u r=>exact World.block_lt_of_cell? w _ (h 0 u rfl).2
def Rg.blk {w:World} {g off:Nat} {c:Array Value} {e:TypeId} (h:Blk w g c e) (cs:List Value) (hcs: ∀j u,cs[j]?=some u->c[off+j]?=some u):Rg w (some ⟨g,off,none⟩) cs:=by
 intro j u hu;refine ⟨rfl,?_⟩;have:=cell_of_row w g (off+j) c e (0,0) h;show w.cell? ⟨g,off+j,none⟩=some u;rw [this];exact hcs j u hu
def Rg.sub {w:World} {ad:Option Addr} {cs:List Value} (h:Rg w ad cs) (l m:Nat) (ad':Option Addr) (had:ad=some ⟨bk ad,of ad,none⟩->ad'=some ⟨bk ad,of ad+l,none⟩):Rg w ad' ((cs.drop l).take m):=by
 intro j u hu;rw [Z3] at hu;split at hu
 ·rw [Q6] at hu;obtain ⟨h1,h2⟩:=h (l+j) u hu;have e:=had h1;subst e;exact ⟨rfl,by simpa [bk,of,V2] using h2⟩
 ·cases hu
def Own (w:World) (B:Nat) (e:TypeId) (sz:Nat) (ad:Option Addr) (n cap:Nat) (cs:List Value):Prop:=
 cs.length=n*sz/\((Value.slice ad n cap=.slice none 0 0/\n=0)\/ ∃(g cap':Nat) (cur:Array Value),Value.slice ad n cap=.slice (some ⟨g,0,none⟩) n cap'/\B<=g/\w.heap[g]?=some (.cells cur e (0,0))/\n<=cap'/\cap'<=maxLen/\cap'*sz<=cur.size/\cur.toList.take (n*sz)=cs)
def Own.of {w:World} {B:Nat} {e:TypeId} {sz:Nat} {ad:Option Addr} {n cap:Nat} {cs:List Value} (h:w.ownsRow B e sz (.slice ad n cap) n cs):Own w B e sz ad n cap cs:=by
 obtain ⟨h1,h2|⟨g,cap',cur,h3,h4,h5,h6,h7,h8,h9⟩⟩:=h
 ·exact ⟨h1,.inl h2⟩
 ·exact ⟨h1,.inr ⟨g,cap',cur,h3,h4,h5,h6,h7,N7 h8.symm,h9⟩⟩
def Own.len {w B e sz ad n cap cs} (h:Own w B e sz ad n cap cs):cs.length=n*sz:=h.1
def Own.cases {w:World} {B:Nat} {e:TypeId} {sz:Nat} {ad:Option Addr} {n cap:Nat} {cs:List Value} (h:Own w B e sz ad n cap cs):
  (ad=none/\n=0/\cap=0/\cs= [])\/ ∃c,ad=some ⟨bk ad,0,none⟩/\B<=bk ad/\Blk w (bk ad) c e/\n<=cap/\cap<=maxLen/\cap*sz<=c.size/\c.toList.take (n*sz)=cs:=by
 obtain ⟨h1,h2⟩:=h;rcases h2 with ⟨h2,h3⟩|⟨g,cap',cur,hv,hb,hg,hn,hm,hs,ht⟩
 ·simp only [Value.slice.injEq] at h2;obtain ⟨rfl,rfl,rfl⟩:=h2;exact .inl ⟨rfl,rfl,rfl,T9 (by simpa using h1)⟩
 ·simp only [Value.slice.injEq,true_and] at hv;obtain ⟨rfl,rfl⟩:=hv;exact .inr ⟨cur,rfl,hb,hg,hn,hm,hs,ht⟩
def Own.rg {w B e sz ad n cap cs} (h:Own w B e sz ad n cap cs):Rg w ad cs:=by
 rcases h.cases with ⟨_,_,_,rfl⟩|⟨c,b,_,d,_,_,_,f⟩
 ·exact Rg.nil _ _
 ·rw [b];refine Rg.blk d cs fun j u a=>?_;rw [<-f,Z3] at a;split at a
  ·simpa using a
  ·cases a
def Own.chg {S w w' B e sz ad n cap cs} (h:Own w B e sz ad n cap cs) (j:Chg S w w') (a:bk ad∉S\/ad=none):Own w' B e sz ad n cap cs:=by
 obtain ⟨l,d⟩:=h;refine ⟨l,?_⟩;rcases d with d|⟨g,b,f,c,m,i,r⟩
 ·exact .inl d
 ·refine .inr ⟨g,b,f,c,m,?_,r⟩;simp only [Value.slice.injEq,true_and] at c;rcases a with a|a
  ·rw [c.1] at a;exact (j.block g (Y3.1 i).1 a).trans i
  ·rw [a] at c;simp at c
def Own.pure {w w' B e sz ad n cap cs} (h:Own w B e sz ad n cap cs) (a:Chg [] w w'):Own w' B e sz ad n cap cs:=h.chg a (.inl (by simp))
def Own.nil (w:World) (B:Nat) (e:TypeId) (sz:Nat):Own w B e sz none 0 0 []:=.of (World.ownsRow_nil w B e sz)
def Own.le {w B e sz ad n cap cs} (h:Own w B e sz ad n cap cs):n<=cap/\cap<=maxLen:=by
 rcases h.cases with ⟨_,rfl,rfl,_⟩|⟨c,_,_,_,a,b,_⟩
 ·exact ⟨W8 _,U4 _⟩
 ·exact ⟨a,b⟩
def Own.ge {w B e sz ad n cap cs} (h:Own w B e sz ad n cap cs):ad=none\/(B<=bk ad/\bk ad<w.heap.size):=by
 rcases h.cases with ⟨a,_⟩|⟨c,_,a,b,_⟩
 ·exact .inl a
 ·exact .inr ⟨a,b.lt⟩
def ldv (P:Program) (t:TypeId) (c:Array Value) (o:Nat):Option Value:=
 match P.info? t,P.underlying t with
 |some i,some (.struct _)|some i,some (.array _ _)=>match Nat.ble (o+i.size) c.size with|true=>some (.agg (c.extract o (o+i.size)))|false=>none
 |some _,some _=>c[o]?
 |_,_=>none
def zj9 (P:Program) (t:TypeId):Bool:=match P.underlying t with|some (.struct _)|some (.array _ _)=>false|some _=>true|none=>false
def yb5:TypeDesc->Bool| .struct _=>true| .array _ _=>true|_=>false
def zv6 {P:Program} {t:TypeId} {d:TypeDesc} (h:P.underlying t=some d) (w:World):(isAgg t).run P w=.ok (yb5 d) w:=by
 unfold isAgg;rw [Sem.run_bind];have:(underlying t).run P w=.ok d w:=by simp [underlying,h]
 rw [this];cases d<;>rfl
def zf9 {P t} (h:zj9 P t=true) {a w v} (b:w.cell? a=some v):(loadVar t a).run P w=.ok v w:=by
 unfold zj9 at h;cases hd:P.underlying t with
 |none=>rw [hd] at h;cases h
 |some d=>
  rw [hd] at h;unfold loadVar;rw [Sem.run_bind,zv6 hd];cases d<;>first|(cases h;done)|simp [yb5,load,Sem.run,b]
def jm3 (w:World) (g:Nat) (c:Array Value) (e:TypeId) (d:Nat×Nat) (f:w.heap[g]?=some (.cells c e d)) (o n:Nat) (i:o+n<=c.size) (P:Program):
  (loadCells ⟨g,o,none⟩ n).run P w=.ok (c.extract o (o+n)) w:=by
 have:=run_loadCells_list (P:=P) (w:=w) ⟨g,o,none⟩ (c.extract o (o+n)).toList (fun j v b=>by
  have a:(⟨g,o,none⟩:Addr).add j=⟨g,o+j,none⟩:=by unfold Addr.add;split<;>simp_all
  rw [a,cell_of_row w g (o+j) c e d f];simp only [Array.getElem?_toList,Array.getElem?_extract] at b;split at b
  ·exact b
  ·cases b)
 have h:(c.extract o (o+n)).toList.length=n:=by simp;omega
 rw [h] at this;rw [this]
def zt3 {P t w g o c e l v} (s:w.heap[g]?=some (.cells c e l)) (h:ldv P t c o=some v):
  (loadVar t ⟨g,o,none⟩).run P w=.ok v w:=by
 unfold ldv at h;have agg: ∀(i:TypeInfo) (d:TypeDesc),P.info? t=some i->P.underlying t=some d->yb5 d=true->
   (match Nat.ble (o+i.size) c.size with|true=>some (Value.agg (c.extract o (o+i.size)))|false=>none)=some v->(loadVar t ⟨g,o,none⟩).run P w=.ok v w:=by
  intro i d b a m j;split at j
  ·rename_i p;simp only [X0] at j;subst j;have f:=Y1 p;unfold loadVar;rw [Sem.run_bind,zv6 a,m];have u:(sizeOf t).run P w=.ok i.size w:=by simp [sizeOf,typeInfo,b]
   simp only [Result.andThen_ok,if_true,Sem.run_bind,u,jm3 w g c e l s o i.size f P,Sem.run_pure]
  ·cases j
 split at h
 ·rename_i i _ b a;exact agg i _ b a rfl h
 ·rename_i i _ _ b a;exact agg i _ b a rfl h
 ·rename_i i d q r b a;refine zf9 ?_ (by rw [cell_of_row w g o c e l s];exact h);unfold zj9;rw [a];cases d<;>first|rfl|(exact absurd rfl (q _))|(exact absurd rfl (r _ _))|skip
  all_goals simp_all
 ·cases h
def ya6 (c:Array Value) (o:Nat):List Value->Array Value
 | []=>c
 |v::r=>ya6 (c.setIfInBounds o v) (o+1) r
def stv (P:Program) (t:TypeId) (c:Array Value) (o:Nat) (v:Value):Option (Array Value):=
 match P.info? t with
 |some i=>match (Nat.beq v.cells.size i.size&&(Nat.ble (o+i.size) c.size&&v.cells.toList.all Value.oneCell')) with|true=>some (ya6 c o v.cells.toList)|false=>none
 |none=>none
def zj1 (P:Program) (e:TypeId) (g:Nat): ∀(vs:List Value) (o i:Nat) (c:Array Value) (w:World),Blk w g c e->o+i+vs.length<=c.size->(∀v∈vs,v.oneCell'=true)->
  ∃w',(storeCells ⟨g,o,none⟩ vs i).run P w=.ok () w'/\Blk w' g (ya6 c (o+i) vs) e/\Chg [g] w w'
 | [],o,i,c,w,hb,_,_=>⟨w,rfl,hb,Chg.refl _ _⟩
 |v::r,o,i,c,w,hb,hl,h1=>by
  simp only [U7] at hl;have hadd:(⟨g,o,none⟩:Addr).add i=⟨g,o+i,none⟩:=by unfold Addr.add;split<;>simp_all
  have hcell:w.cell? ⟨g,o+i,none⟩=some c[o+i]:=by
   rw [cell_of_row w g (o+i) c e (0,0) hb,Z6 (by omega)]
  have hfz:=frozen_of_row w g (o+i) c e hb;have hst:(store ((⟨g,o,none⟩:Addr).add i) v).run P w=.ok () (w.setCell ⟨g,o+i,none⟩ v):=by
   rw [hadd];have:=run_store P w ⟨g,o+i,none⟩ v .plain (h1 v (by simp));rw [this];simp [hcell,hfz]
  have hb':Blk (w.setCell ⟨g,o+i,none⟩ v) g (c.setIfInBounds (o+i) v) e:=heap_setCell_same w g (o+i) c e v hb;obtain ⟨w',h2,h3,h4⟩:=zj1 P e g r o (i+1) _ _ hb' (by simp;omega) (fun u hu=>h1 u (by simp [hu]));refine ⟨w',?_,h3,?_⟩
  ·unfold storeCells;rw [Sem.run_bind,hst];exact h2
  ·have hc1:Chg [g] w (w.setCell ⟨g,o+i,none⟩ v):=⟨rfl,rfl,rfl,by simp,fun k _ hk=>heap_setCell_other w _ k v (by simpa using hk)⟩;exact hc1.step h4 (by simp)
def yx4 {P t w g o c c' e v} (f:Blk w g c e) (h:stv P t c o v=some c'):
  ∃w',(storeVar t ⟨g,o,none⟩ v).run P w=.ok () w'/\Blk w' g c' e/\Chg [g] w w':=by
 unfold stv at h;split at h
 ·rename_i i j;split at h
  ·rename_i a;simp only [X0] at h;subst h;simp only [X3] at a;have b:v.cells.size=i.size:=X1 a.1;have l:=Y1 a.2.1;have d: ∀u∈v.cells.toList,u.oneCell'=true:=by
    have:=a.2.2;rw [Y8] at this;exact this
   obtain ⟨w',m,p,q⟩:=zj1 P e g v.cells.toList o 0 c w f (by simp [b];omega) d;refine ⟨w',?_,p,q⟩;have r:(sizeOf t).run P w=.ok i.size w:=by simp [sizeOf,typeInfo,j]
   unfold storeVar;simp only [Sem.run_bind,r,Result.andThen_ok,b,ne_eq,not_true_eq_false,if_false,m]
  ·cases h
 ·cases h
section
variable {P:Program} {ops:Array Oper} {Q:Exit->Act->World->Prop} {k n:Nat} {ds:List Deferred} {F:PF} {w:World}
def qb1 (ops:Array Oper) (k n:Nat) (F:PF):Option (Option Tmp×TypeId×Value):=
 match dec ops k n F with|some ⟨dst,.box e x,_,_,_,_⟩=>some (dst,e,evD F x)|_=>none
def WR.box {dst:Option Tmp} {e:TypeId} {v:Value} (hd:qb1 ops k n F=some (dst,e,v)) (c:Array Value) (hc:v.cells=c)
  (K: ∀g w',New w w' g c e->WR P ops Q (k+1) n ds (upd F dst (.pointer (some ⟨g,0,none⟩))) w'):WR P ops Q k n ds F w:=by
 unfold qb1 at hd;split at hd
 ·rename_i d e' x ty pos af gd hdec;simp only [X0,X7] at hd;obtain ⟨rfl,rfl,rfl⟩:=hd;subst hc;exact .val hdec (v:=.pointer (some ⟨w.heap.size,0,none⟩)) (w':=w.alloc (.cells (evD F x).cells e')) rfl (K _ _ (New.alloc w _ _))
 ·cases hd
def yt7 (ops:Array Oper) (k n:Nat) (F:PF):Option (Option Tmp×TypeId):=
 match dec ops k n F with|some ⟨dst,.alloc e,_,_,_,_⟩=>some (dst,e)|_=>none
def qe1 (P:Program) (e:TypeId):Option (Array Value):=match P.info? e with|some i=>(match i.zero with|some z=>some z.cells|none=>none)|none=>none
def jc5 {e c} (h:qe1 P e=some c): ∃i z,P.info? e=some i/\i.zero=some z/\z.cells=c:=by
 unfold qe1 at h;split at h
 ·rename_i i a;split at h
  ·rename_i z b;exact ⟨i,z,a,b,by simpa using h⟩
  ·cases h
 ·cases h
def WR.alloc {dst:Option Tmp} {e:TypeId} (hd:yt7 ops k n F=some (dst,e)) (c:Array Value) (hc:qe1 P e=some c)
  (K: ∀g w',New w w' g c e->WR P ops Q (k+1) n ds (upd F dst (.pointer (some ⟨g,0,none⟩))) w'):WR P ops Q k n ds F w:=by
 unfold yt7 at hd;split at hd
 ·rename_i d e' ty pos af gd hdec;simp only [X0,X7] at hd;obtain ⟨rfl,rfl⟩:=hd;obtain ⟨i,z,hi,hz,rfl⟩:=jc5 hc;refine .val hdec (v:=.pointer (some ⟨w.heap.size,0,none⟩)) (w':=w.alloc (.cells z.cells e')) ?_ (K _ _ (New.alloc w _ _));simp [execOp,Instr.alloc,zeroValue,typeInfo,hi,hz,newVar,newRow]
 ·cases hd
def zo4 (ops:Array Oper) (k n:Nat) (F:PF):Option (Option Tmp×TypeId×Value):=
 match dec ops k n F with|some ⟨dst,.load t x,_,_,_,_⟩=>some (dst,t,evD F x)|_=>none
def zj3 {dst t p} (a:zo4 ops k n F=some (dst,t,p)): ∃o,dec ops k n F=some o/\o.dst=dst/\
  execOp (evD F) o=(do pure (.value (<-Instr.loadAt t p)):Sem Next):=by
 unfold zo4 at a;split at a
 ·rename_i d e x ty c f g b;simp only [X0,X7] at a;obtain ⟨rfl,rfl,rfl⟩:=a;exact ⟨_,b,rfl,rfl⟩
 ·cases a
def WR.load {dst:Option Tmp} {t:TypeId} {g o:Nat} {c:Array Value} {e:TypeId} (hb:Blk w g c e) (hd:zo4 ops k n F=some (dst,t,.pointer (some ⟨g,o,none⟩))) (v:Value) (hv:ldv P t c o=some v)
  (K:WR P ops Q (k+1) n ds (upd F dst v) w):WR P ops Q k n ds F w:=by
 obtain ⟨op,hdec,rfl,he⟩:=zj3 hd;refine .val hdec (v:=v) (w':=w) ?_ K;rw [he];simp [Instr.loadAt,Instr.sureAddr,zt3 hb hv]
def WR.load1 {dst:Option Tmp} {t:TypeId} {a:Addr} (hd:zo4 ops k n F=some (dst,t,.pointer (some a))) (hs:zj9 P t=true) (v:Value) (hv:w.cell? a=some v)
  (K:WR P ops Q (k+1) n ds (upd F dst v) w):WR P ops Q k n ds F w:=by
 obtain ⟨op,hdec,rfl,he⟩:=zj3 hd;refine .val hdec (v:=v) (w':=w) ?_ K;rw [he];simp [Instr.loadAt,Instr.sureAddr,zf9 hs hv]
def zy5 (ops:Array Oper) (k n:Nat) (F:PF):Option (TypeId×Value×Value):=
 match dec ops k n F with|some ⟨none,.store t a x,_,_,_,_⟩=>some (t,evD F a,evD F x)|_=>none
def WR.store {t:TypeId} {g o:Nat} {c:Array Value} {e:TypeId} {v:Value} (hb:Blk w g c e) (hd:zy5 ops k n F=some (t,.pointer (some ⟨g,o,none⟩),v)) (c':Array Value) (hv:stv P t c o v=some c')
  (K: ∀w',Blk w' g c' e->Chg [g] w w'->WR P ops Q (k+1) n ds F w'):WR P ops Q k n ds F w:=by
 unfold zy5 at hd;split at hd
 ·rename_i t' a x ty pos af gd hdec;simp only [X0,X7] at hd;obtain ⟨rfl,ha,rfl⟩:=hd;obtain ⟨w',h1,h2,h3⟩:=yx4 (P:=P) hb hv;refine .skip hdec (w':=w') ?_ (K w' h2 h3);simp [execOp,Instr.storeAt,Instr.sureAddr,ha,h1]
 ·cases hd
def zq2 (ops:Array Oper) (k n:Nat) (F:PF):Option (Option Tmp×TypeId×Value×Value):=
 match dec ops k n F with|some ⟨dst,.indexAddr t x i,_,_,_,_⟩=>some (dst,t,evD F x,evD F i)|_=>none
def zl6 (P:Program) (t:TypeId):Option Nat:=match P.underlying t with|some (.slice e)=>(P.info? e).map (·.size)|_=>none
def WR.index {dst:Option Tmp} {t:TypeId} {ad:Option Addr} {m cap:Nat} {kk:IntKind} {i:Int} {cs:List Value} (hr:Rg w ad cs) (hd:zq2 ops k n F=some (dst,t,.slice ad m cap,.int kk i)) (sz:Nat) (hsz:zl6 P t=some sz)
  (h0:0<=i) (hi:i<m) (hne:cs≠ []) (j:Nat) (hj:j=i.toNat*sz)
  (K:WR P ops Q (k+1) n ds (upd F dst (.pointer (some ⟨bk ad,of ad+j,none⟩))) w):WR P ops Q k n ds F w:=by
 subst hj;unfold zq2 at hd;split at hd
 ·rename_i d t' x ix ty pos af gd hdec;simp only [X0,X7] at hd;obtain ⟨rfl,rfl,hx,hix⟩:=hd;obtain ⟨b,o,rfl⟩: ∃b o,ad=some ⟨b,o,none⟩:=by
   cases cs with
   |nil=>exact absurd rfl hne
   |cons u r=>exact ⟨_,_,(hr 0 u rfl).1⟩
  unfold zl6 at hsz;split at hsz
  ·rename_i e hu;cases hinf:P.info? e with
   |none=>rw [hinf] at hsz;cases hsz
   |some inf=>
    rw [hinf] at hsz;simp only [Z8,X0] at hsz;refine .val hdec (v:=.pointer (some ⟨b,o+i.toNat*sz,none⟩)) (w':=w) ?_ K;have hs:(sizeOf e).run P w=.ok inf.size w:=by simp [sizeOf,typeInfo,hinf]
    have hul:(underlying t').run P w=.ok (.slice e) w:=by simp [underlying,hu]
    have hadd:(⟨b,o,none⟩:Addr).add (i.toNat*inf.size)=⟨b,o+i.toNat*inf.size,none⟩:=by unfold Addr.add;split<;>simp_all
    simp only [execOp,hx,hix];simp [Instr.indexAt,asIntOf,hul,h0,hi,hs,<-hsz,hadd]
  ·cases hsz
 ·cases hd
def Ret (S:List Nat) (w:World) (R:Value->World->Prop):Ending->World->Prop
 | .returned v,w'=>Chg S w w'/\R v w'
 |_,_=>False
def zq9 (w:World) (v:Value):Ending->World->Prop:=Ret [] w fun u _=>u=v
def zu5 (P:Program) (ops:Array Oper) (k n:Nat) (F:PF) (w:World):Option (Option Tmp×Result Next):=
 match dec ops k n F with|some o=>some (o.dst,(execOp (evD F) o).run P w)|none=>none
def zn9 {w dst r} (h:zu5 P ops k n F w=some (dst,r)): ∃o,dec ops k n F=some o/\o.dst=dst/\(execOp (evD F) o).run P w=r:=by
 unfold zu5 at h;split at h
 ·rename_i o a;simp only [X0,X7] at h;exact ⟨o,a,h.1,h.2⟩
 ·cases h
def WR.call {dst f args S R} (c:zu5 P ops k n F w=some (dst,.ok (.enter f args) w)) (d:Calls P f args w (Ret S w R))
  (K: ∀v w',Chg S w w'->R v w'->WR P ops Q (k+1) n ds (upd F dst v) w'):WR P ops Q k n ds F w:=by
 obtain ⟨o,e,rfl,a⟩:=zn9 c;exact .enter e a d (fun v w' b=>K v w' b.1 b.2) (fun _ _ h=>h.elim) (fun _ h=>h.elim)
def WR.valR {dst v w'} (b:zu5 P ops k n F w=some (dst,.ok (.value v) w')) (K:WR P ops Q (k+1) n ds (upd F dst v) w'):WR P ops Q k n ds F w:=by
 obtain ⟨o,c,rfl,a⟩:=zn9 b;exact .val c a K
def WR.eqF {F':PF} (h:F=F') (K:WR P ops Q k n ds F' w):WR P ops Q k n ds F w:=h▸K
def WQ (P:Program) (ops:Array Oper) (C:World->Prop) (Qf:Act->Prop) (k n:Nat) (ds:List Deferred) (F:PF):Prop:=
 ∀a,Fr n ds F a->wpQuiet P ops C Qf (ops.toList.drop k) a
def CW.regionQ {id} (b:P.follows .mixedOrders=true) (c:Region.lexB .any ops=true)
  (h:WQ P ops (fun w'=>Chg [] w w') (fun d=> ∀w',Chg [] w w'->Q .normal d w') 0 n ds F):CW P (.region id ops true) Q n ds F w:=
 fun a e=>wp_region_quiet (C:=fun w'=>Chg [] w w') b c (Chg.drew w) (by simpa using h a e)
variable {C:World->Prop} {Qf:Act->Prop}
def WQ.step {o v} (d:dec ops k n F=some o) (h: ∀w,C w->Oper.quietUpon P C w v ((execOp (evD F) o).run P w))
  (K:WQ P ops C Qf (k+1) n ds (upd F o.dst v)):WQ P ops C Qf k n ds F:=by
 intro a c;obtain ⟨e,b,f,g,i⟩:=zk1 d;rw [zh0 e];unfold wpQuiet;rw [if_pos (i c)];refine ⟨v,fun w j=>?_,K _ (c.upd b v)⟩;unfold Oper.quietAt;rw [jw8 c f g];exact h w j
def WQ.val {dst:Option Tmp} (v:Value) (hr: ∀w,zu5 P ops k n F w=some (dst,.ok (.value v) w)) (K:WQ P ops C Qf (k+1) n ds (upd F dst v)):WQ P ops C Qf k n ds F:=by
 obtain ⟨o,hd,rfl,_⟩:=zn9 (hr default);refine .step hd (fun w _=>?_) K;obtain ⟨o',hd',_,hrun⟩:=zn9 (hr w);rw [hd] at hd';cases hd';rw [hrun];exact ⟨rfl,rfl⟩
def WQ.pass {o} (c:ops[k]?=some o) (d:zy2 ops F o=some false) (e:zi5 n o.dst=true) (K:WQ P ops C Qf (k+1) n ds (upd F o.dst undef)):WQ P ops C Qf k n ds F:=by
 intro a b;rw [zh0 c];unfold wpQuiet;rw [if_neg (by rw [zy3 b d];simp)];exact K _ (b.upd e undef)
def yo5 (ops:Array Oper) (k n:Nat) (F:PF):Option (Option Tmp):=
 match ops[k]? with
 |some o=>(match zy2 ops F o with|some false=>(match zi5 n o.dst with|true=>some o.dst|false=>none)|_=>none)
 |none=>none
def WQ.pass1 {dst} (h:yo5 ops k n F=some dst) (K:WQ P ops C Qf (k+1) n ds (upd F dst undef)):WQ P ops C Qf k n ds F:=by
 unfold yo5 at h;split at h
 ·rename_i o a;split at h
  ·rename_i b;split at h
   ·rename_i c;simp only [X0] at h;subst h;exact .pass a b c K
   ·cases h
  ·cases h
 ·cases h
def WQ.call {dst:Option Tmp} {f:FuncId} {args:Array Value} (v:Value) (hr: ∀w,zu5 P ops k n F w=some (dst,.ok (.enter f args) w)) (hC: ∀w w',C w->Chg [] w w'->C w')
  (hc: ∀w,C w->Calls P f args w (zq9 w v)) (K:WQ P ops C Qf (k+1) n ds (upd F dst v)):WQ P ops C Qf k n ds F:=by
 obtain ⟨o,hd,rfl,_⟩:=zn9 (hr default);refine .step hd (fun w hw=>?_) K;obtain ⟨o',hd',_,hrun⟩:=zn9 (hr w);rw [hd] at hd';cases hd';rw [hrun];refine ⟨rfl,(hc w hw).mono fun e w' h=>?_⟩;cases e with
 |returned u=>obtain ⟨h1,h2⟩:=h;exact ⟨by rw [h2],hC w w' hw h1⟩
 |panicked ch=>exact h.elim
 |outgrown=>exact h.elim
def WQ.load1 {dst:Option Tmp} {t:TypeId} {a:Addr} (hd:zo4 ops k n F=some (dst,t,.pointer (some a))) (hs:zj9 P t=true) (v:Value) (hv: ∀w,C w->w.cell? a=some v)
  (K:WQ P ops C Qf (k+1) n ds (upd F dst v)):WQ P ops C Qf k n ds F:=by
 obtain ⟨op,hdec,rfl,he⟩:=zj3 hd;refine .step hdec (fun w hw=>?_) K;rw [he];simp [Instr.loadAt,Instr.sureAddr,zf9 hs (hv w hw),Oper.quietUpon]
def ye5 {dst:Option Tmp} {t:TypeId} {b o:Nat} {m cap:Nat} {kk:IntKind} {i:Int} {sz:Nat} (hd:zq2 ops k n F=some (dst,t,.slice (some ⟨b,o,none⟩) m cap,.int kk i)) (hsz:zl6 P t=some sz)
  (h0:0<=i) (hi:i<m): ∃op,dec ops k n F=some op/\op.dst=dst/\ ∀w,(execOp (evD F) op).run P w=.ok (.value (.pointer (some ⟨b,o+i.toNat*sz,none⟩))) w:=by
 unfold zq2 at hd;split at hd
 ·rename_i d t' x ix ty pos af gd hdec;simp only [X0,X7] at hd;obtain ⟨rfl,rfl,hx,hix⟩:=hd;unfold zl6 at hsz;split at hsz
  ·rename_i e hu;cases hinf:P.info? e with
   |none=>rw [hinf] at hsz;cases hsz
   |some inf=>
    rw [hinf] at hsz;simp only [Z8,X0] at hsz;refine ⟨_,hdec,rfl,fun w=>?_⟩;have hs:(sizeOf e).run P w=.ok inf.size w:=by simp [sizeOf,typeInfo,hinf]
    have hul:(underlying t').run P w=.ok (.slice e) w:=by simp [underlying,hu]
    have hadd:(⟨b,o,none⟩:Addr).add (i.toNat*inf.size)=⟨b,o+i.toNat*inf.size,none⟩:=by unfold Addr.add;split<;>simp_all
    simp only [execOp,hx,hix];simp [Instr.indexAt,asIntOf,hul,h0,hi,hs,<-hsz,hadd]
  ·cases hsz
 ·cases hd
def WQ.index {dst:Option Tmp} {t:TypeId} {ad:Option Addr} {m cap:Nat} {kk:IntKind} {i:Int} {cs:List Value} {w0:World} (hr:Rg w0 ad cs) (hd:zq2 ops k n F=some (dst,t,.slice ad m cap,.int kk i)) (sz:Nat) (hsz:zl6 P t=some sz)
  (h0:0<=i) (hi:i<m) (hne:cs≠ []) (j:Nat) (hj:j=i.toNat*sz)
  (K:WQ P ops C Qf (k+1) n ds (upd F dst (.pointer (some ⟨bk ad,of ad+j,none⟩)))):WQ P ops C Qf k n ds F:=by
 subst hj;obtain ⟨b,o,rfl⟩: ∃b o,ad=some ⟨b,o,none⟩:=by
  cases cs with
  |nil=>exact absurd rfl hne
  |cons u r=>exact ⟨_,_,(hr 0 u rfl).1⟩
 obtain ⟨op,hdec,rfl,hrun⟩:=ye5 hd hsz h0 hi;exact .step hdec (fun w _=>by rw [hrun];exact ⟨rfl,rfl⟩) K
def WQ.keep {F':PF} (l:List Nat) (h:F.keep l=F') (K:WQ P ops C Qf k n ds F'):WQ P ops C Qf k n ds F:=fun a ha=>K a (ha.keep l h)
def WQ.eqF {F':PF} (h:F=F') (K:WQ P ops C Qf k n ds F'):WQ P ops C Qf k n ds F:=h▸K
def WQ.fin (b:Nat.ble ops.size k=true) (K: ∀w',Chg [] w w'-> ∀a,Fr n ds F a->Q .normal a w'):WQ P ops C (fun c=> ∀w',Chg [] w w'->Q .normal c w') k n ds F:=fun a d=>by
 rw [M3 (by simpa using Y1 b)];exact fun w' h=>K w' h a d
end
end Go.V
namespace Go.V
open Go.RowKit
def zb7 (ad:Option Addr):List Nat:=match ad with|some a=> [a.block]|none=> []
def Own.nil0 {w B e sz ad n cap cs} (h:Own w B e sz ad n cap cs) (b:ad=none):n=0/\cap=0:=by
 rcases h.cases with ⟨_,a,d,_⟩|⟨c,a,_⟩
 ·exact ⟨a,d⟩
 ·rw [b] at a;cases a
def Apart (a b:Option Addr):Prop:=a=none\/b=none\/bk a≠bk b
def Apart.symm {a b} (h:Apart a b):Apart b a:=by rcases h with h|h|h;exact .inr (.inl h);exact .inl h;exact .inr (.inr (Ne.symm h))
def Apart.off {a b} (h:Apart a b):bk a∉zb7 b\/a=none:=by
 rcases h with h|h|h
 ·exact .inr h
 ·subst h;exact .inl (by simp [zb7])
 ·left;cases b with
  |none=>simp [zb7]
  |some b=>simpa [zb7,bk] using h
section
variable {P:Program} {ops:Array Oper} {Q:Exit->Act->World->Prop} {k n:Nat} {ds:List Deferred} {F:PF} {w:World}
def zk6 (P:Program) (t:TypeId):Option (TypeId×Nat×Nat×Array Value):=
 match P.underlying t with
 |some (.slice e)=>(match P.info? e with|some i=>(match i.zero with|some z=>(match Nat.beq z.cells.size i.size with|true=>some (e,i.size,i.bytes,z.cells)|false=>none)|none=>none)|none=>none)
 |_=>none
def zb3 {t e:TypeId} {sz by_:Nat} {zc:Array Value} (h:zk6 P t=some (e,sz,by_,zc)):
  ∃i z,P.underlying t=some (.slice e)/\P.info? e=some i/\i.zero=some z/\i.size=sz/\i.bytes=by_/\z.cells=zc/\zc.size=sz:=by
 unfold zk6 at h;split at h
 ·rename_i e' hu;split at h
  ·rename_i i hi;split at h
   ·rename_i z hz;split at h
    ·rename_i hb;simp only [X0,X7] at h;obtain ⟨rfl,rfl,rfl,rfl⟩:=h;exact ⟨i,z,hu,hi,hz,rfl,rfl,rfl,X1 hb⟩
    ·cases h
   ·cases h
  ·cases h
 ·cases h
def yw2 (ops:Array Oper) (k n:Nat) (F:PF):Option (Option Tmp×TypeId×Value×Value):=
 match dec ops k n F with|some ⟨dst,.makeSlice t l c,_,_,_,_⟩=>some (dst,t,evD F l,evD F c)|_=>none
def WR.make {dst:Option Tmp} {t e:TypeId} {kl kc:IntKind} {l c:Int} {sz by_:Nat} {zc:Array Value} (hd:yw2 ops k n F=some (dst,t,.int kl l,.int kc c)) (hi:zk6 P t=some (e,sz,by_,zc)) (m m':Nat) (hm:l=(m:Int)) (hm':c=(m':Int)) (hle:m<=m')
  (hbytes:by_*m'<=281474976710656) (h63:m'<=9223372036854775807)
  (K: ∀g w',New w w' g (madeCells zc (m'*sz)) e->WR P ops Q (k+1) n ds (upd F dst (.slice (some ⟨g,0,none⟩) m m')) w'):WR P ops Q k n ds F w:=by
 subst hm hm';unfold yw2 at hd;split at hd
 ·rename_i d t' lx cx ty pos af gd hdec;simp only [X0,X7] at hd;obtain ⟨rfl,rfl,hl,hc⟩:=hd;obtain ⟨i,z,hu,hin,hz,rfl,rfl,rfl,hzs⟩:=zb3 hi;have hb':(i.bytes:Int)*(m':Int)<=281474976710656:=by
   have h:((i.bytes*m':Nat):Int)<=281474976710656:=by omega
   rwa [Int.natCast_mul] at h
  have hr:=run_make (P:=P) w t' e i z hu hin hz kl kc m m' (by omega) (by omega) hb' (by omega);simp only [Z1] at hr;refine .val hdec (v:=.slice (some ⟨w.heap.size,0,none⟩) m m') (w':=w.alloc (.cells (madeCells z.cells (m'*i.size)) e)) ?_ (K _ _ (New.alloc w _ _));simp [execOp,hl,hc,hr]
 ·cases hd
def Own.made {w w':World} {g:Nat} {zc:Array Value} {e:TypeId} {sz m m':Nat} (h:New w w' g (madeCells zc (m'*sz)) e) (hle:m<=m') (h63:m'<=9223372036854775807):
  Own w' w.heap.size e sz (some ⟨g,0,none⟩) m m' ((madeCells zc (m'*sz)).toList.take (m*sz)):=by
 refine ⟨?_,.inr ⟨g,m',madeCells zc (m'*sz),rfl,h.fresh,h.blk,hle,by unfold maxLen;omega,by simp [size_madeCells],rfl⟩⟩;have:m*sz<=m'*sz:=Q9 _ hle;rw [Y6,J9,size_madeCells,V6 this]
def ks3 (z:Value) (m m':Nat) (h:m<=m'):(madeCells #[z] (m'*1)).toList.take (m*1)=List.replicate m z:=by
 rw [Nat.mul_one,Nat.mul_one,toList_madeCells_one,List.take_replicate,V6 h]
def jd2 (ops:Array Oper) (k n:Nat) (F:PF):Option (Option Tmp×TypeId×Value×Value):=
 match dec ops k n F with
 |some ⟨dst,.call {callee:=.builtin .append,args:=a,argTypes:=ats},_,_,_,_⟩=>
  (match a.toList,ats.toList with| [s,x],[t,b]=>(match Nat.beq t b with|true=>some (dst,t,evD F s,evD F x)|false=>none)|_,_=>none)
 |_=>none
def ja6 {dst t s x} (h:jd2 ops k n F=some (dst,t,s,x)):
  ∃o,dec ops k n F=some o/\o.dst=dst/\ ∀w,(execOp (evD F) o).run P w=((Builtin.append_ #[t,t] o.type #[s,x]).run P w).andThen fun v w'=>.ok (.value v) w':=by
 unfold jd2 at h;split at h
 ·rename_i d a b ty i r u c;split at h
  ·rename_i j l g y m e;split at h
   ·rename_i p;have:=X1 p;subst this;simp only [X0,X7] at h;obtain ⟨rfl,rfl,rfl,rfl⟩:=h;refine ⟨_,c,rfl,fun w=>?_⟩;have q:a= #[j,l]:=by rw [<-Array.toArray_toList (xs:=a),m]
    have f:b= #[g,g]:=by rw [<-Array.toArray_toList (xs:=b),e]
    subst q f;simp [execOp,resolve,invoke,builtin]
   ·cases h
  ·cases h
 ·cases h
def WR.append {dst:Option Tmp} {t e:TypeId} {sz by_:Nat} {zc:Array Value} {B:Nat} {ad xd:Option Addr} {m cap xm xcap:Nat} {cs news:List Value} (ho:Own w B e sz ad m cap cs) (hx:Rg w xd news)
  (hd:jd2 ops k n F=some (dst,t,.slice ad m cap,.slice xd xm xcap)) (hi:zk6 P t=some (e,sz,by_,zc)) (hl:news.length=xm*sz) (hsz:0<sz) (h1: ∀u∈news,u.oneCell'=true) (hB:B<=w.heap.size)
  (h63:m+xm<=9223372036854775807) (hby:(m+xm)*by_<=140737488355328) (hnil:xd=none->xm=0/\xcap=0)
  (K: ∀ad' cap' w',Own w' B e sz ad' (m+xm) cap' (cs++news)->Chg (zb7 ad) w w'->(ad'=ad\/w.heap.size<=bk ad')->WR P ops Q (k+1) n ds (upd F dst (.slice ad' (m+xm) cap')) w'):WR P ops Q k n ds F w:=by
 obtain ⟨o,hdec,rfl,hrun⟩:=ja6 hd;obtain ⟨i,z,hu,hin,hz,rfl,rfl,rfl,hzs⟩:=zb3 hi;have hmc:=ho.le;have addE: ∀(b off j:Nat),(⟨b,off,none⟩:Addr).add j=⟨b,off+j,none⟩:=fun b off j=>by unfold Addr.add;split<;>simp_all
 by_cases hx0:xm=0
 ·
  subst hx0;have hn:news= []:=T9 (by simpa using hl);subst hn;have hr:(Builtin.append_ #[t,t] o.type #[.slice ad m cap,.slice xd 0 xcap]).run P w=.ok (.slice ad m cap) w:=by
   cases ad with
   |none=>
    cases xd with
    |none=>simp [Builtin.append_,run_underlying hu,sizeOf,typeInfo,hin,Builtin.lenOf,Builtin.firstCells,hmc.1]
    |some a=>simp [Builtin.append_,run_underlying hu,sizeOf,typeInfo,hin,Builtin.lenOf,Builtin.firstCells,loadCells,loadCellsFrom,hmc.1]
   |some g=>
    cases xd with
    |none=>simp [Builtin.append_,run_underlying hu,sizeOf,typeInfo,hin,Builtin.lenOf,Builtin.firstCells,storeCells,hmc.1]
    |some a=>simp [Builtin.append_,run_underlying hu,sizeOf,typeInfo,hin,Builtin.lenOf,Builtin.firstCells,loadCells,loadCellsFrom,storeCells,hmc.1]
  exact .val hdec (v:=.slice ad (m+0) cap) (w':=w) (by rw [hrun,hr];rfl) (K ad cap w (by simpa using ho) (Chg.refl _ _) (.inl rfl))
 ·have hxm:0<xm:=by omega
  have hne:news≠ []:=by
   intro e;rw [e] at hl;have:=Nat.mul_pos hxm hsz;simp at hl;omega
  obtain ⟨b,off,rfl⟩: ∃b off,xd=some ⟨b,off,none⟩:=by
   cases news with
   |nil=>exact absurd rfl hne
   |cons u r=>exact ⟨_,_,(hx 0 u rfl).1⟩
  have hnews: ∀j v,news[j]?=some v->w.cell? ((⟨b,off,none⟩:Addr).add j)=some v:=fun j v hj=>by rw [addE];exact (hx j v hj).2
  have hlen:(cs++news).length=(m+xm)*i.size:=by rw [X9,ho.len,hl,V8]
  have grown: ∀(old:Nat),Own (w.drew.alloc (.cells (cs.toArray++news.toArray++Builtin.zeroCells z.cells (grownCap w (m+xm) old e-(m+xm))) e)) B e i.size (some ⟨w.heap.size,0,none⟩) (m+xm) (grownCap w (m+xm) old e) (cs++news):=by
   intro old;have hge:=grownCap_ge w (m+xm) old e;have hcm:grownCap w (m+xm) old e<=maxLen:=grownCap_le_maxLen w (m+xm) old e (by unfold maxLen;omega);refine ⟨hlen,.inr ⟨w.heap.size,_,_,rfl,hB,heap_alloc_new w.drew _,hge,hcm,?_,?_⟩⟩
   ·have hs:cs.length+news.length=(m+xm)*i.size:=by rw [<-List.length_append];exact hlen
    have:(m+xm)*i.size+(grownCap w (m+xm) old e-(m+xm))*i.size=grownCap w (m+xm) old e*i.size:=by rw [<-Nat.add_mul];congr 1;omega
    simp only [Array.size_append,R5,size_zeroCells,hzs];omega
   ·simp only [Array.toList_append,Q2];rw [<-List.append_assoc,<-hlen];exact R3
  have hgc: ∀(old:Nat) (S:List Nat),Chg S w (w.drew.alloc (.cells (cs.toArray++news.toArray++Builtin.zeroCells z.cells (grownCap w (m+xm) old e-(m+xm))) e)):=
   fun old S=>⟨rfl,rfl,rfl,by simp,fun k hk _=>Below.heap_alloc w.drew _ k hk⟩
  rcases ho.cases with ⟨rfl,rfl,rfl,rfl⟩|⟨c',had,hBb,hbl,hmc',hcm',hcs,htk⟩
  ·have hr:=run_append_nil (P:=P) w t o.type e i z hu hin hz ⟨b,off,none⟩ xm xcap news hl hnews (by omega) (by omega) (by have hb:=hby;simp only [U0] at hb;omega);have hg:=grown 0;have hc:=hgc 0 (zb7 none);simp only [U0,M2,Array.empty_append] at hg hc hr;refine .val hdec (v:=.slice (some ⟨w.heap.size,0,none⟩) (0+xm) (grownCap w xm 0 e)) (by rw [hrun,hr,U0];rfl) (K _ _ _ (by simpa using hg) hc (.inr (W8 _)))
  ·obtain ⟨g,rfl⟩: ∃g,ad=some ⟨g,0,none⟩:=⟨_,had⟩;by_cases hroom:m+xm<=cap
   ·have hfit:m*i.size+news.length<=c'.size:=by rw [hl,<-Nat.add_mul];exact W9 (Q9 _ hroom) hcs
    have hr:=run_append_room (P:=P) w t o.type e i hu hin g m cap c' hbl ⟨b,off,none⟩ xm xcap news hl hnews h1 hroom hfit;refine .val hdec (v:=.slice (some ⟨g,0,none⟩) (m+xm) cap) (by rw [hrun,hr];rfl) (K (some ⟨g,0,none⟩) cap _ ?_ ?_ (.inl rfl))
    ·refine ⟨hlen,.inr ⟨g,cap,_,rfl,hBb,setRow_heap w g c' _ e _ hbl,hroom,hcm',?_,?_⟩⟩
     ·simp only [R5,X9,Y6,Q7,J9];omega
     ·rw [htk,<-hlen];exact R3
    ·exact ⟨rfl,rfl,rfl,by simp,fun k _ hk=>setRow_other w g k _ (fun e=>hk (by simp [zb7,e]))⟩
   ·have holds: ∀j v,cs[j]?=some v->w.cell? ((⟨g,0,none⟩:Addr).add j)=some v:=fun j v hj=>by rw [addE];exact (ho.rg j v hj).2
    have hr:=run_append_grow (P:=P) w t o.type e i z hu hin hz ⟨g,0,none⟩ m cap cs ho.len holds ⟨b,off,none⟩ xm xcap news hl hnews (by omega) (by omega) (growslice_fits (by omega) hby);exact .val hdec (v:=.slice (some ⟨w.heap.size,0,none⟩) (m+xm) (grownCap w (m+xm) cap e)) (by rw [hrun,hr];rfl) (K _ _ _ (grown cap) (hgc cap _) (.inr (W8 _)))
def zw8 (P:Program) (t:TypeId) (len:Nat) (parts:List (Nat×Value)):Option (TypeId×Array Value):=
 match P.underlying t with
 |some (.slice e)=>(match P.info? e with
  |some i=>(match Nat.ble (len*i.size) 16777216 with
   |true=>(match (match Nat.beq (len*i.size) 0 with|true=>some #[]|false=>(match i.zero with|some z=>some z.cells|none=>none)) with
    |some zero=>(match Instr.fill (fun j=>some (j*i.size,i.size)) ((Array.range (len*i.size)).map (zero[· %zero.size]!)) parts with|some cells=>some (e,cells)|none=>none)
    |none=>none)
   |false=>none)
  |none=>none)
 |_=>none
def vn6 (P:Program) (ops:Array Oper) (k n:Nat) (F:PF):Option (Option Tmp×Nat×TypeId×Array Value):=
 match dec ops k n F with
 |some ⟨dst,.buildSlice t b a,_,_,_,_⟩=>(match zw8 P t b (a.map fun (i,x)=>(i,evD F x)).toList with|some (e,c)=>some (dst,b,e,c)|none=>none)
 |_=>none
def WR.bslice {dst:Option Tmp} {len:Nat} {e:TypeId} (c:Array Value) (hd:vn6 P ops k n F=some (dst,len,e,c))
  (K: ∀g w',New w w' g c e->WR P ops Q (k+1) n ds (upd F dst (.slice (some ⟨g,0,none⟩) len len)) w'):WR P ops Q k n ds F w:=by
 unfold vn6 at hd;split at hd
 ·rename_i d t l parts ty pos af gd hdec;split at hd
  ·rename_i e' c' hb;simp only [X0,X7] at hd;obtain ⟨rfl,rfl,rfl,rfl⟩:=hd;refine .val hdec (v:=.slice (some ⟨w.heap.size,0,none⟩) l l) (w':=w.alloc (.cells c' e')) ?_ (K _ _ (New.alloc w _ _));unfold zw8 at hb;split at hb
   ·rename_i e1 hu;split at hb
    ·rename_i i hi;split at hb
     ·rename_i hle;have hle':=Y1 hle;split at hb
      ·rename_i zero hz;split at hb
       ·rename_i cells hfill;simp only [X0,X7] at hb;obtain ⟨rfl,rfl⟩:=hb;have hs:(sizeOf e1).run P w=.ok i.size w:=by simp [sizeOf,typeInfo,hi]
        have hn: ¬(16777216<l*i.size):=by omega
        have hul:(underlying t).run P w=.ok (.slice e1) w:=by simp [underlying,hu]
        simp only [execOp,Instr.buildSlice,Sem.run_bind,hul,Result.andThen_ok,hs];simp only [Nat.reducePow,gt_iff_lt,hn,if_false];by_cases h0:l*i.size=0
        ·have hz0:zero= #[]:=by
          split at hz
          ·simpa using hz.symm
          ·rename_i hb0;simp [h0] at hb0
         subst hz0;simp only [h0,if_true,Sem.run_bind,Sem.run_pure,Result.andThen_ok] at hfill⊢;simp only [hfill];simp [newRow]
        ·obtain ⟨z,hzz,hzc⟩: ∃z,i.zero=some z/\z.cells=zero:=by
          split at hz
          ·rename_i hb0;exact absurd (X1 hb0) h0
          ·split at hz
           ·rename_i z hzz;exact ⟨z,hzz,by simpa using hz⟩
           ·cases hz
         have hzv:(zeroValue e1).run P w=.ok z w:=by simp [zeroValue,typeInfo,hi,hzz]
         subst hzc;simp only [h0,if_false,Sem.run_bind,Sem.run_pure,hzv,Result.andThen_ok];simp only [hfill];simp [newRow]
       ·cases hb
      ·cases hb
     ·cases hb
    ·cases hb
   ·cases hb
  ·cases hd
 ·cases hd
def zm8 (ops:Array Oper) (k n:Nat) (F:PF):Option (Option Tmp×TypeId×Value×Option Value×Option Value):=
 match dec ops k n F with|some ⟨dst,.slice t x a b none,_,_,_,_⟩=>some (dst,t,evD F x,a.map (evD F),b.map (evD F))|_=>none
def zj8 {dst:Option Tmp} {t:TypeId} {x:Value} {lo hi:Option Value} (h:zm8 ops k n F=some (dst,t,x,lo,hi)):
  ∃o,dec ops k n F=some o/\o.dst=dst/\execOp (evD F) o=(do pure (.value (<-Instr.sliceAt t x lo hi none)):Sem Next):=by
 unfold zm8 at h;split at h
 ·rename_i d t' x' l' h' ty pos af gd hdec;simp only [X0,X7] at h;obtain ⟨rfl,rfl,rfl,rfl,rfl⟩:=h;exact ⟨_,hdec,rfl,rfl⟩
 ·cases h
def zl1 {t e} (h:P.underlying t=some (.slice e)):P.underlying t=some (.slice (P.elem t)):=by
 have:P.elem t=e:=by simp [Program.elem,h]
 rw [this];exact h
def WR.sliceL {dst:Option Tmp} {t e:TypeId} {ad:Option Addr} {m cap:Nat} {kl:IntKind} {l:Int} {sz by_:Nat} {zc:Array Value} (hd:zm8 ops k n F=some (dst,t,.slice ad m cap,some (.int kl l),none)) (hi:zk6 P t=some (e,sz,by_,zc)) (i:Nat) (hl:l=(i:Int)) (hle:i<=m)
  (K: ∀ad',(ad'=if cap=i then ad else ad.map (·.add (i*sz)))->WR P ops Q (k+1) n ds (upd F dst (.slice ad' (m-i) (cap-i))) w):WR P ops Q k n ds F w:=by
 subst hl;obtain ⟨o,hdec,rfl,he⟩:=zj8 hd;obtain ⟨inf,z,hu,hin,_,hsz,_⟩:=zb3 hi;have hel:P.elem t=e:=by simp [Program.elem,hu]
 refine .val hdec (v:=.slice (if cap=i then ad else ad.map (·.add (i*sz))) (m-i) (cap-i)) (w':=w) ?_ (K _ rfl);have hs:(sizeOf e).run P w=.ok sz w:=by simp [sizeOf,typeInfo,hin,hsz]
 rw [he,Sem.run_bind,run_sliceAt_slice w t _ _ _ _ (zl1 hu),run_slice_l w t ad m cap (zl1 hu) kl i (by omega) (by omega),hel,hs];simp only [Result.andThen_ok,sliced,Z1];rfl
def yv5 (P:Program) (t:TypeId):Option Nat:=(P.info? t).map (·.size)
def yx3 {t g o c e v} (i:Blk w g c e) (b:yv5 P t=some 1) (j:v.oneCell'=true) (d:v.cells= #[v]) (l:o<c.size):
  (storeVar t ⟨g,o,none⟩ v).run P w=.ok () (w.setCell ⟨g,o,none⟩ v):=by
 have f:(sizeOf t).run P w=.ok 1 w:=by
  unfold yv5 at b;cases hin:P.info? t with
  |none=>rw [hin] at b;cases b
  |some m=>rw [hin] at b;simp at b;simp [sizeOf,typeInfo,hin,b]
 have a:w.cell? ⟨g,o,none⟩=some c[o]:=by rw [cell_of_row w g o c e (0,0) i,Z6 l]
 have h:=run_store P w ⟨g,o,none⟩ v .plain j;unfold storeVar;simp only [d,Sem.run_bind,f,Result.andThen_ok];simp only [R5,U7,R2,U0,ne_eq,not_true_eq_false,if_false];simp only [storeCells,Sem.run_bind,Addr.add,if_true];rw [h];simp [a,frozen_of_row w g o c e i]
def WR.storeB {t g o c e v} (h:Blk w g c e) (b:zy5 ops k n F=some (t,.pointer (some ⟨g,o,none⟩),v)) (i:yv5 P t=some 1) (j:v.oneCell'=true) (f:v.cells= #[v]) (l:o<c.size)
  (K: ∀w',Blk w' g (c.setIfInBounds o v) e->Chg [g] w w'->WR P ops Q (k+1) n ds F w'):WR P ops Q k n ds F w:=by
 unfold zy5 at b;split at b
 ·rename_i r a x ty m s u d;simp only [X0,X7] at b;obtain ⟨rfl,p,rfl⟩:=b;refine .skip d (w':=w.setCell ⟨g,o,none⟩ (evD F x)) ?_ (K _ (heap_setCell_same w g o c e _ h) ⟨rfl,rfl,rfl,by simp,fun k _ q=>heap_setCell_other w _ k _ (by simpa using q)⟩);simp [execOp,Instr.storeAt,Instr.sureAddr,p,yx3 h i j f l]
 ·cases b
def WR.storeE {t B e ad m cap cs j v} (o:Own w B e 1 ad m cap cs) (p:zy5 ops k n F=some (t,.pointer (some ⟨bk ad,of ad+j,none⟩),v)) (r:yv5 P t=some 1) (s:v.oneCell'=true) (a:v.cells= #[v]) (y:j<m)
  (K: ∀w',Own w' B e 1 ad m cap (cs.set j v)->Chg (zb7 ad) w w'->WR P ops Q (k+1) n ds F w'):WR P ops Q k n ds F w:=by
 rcases o.cases with ⟨_,z,_⟩|⟨c,b,u,q,d,f,h,i⟩
 ·omega
 ·obtain ⟨g,rfl⟩: ∃g,ad=some ⟨g,0,none⟩:=⟨_,b⟩;simp only [bk,of,U0] at p q;refine .storeB q p r s a (by omega) fun w' l x=>K w' ?_ x;refine ⟨by simpa using o.1,.inr ⟨g,cap,_,rfl,u,l,d,f,by simpa using h,?_⟩⟩;rw [A1,<-i,List.take_set]
def qj8: ∀(vs:List Value) (o:Nat) (c:Array Value),o+vs.length<=c.size->(ya6 c o vs).toList=c.toList.take o++vs++c.toList.drop (o+vs.length)
 | [],o,c,_=>by simp [ya6]
 |v::r,o,c,h=>by
  simp only [U7] at h;unfold ya6;rw [qj8 r (o+1) _ (by simp;omega)];simp only [A1,U7];have hlt:o<c.toList.length:=by simp;omega
  rw [List.take_set,List.drop_set_of_lt (by omega),A2 hlt];rw [show o+1+r.length=o+(r.length+1) by omega];have hlen:(c.toList.take o).length=o:=by rw [Y6];omega
  have:(c.toList.take o++ [c.toList[o]]).set o v=c.toList.take o++ [v]:=by
   rw [List.set_append_right _ _ (by omega),hlen,N4];rfl
  rw [this];simp
def Blk.rg {w:World} {g:Nat} {c:Array Value} {e:TypeId} (h:Blk w g c e) (cs:List Value) (hcs:c.toList=cs):Rg w (some ⟨g,0,none⟩) cs:=
 Rg.blk h cs fun j u hu=>by rw [<-hcs] at hu;simpa using hu
def Own.ofBlk {w:World} {g:Nat} {c:Array Value} {e B n cap sz:Nat} (h:Blk w g c e) (hB:B<=g) (hn:n<=cap) (hm:cap<=9223372036854775807) (hc:cap*sz<=c.size) (cs:List Value) (hcs:c.toList.take (n*sz)=cs):Own w B e sz (some ⟨g,0,none⟩) n cap cs:=by
 subst hcs;refine ⟨?_,.inr ⟨g,cap,c,rfl,hB,h,hn,by unfold maxLen;omega,hc,rfl⟩⟩;have:n*sz<=cap*sz:=Q9 _ hn;rw [Y6,J9,V6 (W9 this hc)]
end
end Go.V
namespace Go.V
open Go.RowKit
section
variable {P:Program} {ops:Array Oper} {Q:Exit->Act->World->Prop} {k n:Nat} {ds:List Deferred} {F:PF} {w:World}
end
end Go.V
namespace Go.V
open Go.RowKit
section
variable {P:Program} {ops:Array Oper} {Q:Exit->Act->World->Prop} {n:Nat} {ds:List Deferred} {F:PF} {w:World}
def WR.pass1 {k dst} (h:yo5 ops k n F=some dst) (K:WR P ops Q (k+1) n ds (upd F dst undef) w):WR P ops Q k n ds F w:=by
 unfold yo5 at h;split at h
 ·rename_i o c;split at h
  ·rename_i d;split at h
   ·rename_i e;simp only [X0] at h;subst h;intro a b;rw [zh0 c];unfold wpList;rw [if_neg (by rw [zy3 b d];simp)];exact K _ (b.upd e undef)
   ·cases h
  ·cases h
 ·cases h
def zg1 (ops:Array Oper) (i:Nat):List Nat:=match ops[i]? with|some o=>(o.after.toList.filter fun e=>Region.binds .any e).map (·.on)|none=> []
def kv1 (a:List Nat):List Nat->List Nat| []=>a|x::r=>kv1 (match a.contains x with|true=>a|false=>x::a) r
def yp4 (ops:Array Oper):Nat->List (List Nat)
 |0=> []
 |n+1=>yp4 ops n++ [kv1 [] (zg1 ops n++(zg1 ops n).flatMap fun k=>(yp4 ops n).getD k [])]
def qv8 (ops:Array Oper) (m:Nat):Bool:=(List.range' m (ops.size-m)).all fun j=>(List.range j).all fun i=>((yp4 ops ops.size).getD j []).contains i
def zp5 (ops:Array Oper) (u:Nat->Value):Nat->Nat->PF
 |_,0=> []
 |i,m+1=>match (ops[i]?).bind (·.dst) with|some d=>(d,u i)::zp5 ops u (i+1) m|none=>zp5 ops u (i+1) m
def yo0 (ops:Array Oper) (m:Nat):List Nat:=(List.range m).filterMap fun i=>(ops[i]?).bind (·.dst)
def zf6:List Nat->Bool| []=>true|a::r=> !r.contains a&&zf6 r
def zl8 (ops:Array Oper):Bool:=(List.range ops.size).all fun i=>(zg1 ops i).all fun j=>Nat.blt j i
def zh8 (ops:Array Oper) (m:Nat):Bool:=(List.range m).all fun i=>match ops[i]? with|some o=>(match o.guard with|some (g,_)=>Nat.blt g i|none=>true)|none=>true
def zt9 {u:Nat->Value} {s:Nat} {x:Value}: ∀(m i:Nat),(zp5 ops u i m).get s=some x-> ∃j,i<=j/\j<i+m/\(ops[j]?).bind (·.dst)=some s/\x=u j
 |0,i,h=>by simp [zp5,PF.get] at h
 |m+1,i,h=>by
  unfold zp5 at h;split at h
  ·rename_i d hd;simp only [PF.get] at h;split at h
   ·rename_i hb;have:=X1 hb;subst this;exact ⟨i,W8 _,by omega,hd,by simpa using h.symm⟩
   ·obtain ⟨j,h1,h2,h3⟩:=zt9 m (i+1) h;exact ⟨j,by omega,by omega,h3⟩
  ·obtain ⟨j,h1,h2,h3⟩:=zt9 m (i+1) h;exact ⟨j,by omega,by omega,h3⟩
def zx2 (A B:PF) (s:Nat):(A++B).get s=match A.get s with|some v=>some v|none=>PF.get B s:=by
 induction A with
 |nil=>simp [PF.get]
 |cons p r ih=>
  obtain ⟨j,v⟩:=p;simp only [N1,PF.get];split<;>simp_all
def Nd (Q:Exit->Act->World->Prop) (n:Nat) (ds:List Deferred) (S:List Nat) (F:PF) (dst:Option Tmp) (w:World) (R:Value->World->Prop):Exit->Act->World->Prop
 | .normal,a,w'=>Chg S w w'/\ ∃v,Fr n ds (upd F dst v) a/\R v w'
 |e,a,w'=>Q e a w'
def zf1 (ops:Array Oper) (i:Nat):Option Tmp:=(ops[i]?).bind (·.dst)
inductive Tp (ops:Array Oper):Nat->Nat->Prop
 |one {i j:Nat} (h:(zg1 ops i).contains j=true):Tp ops i j
 |step {i k j:Nat} (h:(zg1 ops i).contains k=true) (t:Tp ops k j):Tp ops i j
def Tp.done {a:Array Bool} (b: ∀j i,a.getD j false=true->(zg1 ops j).contains i=true->a.getD i false=true) {i j} (t:Tp ops i j) (c:a.getD i false=true):a.getD j false=true:=by
 induction t with
 |one h=>exact b _ _ c h
 |step h _ d=>exact d (b _ _ c h)
def qp7 {x}: ∀ {l a},x∈kv1 a l->x∈a\/x∈l
 | [],_,h=>.inl h
 |y::r,a,h=>by
  unfold kv1 at h;rcases qp7 h with h|h
  ·split at h
   ·exact .inl h
   ·rcases Z0.1 h with rfl|h
    ·exact .inr (U3 ..)
    ·exact .inl h
  ·exact .inr (Z4 _ h)
def yj2 (ops): ∀n,(yp4 ops n).length=n
 |0=>rfl
 |n+1=>by rw [yp4,X9,yj2 ops n];rfl
def zp0: ∀(n j i:Nat),i∈(yp4 ops n).getD j []->Tp ops j i
 |0,j,i,h=>by simp [yp4] at h
 |n+1,j,i,h=>by
  rw [yp4,Y2] at h;rcases M1 j n with hj|rfl|hj
  ·rw [X8 (by rw [yj2];exact hj),<-List.getD_eq_getElem?_getD] at h;exact zp0 n j i h
  ·rw [Z2 (by rw [yj2];exact W8 _),yj2,N4] at h;simp only [Y4,V3] at h;rcases qp7 h with h|h
   ·cases h
   ·rcases X4.1 h with h|h
    ·exact .one (by simpa using h)
    ·obtain ⟨k,hk,h⟩:=V7.1 h;exact .step (by simpa using hk) (zp0 j k i h)
  ·rw [Y5 (by simp [yj2];omega)] at h;simp at h
def Tp.lt (c:zl8 ops=true) {i j} (t:Tp ops i j) (d:i<ops.size):j<i:=by
 have one: ∀a b,a<ops.size->(zg1 ops a).contains b=true->b<a:=by
  intro a b e h;unfold zl8 at c;rw [Y8] at c;have:=c a (V0.2 e);rw [Y8] at this;simpa [U8] using this b (by simpa using h)
 induction t with
 |one h=>exact one _ _ d h
 |step h _ f=>have g:=one _ _ d h;have:=f (by omega);omega
def prj:Option Nat->Value->Value
 |none,v=>v
 |some c,.tuple a=>a.getD c undef
 |some _,_=>undef
def cL (a:List (Nat×Nat)) (i:Nat):List Nat:=(a.filter fun p=>p.1==i).map (·.2)
def kw2 {b i}: ∀t∈cL b i,t∈b.map (·.2):=by
 intro t a;unfold cL at a;rw [U2] at a⊢;obtain ⟨p,c,d⟩:=a;exact ⟨p,(W3.1 c).1,d⟩
def Ob (P:Program) (ops:Array Oper) (Q:Exit->Act->World->Prop) (n:Nat) (ds:List Deferred) (m:Nat) (B:PF) (W:World->Prop) (R:Nat->Value->World->Prop) (E:Nat->World->Value->Prop) (a:List (Nat×Nat×Option Nat)) (b:List (Nat×Nat)) (c:Nat->World->Prop) (i:Nat):Prop:=
 ∀(u:Nat->Value) (w:World),W w->(∀j,j=i\/Tp ops j i->c j w)->(∀j,Tp ops i j->R j (u j) w)->(∀p∈a,Tp ops i p.1->u p.1=prj p.2.2 (u p.2.1))->WR P (ops.extract 0 (i+1)) (Nd Q n ds (cL b i) (zp5 ops u 0 m++B) (zf1 ops i) w (fun v w'=>(E i w v/\ ∀p∈a,p.1=i->v=prj p.2.2 (u p.2.1))/\R i v w')) i n ds (zp5 ops u 0 m++B) w
def Obs (P:Program) (ops:Array Oper) (Q:Exit->Act->World->Prop) (n:Nat) (ds:List Deferred) (m:Nat) (B:PF) (W:World->Prop) (R:Nat->Value->World->Prop) (E:Nat->World->Value->Prop) (a:List (Nat×Nat×Option Nat)) (b:List (Nat×Nat)) (c:Nat->World->Prop):Nat->Nat->Prop
 |_,0=>True
 |i,f+1=>Ob P ops Q n ds m B W R E a b c i/\Obs P ops Q n ds m B W R E a b c (i+1) f
def vc9 {m:Nat} {B:PF} {W:World->Prop} {R:Nat->Value->World->Prop} {E:Nat->World->Value->Prop} {AL:List (Nat×Nat×Option Nat)} {CL:List (Nat×Nat)} {Pr:Nat->World->Prop}: ∀(f i:Nat),Obs P ops Q n ds m B W R E AL CL Pr i f-> ∀j,i<=j->j<i+f->Ob P ops Q n ds m B W R E AL CL Pr j
 |0,i,_,j,h1,h2=>by omega
 |f+1,i,h,j,h1,h2=>by
  by_cases hj:j=i
  ·subst hj;exact h.1
  ·exact vc9 f (i+1) h.2 j (by omega) (by omega)
def ja0 {p} (I:Array Bool->Act->World->Prop)
  (step: ∀c a w i,I c a w->i∈Region.ready p ops c->wpOp P ops Q i (I (c.setIfInBounds i true)) a w)
  (k: ∀c a w,I c a w->Region.ready p ops c= []->Q .normal a w):
  ∀(d:Nat) (c:Array Bool) (a:Act) (w:World),(c.size=ops.size/\(c.toList.filter (· ==false)).length<=d)->I c a w->wpAny P p ops Q d c a w
 |0,c,a,w,q,s=>by
  have t:Region.ready p ops c= []:=by
   unfold Region.ready;rw [List.filter_eq_nil_iff];intro i m;have f:i<c.size:=by rw [q.1];simpa using m
   have:c[i]=true:=by
    cases o:c[i] with
    |true=>rfl
    |false=>
     have:c[i]∈c.toList.filter (· ==false):=by
      rw [W3];exact ⟨by simp,by simp [o]⟩
     have z:=List.length_pos_of_mem this;omega
   simp [this,f]
  exact ⟨t,k c a w s t⟩
 |d+1,c,a,w,q,s=>by
  refine ⟨fun t=>k c a w s t,fun i m=>wpOp_mono (fun x w' u=>ja0 I step k d _ x w' ?_ u) (step c a w i s m)⟩;have j:i<ops.size/\c.getD i true=false:=by
   unfold Region.ready at m;rw [W3] at m;refine ⟨by simpa using m.1,?_⟩;have:=m.2;rw [X3] at this;simpa using this.1
  refine ⟨by simpa using q.1,?_⟩;have f:i<c.size:=by rw [q.1];exact j.1
  have g:c[i]=false:=by
   have:=j.2;simpa [f] using this
  have v: ∀(l:List Bool) (i:Nat) (h:i<l.length),l[i]=false->((l.set i true).filter (· ==false)).length+1=(l.filter (· ==false)).length:=by
   intro l;induction l with
   |nil=>intro i h;simp at h
   |cons b r y=>
    intro i h o;cases i with
    |zero=>simp at o;subst o;simp
    |succ i=>
     have:=y i (by simpa using h) (by simpa using o);cases b<;>simp_all<;>omega
  have:=v c.toList i (by simpa using f) (by simpa using g);have e:(c.setIfInBounds i true).toList=c.toList.set i true:=by simp
  rw [e];omega
def CW.regionN {id} (m:Nat) (CL:List (Nat×Nat)) (Pr:Nat->World->Prop) (hPr0: ∀j,Pr j {w with drawn:=w.drawn+1}) (hPr: ∀i j w w',i≠j->Pr j w->Chg (cL CL i) w w'->Pr j w') (W:World->Prop) (R:Nat->Value->World->Prop) (E:Nat->World->Value->Prop) (AL:List (Nat×Nat×Option Nat)) (hAL:(AL.all fun p=>(zg1 ops p.1).contains p.2.1)=true) (D:Nat->Nat->Value->Value->Prop) (hD: ∀i j wq wq' v x,i≠j->E i wq v->R i v wq'->R j x wq->D i j v x/\D j i x v) (hm:P.follows .mixedOrders=true) (X:(Nat.ble m ops.size&&(qv8 ops m&&(zf6 (yo0 ops m)&&(zl8 ops&&zh8 ops m))))=true)
  (hd:(yo0 ops m).all (fun d=>Nat.blt d n)=true) (hW0:W {w with drawn:=w.drawn+1}) (hW: ∀i w w',W w->Chg (cL CL i) w w'->W w') (hR: ∀i j v w w',i≠j->R j v w->Chg (cL CL i) w w'->R j v w')
  (ob:Obs P ops Q n ds m F W R E AL CL Pr 0 m)
  (K: ∀u w,W w->(∀j,j<m->R j (u j) w)->(∀j k,j<m->k<m->j≠k->D j k (u j) (u k))->(∀p∈AL,p.1<m->u p.1=prj p.2.2 (u p.2.1))->WR P ops Q m n ds (zp5 ops u 0 m++F) w):CW P (.region id ops true) Q n ds F w:=by
 intro a ha;simp only [X3] at X;obtain ⟨hmle,X,hdis,U,hgb⟩:=X;have hmle:=Y1 hmle;have hdn: ∀i d,i<m->(ops[i]?).bind (·.dst)=some d->d<n:=by
  intro i d hi hb;rw [Y8] at hd;have:=hd d (by unfold yo0;rw [T6];exact ⟨i,V0.2 hi,hb⟩);simpa [U8] using this
 have huniq: ∀i j d,i<m->j<m->(ops[i]?).bind (·.dst)=some d->(ops[j]?).bind (·.dst)=some d->i=j:=by
  have key: ∀(l:List Nat),zf6 (l.filterMap fun i=>(ops[i]?).bind (·.dst))=true->l.Nodup-> ∀i j d,i∈l->j∈l->(ops[i]?).bind (·.dst)=some d->(ops[j]?).bind (·.dst)=some d->i=j:=by
   intro l;induction l with
   |nil=>intro _ _ i j d hi;simp at hi
   |cons x r ih=>
    intro Z hn i j d hi f B q;rw [List.nodup_cons] at hn;have hmem: ∀y e,y∈r->(ops[y]?).bind (·.dst)=some e->e∈r.filterMap fun i=>(ops[i]?).bind (·.dst):=fun y e hy he=>T6.2 ⟨y,hy,he⟩;have N:zf6 (r.filterMap fun i=>(ops[i]?).bind (·.dst))=true:=by
     rw [List.filterMap_cons] at Z;split at Z
     ·exact Z
     ·simp only [zf6,X3] at Z;exact Z.2
    have hfirst: ∀e,(ops[x]?).bind (·.dst)=some e->e∉r.filterMap fun i=>(ops[i]?).bind (·.dst):=by
     intro e hx hm;rw [List.filterMap_cons] at Z;split at Z
     ·rename_i hn0;rw [hx] at hn0;cases hn0
     ·rename_i e' he';rw [hx] at he';cases he';simp only [zf6,X3,U9,R4,decide_eq_false_iff_not] at Z;exact Z.1 hm
    rcases Z0.1 hi with rfl|hi'
    ·rcases Z0.1 f with rfl|hj'
     ·rfl
     ·exact absurd (hmem j d hj' q) (hfirst d B)
    ·rcases Z0.1 f with rfl|hj'
     ·exact absurd (hmem i d hi' B) (hfirst d q)
     ·exact ih N hn.2 i j d hi' hj' B q
  intro i j d hi f;exact key (List.range m) hdis List.nodup_range i j d (V0.2 hi) (V0.2 f)
 let I:Array Bool->Act->World->Prop:=fun c a w=>c.size=ops.size/\
  (((∀j,m<=j->c.getD j true=false\/ops.size<=j)/\W w/\ ∃u,Fr n ds (zp5 ops u 0 m++F) a/\(∀j,j<m->c.getD j false=true->R j (u j) w)/\(∀j k,j<m->k<m->j≠k->c.getD j false=true->c.getD k false=true->D j k (u j) (u k))/\(∀p∈AL,p.1<m->c.getD p.1 false=true->c.getD p.2.1 false=true/\u p.1=prj p.2.2 (u p.2.1))/\(∀j i,c.getD j false=true->(zg1 ops j).contains i=true->c.getD i false=true)/\(∀j,c.getD j false=false->Pr j w))\/
   (∃k,m<k/\k<=ops.size/\(∀j,j<k->c.getD j false=true)/\(∀j,k<=j->c.getD j true=false\/ops.size<=j)/\wpList P ops Q (ops.toList.drop k) a w))
 have sufd: ∀j,m<=j->j<ops.size-> ∀i,i<j->Tp ops j i:=by
  intro j B q i hi;unfold qv8 at X;rw [Y8] at X;have:=X j (by rw [List.mem_range'_1];omega);rw [Y8] at this;exact zp0 ops.size _ i (by simpa using this i (V0.2 hi))
 have readyd: ∀(c:Array Bool) i,i∈Region.ready .any ops c->i<ops.size/\c.getD i true=false/\ ∀j,(zg1 ops i).contains j=true->c.getD j false=true:=by
  intro c i hi;unfold Region.ready at hi;rw [W3] at hi;have hlt:i<ops.size:=by simpa using hi.1
  have q:=hi.2;rw [X3] at q;refine ⟨hlt,by simpa using q.1,fun j f=>?_⟩;unfold zg1 at f;rw [Z6 hlt] at f q;simp only [R4,decide_eq_true_eq,U2,W3] at f;obtain ⟨e,⟨he,hb⟩,rfl⟩:=f;have h3:=q.2;simp only [Z8,V3,Array.all_eq_true'] at h3;have:=h3 e (by simpa using he);rw [hb] at this;simpa using this
 have readyI: ∀(c:Array Bool) i,i<ops.size->c.getD i true=false->(∀j,(zg1 ops i).contains j=true->c.getD j false=true)->i∈Region.ready .any ops c:=by
  intro c i hlt B q;unfold Region.ready;rw [W3];refine ⟨by simpa using hlt,?_⟩;rw [Z6 hlt,B];simp only [M5,Bool.true_and,Z8,V3,Array.all_eq_true'];intro e he;cases hb:Region.binds .any e with
  |false=>rfl
  |true=>
   have:=q e.on (by
    unfold zg1;rw [Z6 hlt];simp only [R4,decide_eq_true_eq,U2,W3];exact ⟨e,⟨by simpa using he,hb⟩,rfl⟩)
   rw [this];rfl
 refine wp_region_any hm (ja0 I ?_ ?_ ops.size _ a _ ⟨by simp,by simp⟩ ⟨by simp,.inl ⟨fun j f=>?_,hW0,fun i=>a.tmps.getD ((zf1 ops i).getD 0) undef,⟨ha.size,ha.defers,?_⟩,fun j f C=>?_,fun j k f hk V C _=>?_,fun pr _ _ C=>?_,fun j _ C _=>?_,fun j _=>hPr0 j⟩⟩)
 ·
  intro c a w i hI hi;obtain ⟨J,H,hip⟩:=readyd c i hi;obtain ⟨hls,hI⟩:=hI;have G: ∀j d,(c.setIfInBounds i true).getD j d=if j=i then true else c.getD j d:=by
   intro j d;rw [Y7,Array.getElem?_setIfInBounds];split
   ·rename_i h;subst h;simp [hls,J]
   ·rename_i h;rw [if_neg (fun e=>h e.symm),<-Array.getD_eq_getD_getElem?]
  rcases hI with ⟨O,hWw,u,hfr,hRs,hDs,hAs,hcl,hPs⟩|⟨k,hmk,hkn,S,N,hwl⟩
  ·by_cases him:i<m
   ·
    have S: ∀j,Tp ops i j->c.getD j false=true:=by
     intro j t;cases t with
     |one h=>exact hip _ h
     |step h t=>exact t.done hcl (hip _ h)
    have hAm: ∀p∈AL,Tp ops i p.1->u p.1=prj p.2.2 (u p.2.1):=by
     intro p hp t;have L:=S p.1 t;have hjlt:p.1<ops.size:=by
      rcases V1 p.1 c.size with h|h
      ·rw [<-hls];exact h
      ·rw [Y7,Array.getElem?_eq_none h] at L;cases L
     have hjm:p.1<m:=by
      rcases V1 p.1 m with h|h
      ·exact h
      ·rcases O p.1 h with h'|h'
       ·rw [Y7] at h' L;rw [Z6 (by omega)] at h' L;simp at h' L;rw [h'] at L;cases L
       ·omega
     exact (hAs p hp hjm L).2
    have hOb:=vc9 m 0 ob i (U4 _) (by omega) u w hWw (fun j f=>hPs j (by
     have hif:c.getD i false=false:=by
      rw [Y7] at H⊢;rw [Z6 (by omega)] at H⊢;simpa using H
     rcases f with rfl|f
     ·exact hif
     ·cases hlj:c.getD j false with
      |false=>rfl
      |true=>rw [f.done hcl hlj] at hif;cases hif)) (fun j f=>by
     have L:=S j f;have hjlt:j<ops.size:=by
      rcases V1 j c.size with h|h
      ·rw [<-hls];exact h
      ·rw [Y7,Array.getElem?_eq_none h] at L;cases L
     have hjm:j<m:=by
      rcases V1 j m with h|h
      ·exact h
      ·rcases O j h with h'|h'
       ·rw [Y7] at h' L;rw [Z6 (by omega)] at h' L;simp at h' L;rw [h'] at L;cases L
       ·omega
     exact hRs j hjm L) hAm
    have hw:=hOb a hfr;have hext:(ops.extract 0 (i+1)).toList.drop i= [ops[i]]:=by
     rw [Array.toList_extract];simp only [List.extract_eq_take_drop,J4,N0];rw [A2 (by simpa using J),List.drop_append];simp [V6 (Nat.le_of_lt J)]
    rw [hext] at hw;have hio:ops[i]?=some ops[i]:=Z6 J;have hyi: ∀(o:Oper),Region.wanted o (yielded (ops.extract 0 (i+1)) a.tmps)=Region.wanted o (yielded (ops.extract 0 (i+1)) a.tmps):=fun _=>rfl;have hdO:zf1 ops i=ops[i].dst:=by simp [zf1,hio]
    have leave: ∀a' w',Nd Q n ds (cL CL i) (zp5 ops u 0 m++F) (zf1 ops i) w (fun v w'=>(E i w v/\ ∀p∈AL,p.1=i->v=prj p.2.2 (u p.2.1))/\R i v w') .normal a' w'->I (c.setIfInBounds i true) a' w':=by
     rintro a' w' ⟨hch,v,hf',⟨hEv,hAv⟩,hRv⟩
     refine ⟨by simpa using hls,.inl ⟨fun j f=>?_,hW i w w' hWw hch,fun j=>if j=i then v else u j,⟨hf'.size,hf'.defers,?_⟩,fun j f C=>?_,fun j k f hk V C hl2=>?_,fun pr hp hpm C=>?_,fun j i' C hd'=>?_,fun j C=>?_⟩⟩
     ·rw [G];rw [if_neg (by omega)];exact O j f
     ·intro s x hx;rw [zx2] at hx;split at hx
      ·rename_i y hy;simp only [X0] at hx;subst hx;obtain ⟨j,B,q,h3,rfl⟩:=zt9 m 0 hy;by_cases A:j=i
       ·subst A;simp only [if_true];have:(upd (zp5 ops u 0 m++F) (zf1 ops j) v).get s=some v:=by
         unfold zf1;rw [h3];simp [upd,PF.get]
        exact hf'.val s v this
       ·rw [if_neg A];have hne:zf1 ops i≠some s:=fun e=>A (huniq j i s (by omega) him h3 e);have f: ∀(m' k:Nat),k<=j->j<k+m'->m'+k<=m->(zp5 ops u k m').get s=some (u j):=by
         intro m';induction m' with
         |zero=>intro k B q;omega
         |succ m' ih=>
          intro k B q h4;unfold zp5;by_cases hkj:k=j
          ·subst hkj;rw [h3];simp [PF.get]
          ·split
           ·rename_i d hd;simp only [PF.get];split
            ·rename_i hb;have:=X1 hb;subst this;exact absurd (huniq k j d (by omega) (by omega) hd h3) hkj
            ·exact ih (k+1) (by omega) (by omega) (by omega)
           ·exact ih (k+1) (by omega) (by omega) (by omega)
        refine hf'.val s (u j) ?_;have e1:(zp5 ops u 0 m++F).get s=some (u j):=by
         rw [zx2,f m 0 (U4 _) (by omega) (by omega)]
        unfold upd;split
        ·rename_i d hd;simp only [PF.get];split
         ·rename_i hb;have:=X1 hb;subst this;exact absurd hd hne
         ·exact e1
        ·exact e1
      ·rename_i hy;have hnot: ∀j,j<m->(ops[j]?).bind (·.dst)≠some s:=by
        intro j f hs;have hj': ∀(m' k:Nat),k<=j->j<k+m'->(zp5 ops (fun j=>if j=i then v else u j) k m').get s≠none:=by
         intro m';induction m' with
         |zero=>intro k B q;omega
         |succ m' ih=>
          intro k B q;unfold zp5;by_cases hkj:k=j
          ·subst hkj;rw [hs];simp [PF.get]
          ·split
           ·simp only [PF.get];split
            ·simp
            ·exact ih (k+1) (by omega) (by omega)
           ·exact ih (k+1) (by omega) (by omega)
        exact hj' m 0 (U4 _) (by omega) hy
       refine hf'.val s x ?_;have hne:zf1 ops i≠some s:=hnot i him;have e1:(zp5 ops u 0 m++F).get s=some x:=by
        rw [zx2];split
        ·rename_i z hz;obtain ⟨j,_,q,h3,_⟩:=zt9 m 0 hz;exact absurd h3 (hnot j (by omega))
        ·exact hx
       unfold upd;split
       ·rename_i d hd;simp only [PF.get];split
        ·rename_i hb;have:=X1 hb;subst this;exact absurd hd hne
        ·exact e1
       ·exact e1
     ·rw [G] at C;by_cases A:j=i
      ·subst A;simpa using hRv
      ·rw [if_neg A] at C;simp only [if_neg A];exact hR i j (u j) w w' (Ne.symm A) (hRs j f C) hch
     ·rw [G] at C hl2;by_cases A:j=i
      ·subst A;rw [if_neg (fun e=>V e.symm)] at hl2;simp only [if_true,if_neg (fun e=>V (Eq.symm e): ¬k=j)];exact (hD j k w w' v (u k) V hEv hRv (hRs k hk hl2)).1
      ·rw [if_neg A] at C;by_cases hki:k=i
       ·subst hki;simp only [if_true,if_neg A];exact (hD k j w w' v (u j) (Ne.symm V) hEv hRv (hRs j f C)).2
       ·rw [if_neg hki] at hl2;simp only [if_neg A,if_neg hki];exact hDs j k f hk V C hl2
     ·have hdep:(zg1 ops pr.1).contains pr.2.1=true:=by rw [Y8] at hAL;exact hAL pr hp
      rw [G] at C;by_cases hpi:pr.1=i
      ·have T:c.getD pr.2.1 false=true:=hip pr.2.1 (by rw [<-hpi];exact hdep);have hne: ¬pr.2.1=i:=by
        intro e;rw [e] at T;rw [Y7] at T H;rw [Z6 (by omega)] at T H;simp at T H;rw [T] at H;cases H
       rw [G,if_neg hne];exact ⟨T,by simp only [hpi,if_true,if_neg hne];exact hAv pr hp hpi⟩
      ·rw [if_neg hpi] at C;obtain ⟨T,he⟩:=hAs pr hp hpm C;have hne: ¬pr.2.1=i:=by
        intro e;rw [e] at T;rw [Y7] at T H;rw [Z6 (by omega)] at T H;simp at T H;rw [T] at H;cases H
       rw [G,if_neg hne];exact ⟨T,by simp only [if_neg hpi,if_neg hne];exact he⟩
     ·rw [G] at C⊢;by_cases A:j=i
      ·split
       ·rfl
       ·exact hip i' (by rw [<-A];exact hd')
      ·rw [if_neg A] at C;split
       ·rfl
       ·exact hcl j i' C hd'
     ·rw [G] at C;by_cases A:j=i
      ·rw [if_pos A] at C;cases C
      ·rw [if_neg A] at C;exact hPr i j w w' (Ne.symm A) (hPs j C) hch
    have hwant:Region.wanted ops[i] (yielded (ops.extract 0 (i+1)) a.tmps)=Region.wanted ops[i] (yielded ops a.tmps):=by
     unfold Region.wanted;cases hg:ops[i].guard with
     |none=>rfl
     |some gb=>
      obtain ⟨g,b⟩:=gb;have hgi:g<i:=by
       unfold zh8 at hgb;rw [Y8] at hgb;have:=hgb i (V0.2 him);rw [hio] at this;simp only [hg] at this;simpa [U8] using this
      have:(ops.extract 0 (i+1))[g]?=ops[g]?:=by
       rw [Array.getElem?_extract];simp only [J4,U0];rw [if_pos (by omega)]
      simp only [yielded,this]
    unfold wpOp;rw [hio];simp only;unfold wpList at hw;have Y: ∀a' w',wpList P (ops.extract 0 (i+1)) (Nd Q n ds (cL CL i) (zp5 ops u 0 m++F) (zf1 ops i) w (fun v w'=>(E i w v/\ ∀p∈AL,p.1=i->v=prj p.2.2 (u p.2.1))/\R i v w')) [] a' w'->I (c.setIfInBounds i true) a' w':=fun a' w' h=>leave a' w' h;have qmono: ∀e a' w',e≠.normal->Nd Q n ds (cL CL i) (zp5 ops u 0 m++F) (zf1 ops i) w (fun v w'=>(E i w v/\ ∀p∈AL,p.1=i->v=prj p.2.2 (u p.2.1))/\R i v w') e a' w'->Q e a' w':=by
     intro e a' w' he h;cases e<;>first|exact absurd rfl he|exact h
    have opmono:ops[i].wp P a w (wpList P (ops.extract 0 (i+1)) (Nd Q n ds (cL CL i) (zp5 ops u 0 m++F) (zf1 ops i) w (fun v w'=>(E i w v/\ ∀p∈AL,p.1=i->v=prj p.2.2 (u p.2.1))/\R i v w')) []) (Nd Q n ds (cL CL i) (zp5 ops u 0 m++F) (zf1 ops i) w (fun v w'=>(E i w v/\ ∀p∈AL,p.1=i->v=prj p.2.2 (u p.2.1))/\R i v w'))->ops[i].wp P a w (I (c.setIfInBounds i true)) Q:=by
     intro h;unfold Oper.wp at h⊢;generalize (execOp a.eval ops[i]).run P w=r at h⊢;unfold Oper.upon at h⊢;split at h
     ·exact Y _ _ h
     ·exact Y _ _ h
     ·exact Y _ _ h
     ·refine h.mono fun e w' he=>?_;cases e with
      |returned v=>exact Y _ _ he
      |panicked ch=>exact qmono _ _ _ (by simp) he
      |outgrown=>obtain ⟨a1,w1,B⟩:=he;exact ⟨a1,w1,qmono _ _ _ (by simp) B⟩
     ·exact h.mono fun v w' he=>Y _ _ he
     ·exact qmono _ _ _ (by simp) h
     ·exact h.elim
    have outmono:LetsOut (Nd Q n ds (cL CL i) (zp5 ops u 0 m++F) (zf1 ops i) w (fun v w'=>(E i w v/\ ∀p∈AL,p.1=i->v=prj p.2.2 (u p.2.1))/\R i v w'))->LetsOut Q:=fun ⟨a1,w1,B⟩=>⟨a1,w1,qmono _ _ _ (by simp) B⟩;rw [hwant] at hw;split
    ·rename_i hwn;rw [if_pos hwn] at hw;rcases hw with hw|hw
     ·exact .inl (opmono hw)
     ·exact .inr ⟨hw.1,outmono hw.2⟩
    ·rename_i hwn;rw [if_neg hwn] at hw;exact Y _ _ hw
   ·
    have him':m<=i:=by omega
    have M: ∀j,j<i->c.getD j false=true:=fun j f=>by
     cases sufd i him' J j f with
     |one h=>exact hip _ h
     |step h t=>exact t.done hcl (hip _ h)
    have hieq:i=m:=by
     rcases V1 m i with h|h
     ·exfalso;have B:=M m h;rcases O m (W8 _) with q|q
      ·rw [Y7] at B q;rw [Z6 (by omega)] at B q;simp at B q;rw [B] at q;cases q
      ·omega
     ·omega
    subst hieq;have hK:=K u w hWw (fun j f=>hRs j f (M j f)) (fun j k f hk V=>hDs j k f hk V (M j f) (M k hk)) (fun pr hp hpm=>(hAs pr hp hpm (M pr.1 hpm)).2) a hfr;rw [zh0 (Z6 J)] at hK;have hwo:wpOp P ops Q i (wpList P ops Q (ops.toList.drop (i+1))) a w:=by
     unfold wpOp;rw [Z6 J];exact hK
    refine wpOp_mono (fun a' w' h=>⟨by simpa using hls,.inr ⟨i+1,by omega,by omega,fun j f=>?_,fun j f=>?_,h⟩⟩) hwo
    ·rw [G];split
     ·rfl
     ·exact M j (by omega)
    ·rw [G,if_neg (by omega)];exact O j (by omega)
  ·
   have hik:i=k:=by
    rcases M1 i k with h|h|h
    ·have B:=S i h;rw [Y7] at B H;rw [Z6 (by omega)] at B H;simp at B H;rw [B] at H;cases H
    ·exact h
    ·exfalso;have B:c.getD k false=true:=by
      cases sufd i (by omega) J k h with
      |one h=>exact hip _ h
      | @step _ p _ h t=>
       have hp:=hip _ h;have hpi:p<i:=Tp.lt U (.one h) J;have hpk:=Tp.lt U t (by omega);rcases N p (by omega) with q|q
       ·rw [Y7] at hp q;rw [Z6 (by omega)] at hp q;simp at hp q;rw [hp] at q;cases q
       ·omega
     rcases N k (W8 _) with q|q
     ·rw [Y7] at B q;rw [Z6 (by omega)] at B q;simp at B q;rw [B] at q;cases q
     ·omega
   subst hik;rw [zh0 (Z6 J)] at hwl;have hwo:wpOp P ops Q i (wpList P ops Q (ops.toList.drop (i+1))) a w:=by
    unfold wpOp;rw [Z6 J];exact hwl
   refine wpOp_mono (fun a' w' h=>⟨by simpa using hls,.inr ⟨i+1,by omega,by omega,fun j f=>?_,fun j f=>?_,h⟩⟩) hwo
   ·rw [G];split
    ·rfl
    ·exact S j (by omega)
   ·rw [G,if_neg (by omega)];exact N j (by omega)
 ·
  intro c a w hI hr;obtain ⟨hls,hI⟩:=hI;have M: ∀j,j<ops.size->c.getD j true=true:=by
   intro j;induction j using Nat.strongRecOn with
   |_ j ih=>
    intro f;cases hb:c.getD j true with
    |true=>rfl
    |false=>
     exfalso;have hmem:=readyI c j f hb (fun i hi=>by
      have hij:i<j:=by
       unfold zl8 at U;rw [Y8] at U;have:=U j (V0.2 f);rw [Y8] at this;have:=this i (by simpa using hi);simpa [U8] using this
      have B:=ih i hij (by omega);rw [Y7] at B⊢;rw [Z6 (by omega)] at B⊢;simpa using B)
     rw [hr] at hmem;cases hmem
  rcases hI with ⟨O,hWw,u,hfr,hRs,hDs,hAs,hcl,_⟩|⟨k,hmk,hkn,S,N,hwl⟩
  ·have hms:m=ops.size:=by
    rcases V1 m ops.size with h|h
    ·exfalso;rcases O m (W8 _) with q|q
     ·rw [M m h] at q;cases q
     ·omega
    ·omega
   have hall': ∀j,j<m->c.getD j false=true:=by
    intro j f;have B:=M j (by omega);rw [Y7] at B⊢;rw [Z6 (by omega)] at B⊢;simpa using B
   have hK:=K u w hWw (fun j f=>hRs j f (hall' j f)) (fun j k f hk V=>hDs j k f hk V (hall' j f) (hall' k hk)) (fun pr hp hpm=>(hAs pr hp hpm (hall' pr.1 hpm)).2) a hfr;rw [M3 (by simp;omega)] at hK;exact hK
  ·have hks:k=ops.size:=by
    rcases V1 k ops.size with h|h
    ·exfalso;rcases N k (W8 _) with q|q
     ·rw [M k h] at q;cases q
     ·omega
    ·omega
   rw [M3 (by simp;omega)] at hwl;exact hwl
 ·rcases V1 j ops.size with h|h
  ·left;rw [Y7];simp [h]
  ·exact .inr h
 ·intro s x hx;rw [zx2] at hx;split at hx
  ·rename_i y hy;simp only [X0] at hx;subst hx;obtain ⟨j,B,q,h3,rfl⟩:=zt9 m 0 hy;refine ⟨?_,hdn j s (by omega) h3⟩;simp [zf1,h3]
  ·exact ha.val s x hx
 ·exfalso;rw [Y7] at C;rcases V1 j ops.size with h|h
  ·simp [h] at C
  ·simp [Nat.not_lt.2 h] at C
 ·exfalso;rw [Y7] at C;rcases V1 j ops.size with h|h
  ·simp [h] at C
  ·simp [Nat.not_lt.2 h] at C
 ·exfalso;rw [Y7] at C;rcases V1 pr.1 ops.size with h|h
  ·simp [h] at C
  ·simp [Nat.not_lt.2 h] at C
 ·exfalso;rw [Y7] at C;rcases V1 j ops.size with h|h
  ·simp [h] at C
  ·simp [Nat.not_lt.2 h] at C
def adL:List Value->Option Addr| .slice ad _ _::_=>ad|_::r=>adL r| []=>none
def zt4:Value->Option Addr| .slice ad _ _=>ad| .pointer a=>a| .tuple a=>adL a.toList|_=>none
def kv5 {a:List (Nat×Nat×Option Nat)} {i:Nat} {u:Nat->Value} {v:Value} (h:(a.all fun p=>p.1 != i)=true): ∀p∈a,p.1=i->v=prj p.2.2 (u p.2.1):=by
 intro p b c;rw [Y8] at h;have:=h p b;rw [c] at this;simp at this
def CW.regionF {id} (m:Nat) (b:List (Nat×Nat)) (c:Nat->World->Prop) (e: ∀j,c j {w with drawn:=w.drawn+1}) (r: ∀i j w w',i≠j->c j w->Chg (cL b i) w w'->c j w') (a:List Nat) (q:List (Nat×Nat×Option Nat)) (s:(q.all fun p=>(zg1 ops p.1).contains p.2.1)=true) (W:World->Prop) (R:Nat->Value->World->Prop) (f: ∀j x w,a.contains j=true->R j x w->zt4 x=none\/bk (zt4 x)<w.heap.size) (B:P.follows .mixedOrders=true) (g:(Nat.ble m ops.size&&(qv8 ops m&&(zf6 (yo0 ops m)&&(zl8 ops&&zh8 ops m))))=true)
  (C:(yo0 ops m).all (fun d=>Nat.blt d n)=true) (t:W {w with drawn:=w.drawn+1}) (D: ∀i w w',W w->Chg (cL b i) w w'->W w') (E: ∀i j v w w',i≠j->R j v w->Chg (cL b i) w w'->R j v w')
  (G:Obs P ops Q n ds m F W R (fun i l v=>a.contains i=true->zt4 v=none\/l.heap.size<=bk (zt4 v)) q b c 0 m)
  (K: ∀u w,W w->(∀j,j<m->R j (u j) w)->(∀j k,j<m->k<m->j≠k->a.contains j=true->a.contains k=true->Apart (zt4 (u j)) (zt4 (u k)))->(∀p∈q,p.1<m->u p.1=prj p.2.2 (u p.2.1))->WR P ops Q m n ds (zp5 ops u 0 m++F) w):CW P (.region id ops true) Q n ds F w:=by
 refine CW.regionN m b c e r W R (fun i l v=>a.contains i=true->zt4 v=none\/l.heap.size<=bk (zt4 v)) q s (fun j k u v=>a.contains j=true->a.contains k=true->Apart (zt4 u) (zt4 v)) ?_ B g C t D E G K;intro i j l H v x _ I _ J;have o:a.contains i=true->a.contains j=true->Apart (zt4 v) (zt4 x):=by
  intro y z;rcases I y with h|h
  ·exact .inl h
  ·rcases f j x l z J with A|A
   ·exact .inr (.inl A)
   ·exact .inr (.inr (by omega))
 exact ⟨o,fun y z=>(o z y).symm⟩
def NdG (n:Nat) (ds:List Deferred) (S:List Nat) (F:PF) (dst:Option Tmp) (w:World) (R:Value->World->Prop):Exit->Act->World->Prop
 | .normal,a,w'=>Chg S w w'/\ ∃v,Fr n ds (upd F dst v) a/\R v w'
 |_,_,_=>False
def fxU (a:List (Option Value)) (u:Nat->Value) (j:Nat):Value:=(a.getD j none).getD (u j)
def RX (a:List (Option Value)) (R:Nat->Value->World->Prop) (i:Nat) (v:Value) (w:World):Prop:=match a.getD i none with|some x=>v=x|none=>R i v w
def zo1 (o:Oper):List Nat:=o.op.operands.toList.filterMap fun x=>match x with| .tmp t=>some t|_=>none
def zq5 (ops:Array Oper) (o:Oper):List Nat:=match o.guard with|some (g,_)=>(zf1 ops g).toList|none=> []
def vn7 (ops:Array Oper) (m:Nat):Bool:=(List.range m).all fun i=>match ops[i]? with
 |some o=>zb0 o&&((zo1 o++zq5 ops o).all fun t=>(zg1 ops i).any (fun j=>Nat.blt j m&&zf1 ops j==some t)||(List.range m).all fun j=>zf1 ops j != some t)
 |none=>true
def ObG (P:Program) (ops:Array Oper) (n:Nat) (ds:List Deferred) (a:List (Option Value)) (b:(Nat->Value)->PF) (W:World->Prop) (R:Nat->Value->World->Prop) (E:Nat->World->Value->Prop) (c:List (Nat×Nat×Option Nat)) (d:List (Nat×Nat)) (e:Nat->World->Prop) (i:Nat):Prop:=
 ∀(u:Nat->Value) (w:World),W w->(∀j,j=i\/Tp ops j i->e j w)->(∀j,Tp ops i j->a.getD j none=none->R j (u j) w)->(∀p∈c,Tp ops i p.1->u p.1=prj p.2.2 (u p.2.1))->WR P (ops.extract 0 (i+1)) (NdG n ds (cL d i) (b u) (zf1 ops i) w (fun v w'=>(E i w v/\ ∀p∈c,p.1=i->v=prj p.2.2 (u p.2.1))/\RX a R i v w')) i n ds (b u) w
def qy3 (P:Program) (ops:Array Oper) (n:Nat) (ds:List Deferred) (a:List (Option Value)) (b:(Nat->Value)->PF) (W:World->Prop) (R:Nat->Value->World->Prop) (E:Nat->World->Value->Prop) (c:List (Nat×Nat×Option Nat)) (d:List (Nat×Nat)) (e:Nat->World->Prop):Nat->Nat->Prop
 |_,0=>True
 |i,f+1=>ObG P ops n ds a b W R E c d e i/\qy3 P ops n ds a b W R E c d e (i+1) f
def jw5 {u s m} (a: ∀i j d,i<m->j<m->(ops[i]?).bind (·.dst)=some d->(ops[j]?).bind (·.dst)=some d->i=j) {j} (f:j<m) (c:(ops[j]?).bind (·.dst)=some s):(zp5 ops u 0 m).get s=some (u j):=by
 have g: ∀(m' k:Nat),k<=j->j<k+m'->m'+k<=m->(zp5 ops u k m').get s=some (u j):=by
  intro m';induction m' with
  |zero=>intro k h l;omega
  |succ m' e=>
   intro k h l q;unfold zp5;by_cases b:k=j
   ·subst b;rw [c];simp [PF.get]
   ·split
    ·rename_i d o;simp only [PF.get];split
     ·rename_i p;have:=X1 p;subst this;exact absurd (a k j d (by omega) (by omega) o c) b
     ·exact e (k+1) (by omega) (by omega) (by omega)
    ·exact e (k+1) (by omega) (by omega) (by omega)
 exact g m 0 (U4 _) (by omega) (by omega)
def yn7 {m} (h:zf6 (yo0 ops m)=true): ∀i j d,i<m->j<m->(ops[i]?).bind (·.dst)=some d->(ops[j]?).bind (·.dst)=some d->i=j:=by
 have t: ∀(l:List Nat),zf6 (l.filterMap fun i=>(ops[i]?).bind (·.dst))=true->l.Nodup-> ∀i j d,i∈l->j∈l->(ops[i]?).bind (·.dst)=some d->(ops[j]?).bind (·.dst)=some d->i=j:=by
  intro l;induction l with
  |nil=>intro _ _ i j d k;simp at k
  |cons x r B=>
   intro a z i j d k s u v;rw [List.nodup_cons] at z;have c: ∀y e,y∈r->(ops[y]?).bind (·.dst)=some e->e∈r.filterMap fun i=>(ops[i]?).bind (·.dst):=fun y e C D=>T6.2 ⟨y,C,D⟩;have f:zf6 (r.filterMap fun i=>(ops[i]?).bind (·.dst))=true:=by
    rw [List.filterMap_cons] at a;split at a
    ·exact a
    ·simp only [zf6,X3] at a;exact a.2
   have b: ∀e,(ops[x]?).bind (·.dst)=some e->e∉r.filterMap fun i=>(ops[i]?).bind (·.dst):=by
    intro e A E;rw [List.filterMap_cons] at a;split at a
    ·rename_i o;rw [A] at o;cases o
    ·rename_i G p;rw [A] at p;cases p;simp only [zf6,X3,U9,R4,decide_eq_false_iff_not] at a;exact a.1 E
   rcases Z0.1 k with rfl|q
   ·rcases Z0.1 s with rfl|g
    ·rfl
    ·exact absurd (c j d g v) (b d u)
   ·rcases Z0.1 s with rfl|g
    ·exact absurd (c i d q u) (b d v)
    ·exact B f z.2 i j d q g u v
 intro i j d k s;exact t (List.range m) h List.nodup_range i j d (V0.2 k) (V0.2 s)
def qw2 {o:Oper} {Q:Exit->Act->World->Prop} {a b:Act} {w:World} {ops:Array Oper} (hs: ∀cs b,o.op≠.select cs b) (he: ∀x∈o.op.operands,b.eval x=a.eval x) (hg:Region.wanted o (yielded ops b.tmps)=Region.wanted o (yielded ops a.tmps))
  {Q':Exit->Act->World->Prop} (hn: ∀v w',Q .normal (b.put o.dst v) w'->Q' .normal (a.put o.dst v) w') (hx: ∀e a' w',e≠.normal->Q e a' w'->False) (hdf: ∀(d:Deferred) w',Q .normal ({b with defers:=d::b.defers}.put o.dst undef) w'->Q' .normal ({a with defers:=d::a.defers}.put o.dst undef) w')
  (h:wpList P ops Q [o] b w):wpList P ops Q' [o] a w:=by
 unfold wpList at h⊢;rw [hg] at h;split
 ·rename_i hw;rw [if_pos hw] at h;have hop:execOp b.eval o=execOp a.eval o:=execOp_congr o hs he;rcases h with h|⟨h1,a1,w1,h2⟩
  ·left;unfold Oper.wp at h⊢;rw [hop] at h;generalize (execOp a.eval o).run P w=r at h⊢;unfold Oper.upon at h⊢;split at h
   ·exact hn _ _ h
   ·exact hn _ _ h
   ·exact hdf _ _ h
   ·refine h.mono fun e w' hq=>?_;cases e with
    |returned v=>exact hn _ _ hq
    |panicked ch=>exact (hx _ _ _ (by simp) hq).elim
    |outgrown=>obtain ⟨a1,w1,h1⟩:=hq;exact (hx _ _ _ (by simp) h1).elim
   ·exact h.mono fun v w' hq=>hn _ _ hq
   ·exact (hx _ _ _ (by simp) h).elim
   ·exact h.elim
  ·exact (hx _ _ _ (by simp) h2).elim
 ·rename_i hw;rw [if_neg hw] at h;exact hn _ _ h
def je0 (F:PF) (a:Act):Act:= {a with tmps:=Array.ofFn (n:=a.tmps.size) fun s=>match F.get s with|some v=>v|none=>a.tmps[s]}
def qj4 (F:PF) (a:Act) (s:Nat):(je0 F a).tmps.getD s undef=match F.get s with|some v=>if s<a.tmps.size then v else undef|none=>a.tmps.getD s undef:=by
 unfold je0;rw [Y7];rcases V1 s a.tmps.size with h|h
 ·simp only [Array.getElem?_ofFn,h,dite_true,if_true,V3];split
  ·rfl
  ·rw [Y7,Z6 h];rfl
 ·have: ¬s<a.tmps.size:=by omega
  simp only [Array.getElem?_ofFn,this,dite_false,N9,if_false];split
  ·rfl
  ·rw [Y7,Array.getElem?_eq_none h];rfl
def km1 {F a} (b:a.tmps.size=n) (e:a.defers=ds) (hF: ∀s v,F.get s=some v->s<n):Fr n ds F (je0 F a):=by
 refine ⟨by simp [je0,b],e,fun i v c=>?_⟩;have d:=hF i v c;refine ⟨?_,d⟩;rw [qj4,c];simp [b,d]
def kl8 {m fx k W R E AL CL Pr} (hmle:m<=ops.size)
  (O: ∀u,zp5 ops (fxU fx u) 0 m++F=k u) (o:vn7 ops m=true) (G:zh8 ops m=true) (S:zf6 (yo0 ops m)=true) (T: ∀i d,i<m->(ops[i]?).bind (·.dst)=some d->d<n) {i} (H:i<m)
  (h:ObG P ops n ds fx k W R E AL CL Pr i):Ob P ops Q n ds m F W (RX fx R) E AL CL Pr i:=by
 intro u w hW hPr hR hA a B;have c:=yn7 S;have z:ops[i]?=some ops[i]:=Z6 (by omega);have U:zb0 ops[i]=true/\ ∀t∈zo1 ops[i]++zq5 ops ops[i],(zg1 ops i).any (fun j=>Nat.blt j m&&zf1 ops j==some t)=true\/((List.range m).all fun j=>zf1 ops j != some t)=true:=by
  unfold vn7 at o;rw [Y8] at o;have:=o i (V0.2 H);rw [z] at this;simp only [X3] at this;refine ⟨this.1,fun t ht=>?_⟩;have A:=this.2;rw [Y8] at A;simpa [J5] using A t ht
 have hw:=h u w hW hPr (fun j hj hn=>by
  have:=hR j hj;unfold RX at this;rw [hn] at this;exact this) hA
 have C: ∀s v,(k u).get s=some v->s<n:=by
  intro s v p;rw [<-O u,zx2] at p;split at p
  ·rename_i y M;obtain ⟨j,_,A,I,_⟩:=zt9 m 0 M;exact T j s (by omega) I
  ·rename_i M;have:(zp5 ops u 0 m++F).get s=some v:=by
    rw [zx2];split
    ·rename_i y2 hy2;obtain ⟨j,_,A,I,_⟩:=zt9 m 0 hy2;rw [jw5 c (by omega:j<m) I] at M;cases M
    ·exact p
   exact (B.val s v this).2
 have hb:=km1 (ds:=ds) B.size B.defers C;have q: ∀t∈zo1 ops[i]++zq5 ops ops[i],(je0 (k u) a).tmps.getD t undef=a.tmps.getD t undef:=by
  intro t ht;rw [qj4];split
  ·rename_i v p;have htn:t<a.tmps.size:=by rw [B.size];exact C t v p
   rw [if_pos htn];rw [<-O u,zx2] at p;have V: ∀x,(zp5 ops u 0 m++F).get t=some x->a.tmps.getD t undef=x:=fun x X=>(B.val t x X).1;rcases U.2 t ht with l|l
   ·rw [List.any_eq_true] at l;obtain ⟨j,hj,J⟩:=l;simp only [X3,beq_iff_eq] at J;have Y:j<m:=by simpa [U8] using J.1
    have Z:(ops[j]?).bind (·.dst)=some t:=J.2;rw [jw5 c Y Z] at p;simp only [X0] at p;have X:=V (u j) (by rw [zx2,jw5 c Y Z]);rw [X,<-p];unfold fxU;cases N:fx.getD j none with
    |none=>rfl
    |some x=>
     have:=hR j (.one (by simpa using hj));unfold RX at this;rw [N] at this;simp [this]
   ·have hno: ∀u',(zp5 ops u' 0 m).get t=none:=by
     intro u';cases hg:(zp5 ops u' 0 m).get t with
     |none=>rfl
     |some y=>
      obtain ⟨j,_,A,I,_⟩:=zt9 m 0 hg;rw [Y8] at l;have:=l j (V0.2 (by omega));simp only [zf1,I,bne_self_eq_false] at this;cases this
    rw [hno] at p;exact (V v (by rw [zx2,hno];exact p)).symm
  ·rfl
 have hext:(ops.extract 0 (i+1)).toList.drop i= [ops[i]]:=by
  rw [Array.toList_extract];simp only [List.extract_eq_take_drop,J4,N0];rw [A2 (by simp;omega),List.drop_append];simp [V6 (Nat.le_of_lt (by omega:i<ops.size))]
 have hw:=hw _ hb;rw [hext] at hw⊢;have hsel: ∀cs b,ops[i].op≠.select cs b:=by
  intro cs b e;have:=U.1;simp [zb0,e] at this
 have K: ∀x∈ops[i].op.operands,(je0 (k u) a).eval x=a.eval x:=by
  intro x X;cases x with
  |tmp t=>
   refine q t (List.mem_append_left _ ?_);unfold zo1;rw [T6];exact ⟨.tmp t,by simpa using X,rfl⟩
  |const v=>rfl
  |global g=>rfl
  |func f=>rfl
 have L:Region.wanted ops[i] (yielded (ops.extract 0 (i+1)) (je0 (k u) a).tmps)=Region.wanted ops[i] (yielded (ops.extract 0 (i+1)) a.tmps):=by
  unfold Region.wanted;cases hg:ops[i].guard with
  |none=>rfl
  |some gb=>
   obtain ⟨g,b⟩:=gb;have hgi:g<i:=by
    unfold zh8 at G;rw [Y8] at G;have:=G i (V0.2 H);rw [z] at this;simp only [hg] at this;simpa [U8] using this
   have hge:(ops.extract 0 (i+1))[g]?=ops[g]?:=by
    rw [Array.getElem?_extract];simp only [J4,U0];rw [if_pos (by omega)]
   have M:yielded (ops.extract 0 (i+1)) (je0 (k u) a).tmps g=yielded (ops.extract 0 (i+1)) a.tmps g:=by
    unfold yielded;rw [hge];cases l:(ops[g]?).bind (·.dst) with
    |none=>rfl
    |some d=>
     have h1:=q d (List.mem_append_right _ (by unfold zq5;rw [hg];simp [zf1,l]));have hsz:(je0 (k u) a).tmps.size=a.tmps.size:=by simp [je0]
     have A:(je0 (k u) a).tmps[d]?=a.tmps[d]?:=by
      rcases V1 d a.tmps.size with h|h
      ·rw [Y7,Y7,Z6 (by omega),Z6 h] at h1;rw [Z6 (by omega),Z6 h];simpa using h1
      ·rw [Array.getElem?_eq_none (by omega),Array.getElem?_eq_none h]
     simp only [Option.bind_some,A]
   simp only [M]
 have r:zf1 ops i=ops[i].dst:=by simp [zf1,z]
 refine qw2 hsel K L ?_ ?_ ?_ hw
 ·rintro v w' ⟨hch,v',N,hq⟩
  have ha2:Fr n ds (upd (zp5 ops u 0 m++F) (zf1 ops i) v') (a.put ops[i].dst v):=by
   cases l:ops[i].dst with
   |none=>rw [r,l];exact B
   |some d=>
    have D:d<n:=T i d H (by rw [z];simpa using l);have hvv:v=v':=by
     rw [r,l] at N;have:=(N.val d v' (by simp [upd,PF.get])).1;simp only [Act.put] at this;rw [Y7,Array.getElem?_setIfInBounds_self_of_lt (by rw [hb.size];exact D)] at this;simpa using this
    subst hvv;rw [r,l];exact B.upd (by simp [zi5,U8,D]) v
  exact ⟨hch,v',ha2,hq⟩
 ·intro e a' w' he hq;cases e<;>first|exact absurd rfl he|exact hq.elim
 ·rintro d w' ⟨_,v',N,_⟩
  have:=N.defers;have A:({je0 (k u) a with defers:=d::(je0 (k u) a).defers}.put ops[i].dst undef).defers=d::(je0 (k u) a).defers:=by
   cases ops[i].dst<;>rfl
  rw [A] at this;have I:(je0 (k u) a).defers=ds:=B.defers;rw [I] at this;exact absurd (congrArg List.length this) (by simp)
def CW.regionG {id} (m:Nat) (b:List (Option Value)) (I:(Nat->Value)->PF) (z: ∀u,zp5 ops (fxU b u) 0 m++F=I u) (A:vn7 ops m=true) (o:List (Nat×Nat)) (q:Nat->World->Prop) (B: ∀j,q j {w with drawn:=w.drawn+1}) (J: ∀i j w w',i≠j->q j w->Chg (cL o i) w w'->q j w') (g:List Nat) (t:List (Nat×Nat×Option Nat)) (L:(t.all fun p=>(zg1 ops p.1).contains p.2.1)=true) (W:World->Prop) (R:Nat->Value->World->Prop) (C: ∀j x w,g.contains j=true->R j x w->zt4 x=none\/bk (zt4 x)<w.heap.size) (D:(g.all fun j=>(b.getD j none).isNone)=true) (hm:P.follows .mixedOrders=true) (l:(Nat.ble m ops.size&&(qv8 ops m&&(zf6 (yo0 ops m)&&(zl8 ops&&zh8 ops m))))=true)
  (M:(yo0 ops m).all (fun d=>Nat.blt d n)=true) (N:W {w with drawn:=w.drawn+1}) (hW: ∀i w w',W w->Chg (cL o i) w w'->W w') (hR: ∀i j v w w',i≠j->R j v w->Chg (cL o i) w w'->R j v w')
  (ob:qy3 P ops n ds b I W R (fun i E v=>g.contains i=true->zt4 v=none\/E.heap.size<=bk (zt4 v)) t o q 0 m)
  (K: ∀u w,W w->(∀j,j<m->b.getD j none=none->R j (u j) w)->(∀j k,j<m->k<m->j≠k->g.contains j=true->g.contains k=true->Apart (zt4 (u j)) (zt4 (u k)))->(∀p∈t,p.1<m->u p.1=prj p.2.2 (u p.2.1))->WR P ops Q m n ds (I u) w):CW P (.region id ops true) Q n ds F w:=by
 have c:=l;simp only [X3] at c;obtain ⟨e,_,G,_,O⟩:=c;have e:=Y1 e;have S: ∀i d,i<m->(ops[i]?).bind (·.dst)=some d->d<n:=by
  intro i d T hb;rw [Y8] at M;have:=M d (by unfold yo0;rw [T6];exact ⟨i,V0.2 T,hb⟩);simpa [U8] using this
 have r: ∀j,g.contains j=true->b.getD j none=none:=by
  intro j y;rw [Y8] at D;simpa using D j (by simpa using y)
 have conv: ∀(f i:Nat),i+f<=m->qy3 P ops n ds b I W R (fun i E v=>g.contains i=true->zt4 v=none\/E.heap.size<=bk (zt4 v)) t o q i f->Obs P ops Q n ds m F W (RX b R) (fun i E v=>g.contains i=true->zt4 v=none\/E.heap.size<=bk (zt4 v)) t o q i f:=by
  intro f;induction f with
  |zero=>intro i _ _;trivial
  |succ f U=>
   intro i T h;exact ⟨kl8 e z A O G S (by omega) h.1,U (i+1) (by omega) h.2⟩
 refine CW.regionF m o q B J g t L W (RX b R) ?_ hm l M N hW ?_ (conv m 0 (by omega) ob) ?_
 ·intro j x w y s;unfold RX at s;rw [r j y] at s;exact C j x w y s
 ·intro i j v w w' V H hc;unfold RX at H⊢;split
  ·rename_i x s;rw [s] at H;exact H
  ·rename_i s;rw [s] at H;exact hR i j v w w' V H hc
 ·intro u w X hr Y Z a ha;refine K u w X (fun j y hn=>by have:=hr j y;unfold RX at this;rw [hn] at this;exact this) Y Z a ?_;rw [<-z u];have: ∀(f i:Nat),i+f<=m->zp5 ops (fxU b u) i f=zp5 ops u i f:=by
   intro f;induction f with
   |zero=>intro i _;rfl
   |succ f U=>
    intro i T;have he:fxU b u i=u i:=by
     have:=hr i (by omega);unfold RX at this;unfold fxU;cases hf:b.getD i none with
     |none=>rfl
     |some x=>rw [hf] at this;simp [this]
    unfold zp5;rw [U (i+1) (by omega),he]
  rw [this m 0 (by omega)];exact ha
def zx8 {c:List (Option Value)} {d W R} {e:List Nat} {g:List (Nat×Nat×Option Nat)} {q r}: ∀(k:Nat) (i f:Nat),
  (∀u w,(List.range' i k).map (fun j=>zu5 P (ops.extract 0 (j+1)) j n (d u) w)=(List.range' i k).map (fun j=>some (zf1 ops j,.ok (.value ((c.getD j none).getD undef)) w)))->
  ((List.range' i k).all fun j=>(c.getD j none).isSome&&(!e.contains j&&g.all fun p=>p.1 != j))=true->
  qy3 P ops n ds c d W R (fun i l v=>e.contains i=true->zt4 v=none\/l.heap.size<=bk (zt4 v)) g q r (i+k) f->qy3 P ops n ds c d W R (fun i l v=>e.contains i=true->zt4 v=none\/l.heap.size<=bk (zt4 v)) g q r i (k+f)
 |0,i,f,_,_,h=>by simpa using h
 |k+1,i,f,m,o,h=>by
  rw [Nat.add_right_comm k 1 f];simp only [List.range'_succ,U1,List.cons.injEq,J1,X3] at m o;refine ⟨?_,zx8 k (i+1) f (fun u w=>(m u w).2) o.2 (by rw [V2,J8 1 k];exact h)⟩;intro u w _ _ _ _;obtain ⟨⟨z,s,A⟩,_⟩:=o;obtain ⟨x,t⟩:=T0.1 z;have y:=(m u w).1;rw [t] at y;refine WR.valR y fun a B=>?_;have b:(ops.extract 0 (i+1)).toList.drop (i+1)= []:=M3 (by simp;omega);rw [b];refine ⟨Chg.refl _ _,x,B,⟨fun h=>?_,kv5 A⟩,?_⟩
  ·simp only [U9] at s;rw [s] at h;cases h
  ·unfold RX;rw [t]
end
end Go.V
namespace Go.V
open Go.RowKit
def gl8 {α b:Type} (a:α) (f:α->b):b:=f a
def gk5 {α a:Type} (o:Option α) (n:a) (f:α->a):a:=match o with|some x=>f x|none=>n
@[simp] theorem ge6 {α b} (a : α) (f : α -> b) : gl8 a f = f a := rfl
@[simp] theorem gc8 {α a} (n : a) (f : α -> a) : gk5 none n f = n := rfl
@[simp] theorem gc9 {α b} (a : α) (n : b) (f : α -> b) : gk5 (some a) n f = f a := rfl
section
variable {P:Program} {w w':World} {α:Type} {f:FuncId} {args:Array Value}
end
def gj3 (k:IntKind) (x y:Int):Int:=k.wrap ((BitVec.ofInt k.bits x&&&BitVec.ofInt k.bits y).toNat:Int)
def bOr (k:IntKind) (x y:Int):Int:=k.wrap ((BitVec.ofInt k.bits x|||BitVec.ofInt k.bits y).toNat:Int)
def kq1 (k:IntKind) (x y:Int):Int:=k.wrap ((BitVec.ofInt k.bits x^^^BitVec.ofInt k.bits y).toNat:Int)
def qy8 (k:IntKind) (x y:Int):Int:=k.wrap ((BitVec.ofInt k.bits x&&& ~~~BitVec.ofInt k.bits y).toNat:Int)
def gl3 (k:IntKind) (x y:Int):Int:=k.wrap (x*2^(min y.toNat k.bits))
def ku6 (k:IntKind) (x y:Int):Int:=x.fdiv (2^(min y.toNat k.bits))
def yp7 (x y:Int):Int:=if y<x then y else x
def gj7 (x y:Int):Int:=if y>x then y else x
section
variable {P:Program} {ops:Array Oper} {k n:Nat} {F:PF} {dst:Option Tmp}
end
section
variable {P:Program}
def yu8 (P:Program) (t:TypeId) (cs:Array Value) (a:Nat):Option Value:=
 match P.underlying t with
 |some d=>(match yb5 d with|true=>(match P.info? t with|some i=>some (.agg (cs.extract a (a+i.size)))|none=>none)|false=>cs[a]?)
 |none=>none
def yl9 {t:TypeId} {cs:Array Value} {off:Nat} {v:Value} (h:yu8 P t cs off=some v) (w:World):(part t cs off).run P w=.ok v w:=by
 unfold yu8 at h;split at h
 ·rename_i d hd;unfold part;rw [Sem.run_bind,zv6 hd];split at h
  ·rename_i ha;rw [ha];split at h
   ·rename_i i hi;simp only [X0] at h;subst h;simp [sizeOf,typeInfo,hi]
   ·cases h
  ·rename_i ha;rw [ha];simp [h]
 ·cases h
def vq0 (P:Program) (c:TypeId->Value->Value->Option Bool) (xs ys:Array Value):List Field->Option Bool
 | []=>some true
 | [f]=>match f.name== "_" with|true=>some true|false=>(match yu8 P f.type xs f.offset,yu8 P f.type ys f.offset with|some a,some b=>c f.type a b|_,_=>none)
 |f::g::r=>match f.name== "_" with|true=>vq0 P c xs ys (g::r)|false=>(match yu8 P f.type xs f.offset,yu8 P f.type ys f.offset with|some a,some b=>(match c f.type a b,vq0 P c xs ys (g::r) with|some p,some q=>some (p&&q)|_,_=>none)|_,_=>none)
def eqB (P:Program):Nat->TypeId->Value->Value->Option Bool
 |0,_,_,_=>none
 |d+1,t,x,y=>
  match P.underlying t,x,y with
  |some .bool,.bool a,.bool b=>some (a==b)
  |some (.int _),.int j a,.int c b=>match decide (j=c) with|true=>some (a==b)|false=>none
  |some .string,.string a,.string b=>some (a==b)
  |some (.struct e),.agg xs,.agg ys=>match P.stoodInHeld t with|true=>none|false=>vq0 P (eqB P d) xs ys e.toList
  |_,_,_=>none
def jd3 (d:Nat) (xs ys:Array Value) (f:Field):Sem (ForInStep (Option Bool×Unit)):=
 if f.name≠ "_" then do
  let a<-part f.type xs f.offset
  let b<-part f.type ys f.offset
  let r<-Op.equalIn d f.type a b
  if (!r)=true then pure (ForInStep.done (some false,())) else pure (ForInStep.yield (none,()))
 else pure (ForInStep.yield (none,()))
def jj9 {xs ys d} (e: ∀(t:TypeId) (x y:Value) (b:Bool),eqB P d t x y=some b-> ∀w:World,(Op.equalIn d t x y).run P w=.ok b w):
  ∀(u b),vq0 P (eqB P d) xs ys u=some b-> ∀w:World,
  (forIn (m:=Sem) u ((none,()):Option Bool×Unit) (fun f _=>jd3 d xs ys f)).run P w=.ok (if b then (none,()) else (some false,())) w
 | [],b,h,w=>by
  simp only [vq0,X0] at h;subst h;rfl
 |f::r,b,h,w=>by
  have one: ∀(c:Bool),f.name≠ "_" ->(match yu8 P f.type xs f.offset,yu8 P f.type ys f.offset with|some a,some b=>eqB P d f.type a b|_,_=>none)=some c->
    (jd3 d xs ys f).run P w=.ok (if c then ForInStep.yield (none,()) else ForInStep.done (some false,())) w:=by
   intro c i j;split at j
   ·rename_i x y l o;unfold jd3;rw [if_pos i,Sem.run_bind,yl9 l];simp only [Result.andThen_ok];rw [Sem.run_bind,yl9 o];simp only [Result.andThen_ok];rw [Sem.run_bind,e _ _ _ _ j];cases c<;>rfl
   ·cases j
  have skip:f.name= "_" ->(jd3 d xs ys f).run P w=.ok (ForInStep.yield (none,())) w:=by
   intro i;unfold jd3;rw [if_neg (by simpa using i)];rfl
  rw [List.forIn_cons]
  match r,h with
  | [],h=>
   unfold vq0 at h;split at h
   ·rename_i i;simp only [X0] at h;subst h;rw [Sem.run_bind,skip (by simpa using i)];rfl
   ·rename_i i;rw [Sem.run_bind,one b (by simpa using i) h];cases b<;>rfl
  |g::r,h=>
   unfold vq0 at h;split at h
   ·rename_i i;rw [Sem.run_bind,skip (by simpa using i)];exact jj9 e (g::r) b h w
   ·rename_i i;have s:f.name≠ "_" :=by simpa using i
    split at h
    ·rename_i x y l o;split at h
     ·rename_i p q v z;simp only [X0] at h;subst h;rw [Sem.run_bind,one p s (by rw [l,o];exact v)];cases p
      ·rfl
      ·exact jj9 e (g::r) q z w
     ·cases h
    ·cases h
def jw6: ∀(d:Nat) (t:TypeId) (x y:Value) (b:Bool),eqB P d t x y=some b-> ∀w:World,(Op.equalIn d t x y).run P w=.ok b w
 |0,_,_,_,_,h,_=>by simp [eqB] at h
 |d+1,t,x,y,b,h,w=>by
  unfold eqB at h;unfold Op.equalIn;split at h
  ·rename_i a c ht;simp only [X0] at h;subst h;simp [underlying,ht]
  ·rename_i kk j a j' c ht;split at h
   ·rename_i hj;simp only [X0] at h;subst h;have:j=j':=by simpa using hj
    subst this;simp [underlying,ht]
   ·cases h
  ·rename_i a c ht;simp only [X0] at h;subst h;simp [underlying,ht]
  ·rename_i fs xs ys ht;split at h
   ·cases h
   ·rename_i hst;have hu:(underlying t).run P w=.ok (.struct fs) w:=by simp [underlying,ht]
    rw [Sem.run_bind,hu];simp only [Result.andThen_ok];have hp:(program).run P w=.ok P w:=rfl;rw [Sem.run_bind,hp];simp only [Result.andThen_ok,hst];have key:=jj9 (P:=P) (d:=d) (xs:=xs) (ys:=ys) (jw6 d) fs.toList b h w;rw [<-Array.forIn_toList];simp only [R9,if_false];rw [Sem.run_bind];unfold jd3 at key;rw [key];cases b<;>rfl
  ·cases h
end
end Go.V
namespace Go.V
open Go.RowKit
def Mp (w:World) (g:Nat) (es:Array MapEntry) (c:Nat):Prop:=w.heap[g]?=some (.map es c)
def Mp.lt {w g es c} (h:Mp w g es c):g<w.heap.size:=(Y3.1 h).1
def Mp.chg {S w w' g es c} (h:Mp w g es c) (a:Chg S w w') (b:g∉S):Mp w' g es c:=(a.block g h.lt b).trans h
structure NewM (w w':World) (g:Nat) (es:Array MapEntry) (c:Nat):Prop where
 blk:Mp w' g es c
 chg:Chg [] w w'
 fresh:w.heap.size<=g
def yw8 (P:Program) (t:TypeId):Option (TypeId×TypeId×TypeDesc):=
 match P.underlying t with
 |some (.map a b)=>(match P.underlying a with|some d=>some (a,b,d)|none=>none)
 |_=>none
def zd5 {P t a b d} (h:yw8 P t=some (a,b,d)):P.underlying t=some (.map a b)/\P.underlying a=some d:=by
 unfold yw8 at h;split at h
 ·rename_i c e f;split at h
  ·rename_i i g;simp only [X0,X7] at h;obtain ⟨rfl,rfl,rfl⟩:=h;exact ⟨f,g⟩
  ·cases h
 ·cases h
section
variable {P:Program} {ops:Array Oper} {Q:Exit->Act->World->Prop} {k n:Nat} {ds:List Deferred} {F:PF} {w:World}
def zt8 (ops:Array Oper) (k n:Nat) (F:PF):Option (Option Tmp×TypeId):=
 match dec ops k n F with|some ⟨dst,.makeMap t none,_,_,_,_⟩=>some (dst,t)|_=>none
def WR.mkMap {dst t} (a:zt8 ops k n F=some (dst,t))
  (K: ∀g w',NewM w w' g #[] 0->WR P ops Q (k+1) n ds (upd F dst (.map (some g))) w'):WR P ops Q k n ds F w:=by
 unfold zt8 at a;split at a
 ·rename_i d e ty c f h b;simp only [X0,X7] at a;obtain ⟨rfl,rfl⟩:=a;refine .val b (v:=.map (some w.heap.size)) (w':=w.alloc (.map #[] 0)) ?_ (K _ _ ⟨(MapKept.heap_alloc w _).1,Chg.alloc w _,W8 _⟩);simp [execOp,Instr.makeMap]
 ·cases a
def zo5 (ops:Array Oper) (k n:Nat) (F:PF):Option (Option Tmp×TypeId×Value×Value×Bool):=
 match dec ops k n F with|some ⟨dst,.lookup t m x a,_,_,_,_⟩=>some (dst,t,evD F m,evD F x,a)|_=>none
def lkV (z:Value):Bool->Option (Nat×Value)->Value
 |true,some (_,v)=>.tuple #[v,.bool true]
 |true,none=>.tuple #[z,.bool false]
 |false,some (_,v)=>v
 |false,none=>z
def yg9 {dst:Option Tmp} {t kt et:TypeId} {d:TypeDesc} {g c:Nat} {es:Array MapEntry} {x z:Value} {co:Bool} (hm:Mp w g es c) (hd:zo5 ops k n F=some (dst,t,.map (some g),x,co)) (hi:yw8 P t=some (kt,et,d)) (hk:MapKept.IsKey d x)
  (r:Option (Nat×Value)) (hf:Instr.findNow d x es.toList 0=some r) (hz:(P.info? et).bind (·.zero)=some z) (v:Value) (hv:lkV z co r=v):zu5 P ops k n F w=some (dst,.ok (.value v) w):=by
 obtain ⟨hu,hkd⟩:=zd5 hi;subst hv;unfold zo5 at hd;split at hd
 ·rename_i d' t' m' x' co' ty pos af gd hdec;simp only [X0,X7] at hd;obtain ⟨rfl,rfl,h1,h2,rfl⟩:=hd;unfold zu5;rw [hdec];have hb:w.heap[g]?=some (.map es c):=hm;have hzr:(zeroValue et).run P w=.ok z w:=by
   cases hin:P.info? et with
   |none=>rw [hin] at hz;cases hz
   |some i=>rw [hin] at hz;simp at hz;simp [zeroValue,typeInfo,hin,hz]
  cases r with
  |none=>cases co'<;>simp [execOp,h1,h2,Instr.lookup,run_underlying hu,MapKept.run_getObj_map hb,MapKept.run_checkKey hkd hk,MapKept.run_findKey hkd hf,Result.andThen,hzr,lkV]
  |some jv=>obtain ⟨j,v⟩:=jv;cases co'<;>simp [execOp,h1,h2,Instr.lookup,run_underlying hu,MapKept.run_getObj_map hb,MapKept.run_checkKey hkd hk,MapKept.run_findKey hkd hf,Result.andThen,lkV]
 ·cases hd
end
end Go.V
namespace Go.V
open Go.RowKit Go.ChangeShapes Go.WideShapes Go.ChangeAt Go.Deep
section
variable {H:Type} {enc:TypeId×Value->H} {P:Program} {w:World} {t e:TypeId}
def retLaw {w w':World} {v:Value} {e:Ending} (h:zq9 w v e w'):e=.returned v/\Chg [] w w':=by
 cases e with
 |returned u=>obtain ⟨h1,h2⟩:=h;subst h2;exact ⟨rfl,h1⟩
 |panicked ch=>exact h.elim
 |outgrown=>exact h.elim
def qg4 (i:laidOutB P=true) {W j} (k:Below W.heap.size W j) {l}: ∀ {f vs ds ps},(f.all fun t=>P.readableRec t&&decide (t<P.types.size))=true->
  DataW.TrodAll enc P W 0 (fun _=>true) true f vs ds ps->(∀x∈ps,x.block<W.heap.size)->(∀x∈ps,l x.block=true)->DataW.TrodAll enc P j 0 l true f vs ds ps
 | [],[],[],_,_,h,_,_=>h
 |t::f,v::vs,d::ds,ps,g,h,b,c=>by
  obtain ⟨p,q,m,n,rfl⟩:=h;simp only [J1,X3,decide_eq_true_eq] at g;exact ⟨p,q,WideElems.Trod_stays i g.1.1 g.1.2 m (fun x a=>k.same (b x (by simp [a]))) (fun x a=>c x (by simp [a])),qg4 i k (by simpa using g.2) n (fun x a=>b x (by simp [a])) (fun x a=>c x (by simp [a])),rfl⟩
 | [],_::_,_,_,_,h,_,_=>by simp [DataW.TrodAll] at h
 | [],[],_::_,_,_,h,_,_=>by simp [DataW.TrodAll] at h
 |_::_,[],_,_,_,h,_,_=>by simp [DataW.TrodAll] at h
 |_::_,_::_,[],_,_,h,_,_=>by simp [DataW.TrodAll] at h
def lawPost {f:Func} {s:ChangeSpec} {o a d b W r} {args:Array Value} {ds u c} (A:laidOutB P=true)
  (i:DataW.Whole enc P f.params.toList s.vars a W args.toList ds u c) (v:s.vars= []) (j:s.fn H (ds++u)= {results:= [.lit (.bool true)],args:=ds,vars:= []})
  (k:f.resultTypes= #[o]) (l:P.underlying o=some .bool) (B:(f.params.toList.all fun t=>P.readableRec t&&decide (t<P.types.size))=true) (C:Chg [] W r):
  s.post enc P f a d b false W args (.bool true) r:=by
 have g:=i.lt;have m:=i;obtain ⟨p,q,D,y,rfl,E,F⟩:=i;rw [v] at y;obtain ⟨rfl,rfl⟩:=trodVars_none y;have z:=C.below;refine ⟨ds,[],p++ [],[],p,[],m,?_,?_,?_,z.frame _,fun h=>by cases h⟩
 ·rw [j,k];exact trodAll_mk1 (shut_bool l true)
 ·rw [j];exact qg4 A z B D (fun x n=>g x (by simpa using n)) (fun x n=>by simpa using g x (by simpa using n))
 ·rw [j,v];rfl
end
end Go.V
