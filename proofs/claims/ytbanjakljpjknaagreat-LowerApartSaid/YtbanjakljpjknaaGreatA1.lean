import Derived.Orders
import Derived.Deep.Quiet
import Derived.KernelRfl
import Derived.Below
import Derived.WalkKit
import Derived.Recover
import Derived.MapKept
import Derived.ProofKit
import Derived.OpenShut
import Derived.Carry
import Derived.JoinedCond
import Derived.Deep.Slices
set_option linter.defProp false
namespace Go.V
open Go.RowKit
abbrev X0:= @Option.some.injEq
abbrev X1:= @Nat.eq_of_beq_eq_true
abbrev X2:= @List.getElem?_eq_some_iff
abbrev X3:= @Bool.and_eq_true
abbrev X4:= @List.mem_append
abbrev X5:= @Option.some.inj
abbrev X6:= @List.mem_of_getElem?
abbrev X7:= @Prod.mk.injEq
abbrev X8:= @List.getElem?_append_left
abbrev X9:= @List.length_append
abbrev Y0:= @List.getElem?_eq_getElem
abbrev Y1:= @Nat.le_of_ble_eq_true
abbrev Y2:= @List.getD_eq_getElem?_getD
abbrev Y3:= @Array.getElem?_eq_some_iff
abbrev Y4:= @List.getElem?_cons_zero
abbrev Y5:= @List.getElem?_eq_none
abbrev Y6:= @List.length_take
abbrev Y7:= @Array.getD_eq_getD_getElem?
abbrev Y8:= @List.all_eq_true
abbrev Y9:= @List.mem_iff_getElem?
abbrev Z0:= @List.mem_cons
abbrev Z1:= @Int.toNat_natCast
abbrev Z2:= @List.getElem?_append_right
abbrev Z3:= @List.getElem?_take
abbrev Z4:= @List.mem_cons_of_mem
abbrev Z5:= @List.getElem?_set_ne
abbrev Z6:= @Array.getElem?_eq_getElem
abbrev Z7:= @List.take_append_of_le_length
abbrev Z8:= @Option.map_some
abbrev Z9:= @List.length_replicate
abbrev Q0:= @List.getElem?_set_self
abbrev Q1:= @List.length_set
abbrev Q2:= @List.append_assoc
abbrev Q4:= @List.take_of_length_le
abbrev Q5:= @List.mem_singleton
abbrev Q6:= @List.getElem?_drop
abbrev Q7:= @List.length_drop
abbrev Q8:= @List.take_append_drop
abbrev Q9:= @Nat.mul_le_mul_right
abbrev W0:= @List.mem_filter
abbrev W2:= @List.getElem?_map
abbrev W3:= @Nat.ble_eq_true_of_le
abbrev W4:= @decide_eq_true
abbrev W5:= @decide_eq_false
abbrev W6:= @Nat.le_refl
abbrev W7:= @Bool.not_true
abbrev W8:= @Nat.le_trans
abbrev W9:= @Nat.zero_add
abbrev U0:= @List.map_cons
abbrev U1:= @Bool.not_false
abbrev U2:= @Nat.add_assoc
abbrev U3:= @List.length_cons
abbrev U4:= @Nat.succ_mul
abbrev U5:= @List.mem_map
abbrev U6:= @List.mem_cons_self
abbrev U7:= @Nat.blt_eq
abbrev U8:= @Nat.zero_le
abbrev U9:= @Nat.add_mul
abbrev V0:= @Option.getD_some
abbrev V1:= @List.length_map
abbrev V2:= @Bool.and_self
abbrev V3:= @Nat.lt_of_lt_of_le
abbrev V4:= @List.mem_flatMap
abbrev V5:= @List.append_nil
abbrev V6:= @List.all_cons
abbrev V7:= @Bool.not_eq_true'
abbrev V8:= @List.map_append
abbrev V9:= @List.flatMap_cons
abbrev J0:= @Nat.add_comm
abbrev J1:= @List.flatMap_append
abbrev J2:= @Bool.or_eq_true
abbrev J3:= @List.mem_range
abbrev J4:= @Nat.beq_refl
abbrev J5:= @Nat.min_eq_left
abbrev J6:= @List.mem_of_mem_take
abbrev J7:= @List.map_nil
abbrev J8:= @List.drop_eq_getElem_cons
abbrev J9:= @Nat.lt_or_ge
abbrev M0:= @Array.length_toList
abbrev M1:= @List.ext_getElem?
abbrev M2:= @List.nil_append
abbrev M3:= @Nat.add_zero
abbrev M4:= @Nat.sub_zero
abbrev M5:= @Bool.false_eq_true
abbrev M6:= @List.cons_append
abbrev M7:= @Bool.eq_iff_iff
abbrev M8:= @List.not_mem_nil
abbrev M9:= @Nat.zero_mul
abbrev N0:= @Array.toList_map
abbrev N1:= @List.set_getElem_self
abbrev N2:= @Nat.lt_trichotomy
abbrev N3:= @Option.isSome_iff_exists
abbrev N4:= @List.mem_or_eq_of_mem_set
abbrev N5:= @Nat.add_sub_cancel_left
abbrev N6:= @List.drop_zero
abbrev N7:= @List.drop_eq_nil_of_le
abbrev N8:= @List.size_toArray
abbrev N9:= @List.take_length
abbrev T0:= @Nat.mod_eq_of_lt
abbrev T1:= @List.reverse_cons
abbrev T2:= @List.mapM_cons
abbrev T3:= @List.contains_iff_mem
abbrev T4:= @List.drop_of_length_le
abbrev T5:= @Nat.eq_zero_or_pos
abbrev T6:= @Array.toList_range
abbrev T7:= @Array.mapM_eq_mapM_toList
abbrev T8:= @Array.toList_setIfInBounds
abbrev T9:= @List.eq_nil_of_length_eq_zero
abbrev R1:= @List.append_eq_nil_iff
abbrev PF:=List (Nat×Value)
def PF.get:PF->Nat->Option Value
 | [],_=>none
 |(j,v)::r,i=>match Nat.beq j i with|true=>some v|false=>PF.get r i
def PF.keep (F:PF):List Nat->PF
 | []=> []
 |i::r=>match F.get i with|some v=>(i,v)::F.keep r|none=>F.keep r
def upd (F:PF) (dst:Option Tmp) (v:Value):PF:=match dst with|some d=>(d,v)::F|none=>F
def ev (F:PF):Operand->Option Value
 | .tmp t=>F.get t
 | .const v=>some v
 | .global g=>some (.pointer (some ⟨g,0,none⟩))
 | .func f=>some (.func (.func f) #[] #[])
def evD (F:PF) (x:Operand):Value:=(ev F x).getD undef
structure Fr (n:Nat) (ds:List Deferred) (F:PF) (a:Act):Prop where
 size:a.tmps.size=n
 defers:a.defers=ds
 val: ∀i v,F.get i=some v->a.tmps.getD i undef=v/\i<n
def PF.get_keep (F:PF) (i:Nat) (v:Value): ∀l:List Nat,(F.keep l).get i=some v->F.get i=some v
 | [],h=>by simp [PF.keep,PF.get] at h
 |j::r,h=>by
  unfold PF.keep at h;split at h
  ·rename_i u a;simp only [PF.get] at h;split at h
   ·rename_i b;have:=X1 b;subst this;rw [a];exact h
   ·exact PF.get_keep F i v r h
  ·exact PF.get_keep F i v r h
def Fr.keep {n ds F F' a} (h:Fr n ds F a) (l) (b:F.keep l=F'):Fr n ds F' a:=
 ⟨h.size,h.defers,fun i v c=>h.val i v (PF.get_keep F i v l (by rw [b];exact c))⟩
def Fr.eval {n:Nat} {ds:List Deferred} {F:PF} {a:Act} (h:Fr n ds F a) {x:Operand} {v:Value} (hx:ev F x=some v):a.eval x=v:=by
 cases x with
 |tmp t=>exact (h.val t v hx).1
 |const u=>simpa [ev,Act.eval] using hx
 |global g=>simpa [ev,Act.eval] using hx
 |func f=>simpa [ev,Act.eval] using hx
def zk1 (n:Nat):Option Tmp->Bool|some d=>Nat.blt d n|none=>true
def Fr.upd {n ds F a} (h:Fr n ds F a) {dst} (j:zk1 n dst=true) (v):Fr n ds (upd F dst v) (a.put dst v):=by
 cases dst with
 |none=>exact h
 |some d=>
  have b:d<n:=by simpa [zk1,U7] using j
  refine ⟨by simp [Act.put,h.size],by simp [Act.put,h.defers],?_⟩;intro i u c;simp only [Go.V.upd,PF.get] at c;split at c
  ·rename_i f;have:=X1 f;subst this;simp only [X0] at c;subst c;refine ⟨?_,b⟩;simp only [Act.put];rw [Y7,Array.getElem?_setIfInBounds_self_of_lt (by rw [h.size];exact b)];rfl
  ·rename_i f;have g:d≠i:=fun e=>by subst e;simp at f
   have:=h.val i u c;refine ⟨?_,this.2⟩;simp only [Act.put];rw [Y7,Array.getElem?_setIfInBounds_ne g,<-Array.getD_eq_getD_getElem?];exact this.1
def yg3 (ops:Array Oper) (F:PF) (j:Nat):Option (Option Bool):=
 match (ops[j]?).bind (·.dst) with
 |some d=>match F.get d with|some (.bool b)=>some (some b)|some (.tuple _)=>some none|_=>none
 |none=>none
def jz8 {ops:Array Oper} {F:PF} {j:Nat} {b:Option Bool} {n:Nat} {ds:List Deferred} {a:Act} (h:Fr n ds F a) (hg:yg3 ops F j=some b):yielded ops a.tmps j=b:=by
 unfold yg3 at hg;unfold yielded;split at hg
 ·rename_i d hd;rw [hd];have key: ∀v,F.get d=some v->a.tmps[d]?=some v:=by
   intro v hv;have:=h.val d _ hv;have hlt:d<a.tmps.size:=by rw [h.size];exact this.2
   have e:=this.1;rw [Y7,Z6 hlt] at e
   grind
  grind
 ·cases hg
def zd3 (o:Oper):Bool:=match o.op with| .select ..=>false|_=>true
def yd1 (F:PF) (o:Oper):Bool:=o.op.operands.toList.all fun x=>(ev F x).isSome
def zx3 (ops:Array Oper) (F:PF) (o:Oper):Option Bool:=
 match o.guard with
 |none=>some true
 |some (j,b)=>(yg3 ops F j).map fun c=>match c,b with|some true,true=>true|some false,false=>true|_,_=>false
def yj7 {ops F o b n ds a} (h:Fr n ds F a) (e:zx3 ops F o=some b):Region.wanted o (yielded ops a.tmps)=b:=by
 unfold zx3 at e;unfold Region.wanted;split at e
 ·rename_i f;rw [f];simpa using e
 ·rename_i j c f;rw [f];cases hv:yg3 ops F j with
  |none=>rw [hv] at e;cases e
  |some d=>
   rw [hv] at e;simp only [Z8,X0] at e;simp only [jz8 h hv];subst e;rcases d with _|d
   ·cases c<;>rfl
   ·cases d<;>cases c<;>rfl
def dec (ops:Array Oper) (k n:Nat) (F:PF):Option Oper:=
 match ops[k]? with
 |none=>none
 |some o=>
  match zx3 ops F o with
  |some true=>match (zk1 n o.dst&&(zd3 o&&yd1 F o)) with|true=>some o|false=>none
  |_=>none
def zl1 {ops:Array Oper} {k n:Nat} {F:PF} {o:Oper} (h:dec ops k n F=some o):
  ops[k]?=some o/\zk1 n o.dst=true/\(∀cs b,o.op≠.select cs b)/\(∀x∈o.op.operands,(ev F x).isSome=true)/\
  ∀ {ds:List Deferred} {a:Act},Fr n ds F a->Region.wanted o (yielded ops a.tmps)=true:=by
 unfold dec at h;split at h
 ·cases h
 ·rename_i o' ho;split at h
  ·rename_i hw;split at h
   ·rename_i hb;simp only [X0] at h;subst h;simp only [X3] at hb;refine ⟨ho,hb.1,?_,?_,fun hfr=>yj7 hfr hw⟩
    ·intro cs b e;have:=hb.2.1;simp [zd3,e] at this
    ·intro x hx;have:=hb.2.2;unfold yd1 at this
     grind
   ·cases h
  ·cases h
def jn8 {n ds F a o} (h:Fr n ds F a) (d: ∀cs b,o.op≠.select cs b) (e: ∀x∈o.op.operands,(ev F x).isSome=true):
  execOp a.eval o=execOp (evD F) o:=
 execOp_congr o d fun x f=>by
  obtain ⟨v,c⟩:=N3.1 (e x f);rw [h.eval c];simp [evD,c]
def step1 (P:Program) (ops:Array Oper) (k n:Nat) (F:PF) (w:World):Option (PF×World):=
 match ops[k]? with
 |none=>none
 |some o=>
  match zx3 ops F o with
  |some true=>
   match (zk1 n o.dst&&(zd3 o&&yd1 F o)) with
   |true=>
    match (execOp (evD F) o).run P w with
    | .ok (.value v) w'=>some (upd F o.dst v,w')
    | .ok .skip w'=>some (upd F o.dst undef,w')
    |_=>none
   |false=>none
  |some false=>match zk1 n o.dst with|true=>some (upd F o.dst undef,w)|false=>none
  |none=>none
def evK (P:Program) (ops:Array Oper) (n:Nat):Nat->Nat->PF->World->Option (PF×World)
 |0,_,F,w=>some (F,w)
 |m+1,k,F,w=>match step1 P ops k n F w with|some (F',w')=>evK P ops n m (k+1) F' w'|none=>none
def WR (P:Program) (ops:Array Oper) (Q:Exit->Act->World->Prop) (k n:Nat) (ds:List Deferred) (F:PF) (w:World):Prop:=
 ∀a,Fr n ds F a->wpList P ops Q (ops.toList.drop k) a w
def CW (P:Program) (c:Code) (Q:Exit->Act->World->Prop) (n:Nat) (ds:List Deferred) (F:PF) (w:World):Prop:=
 ∀a,Fr n ds F a->c.wp P Q a w
section
variable {P:Program} {ops:Array Oper} {Q:Exit->Act->World->Prop} {k n:Nat} {ds:List Deferred} {F F':PF} {w w':World}
def zt6 {o:Oper} (h:ops[k]?=some o):ops.toList.drop k=o::ops.toList.drop (k+1):=by
 have hlt:k<ops.toList.length:=by
  grind
 rw [J8 hlt]
 grind
def WR.step {o} (c:dec ops k n F=some o)
  (h: ∀a,Fr n ds F a->execOp a.eval o=execOp (evD F) o->o.wp P a w (wpList P ops Q (ops.toList.drop (k+1))) Q):WR P ops Q k n ds F w:=by
 intro a b;obtain ⟨d,_,e,f,g⟩:=zl1 c;rw [zt6 d];unfold wpList;rw [if_pos (g b)];exact .inl (h a b (jn8 b e f))
def WR.val {o v} (b:dec ops k n F=some o) (c:(execOp (evD F) o).run P w=.ok (.value v) w')
  (K:WR P ops Q (k+1) n ds (upd F o.dst v) w'):WR P ops Q k n ds F w:=
 .step b fun a d e=>by
  unfold Oper.wp;rw [e,c];exact K _ (d.upd (zl1 b).2.1 v)
def WR.skip {o} (b:dec ops k n F=some o) (c:(execOp (evD F) o).run P w=.ok .skip w')
  (K:WR P ops Q (k+1) n ds (upd F o.dst undef) w'):WR P ops Q k n ds F w:=
 .step b fun a d e=>by
  unfold Oper.wp;rw [e,c];exact K _ (d.upd (zl1 b).2.1 undef)
def WR.enter {o:Oper} {f:FuncId} {args:Array Value} {R:Ending->World->Prop} (hd:dec ops k n F=some o) (hr:(execOp (evD F) o).run P w=.ok (.enter f args) w')
  (hc:Calls P f args w' R) (K: ∀v w'',R (.returned v) w''->WR P ops Q (k+1) n ds (upd F o.dst v) w'')
  (hp: ∀ch w'',R (.panicked ch) w''-> ∀a,Fr n ds F a->Q (.panic ch) a w'') (ho: ∀w'',R .outgrown w''->LetsOut Q):WR P ops Q k n ds F w:=
 .step hd fun a ha he=>by
  unfold Oper.wp;rw [he,hr];refine hc.mono fun e w'' hR=>?_;cases e with
  |returned v=>exact K v w'' hR _ (ha.upd (zl1 hd).2.1 v)
  |panicked ch=>exact hp ch w'' hR a ha
  |outgrown=>exact ho w'' hR
def WR.throw {o v} (b:dec ops k n F=some o) (c:(execOp (evD F) o).run P w=.halt (.panic v) w')
  (K: ∀a,Fr n ds F a->Q (.panic [{v,recovered:=false}]) a w'):WR P ops Q k n ds F w:=
 .step b fun a d e=>by
  unfold Oper.wp;rw [e,c];exact K a d
def vl3 (h:step1 P ops k n F w=some (F',w')) (K:WR P ops Q (k+1) n ds F' w'):WR P ops Q k n ds F w:=by
 unfold step1 at h;split at h
 ·cases h
 ·rename_i o f;split at h
  ·rename_i c;split at h
   ·rename_i d;have g:dec ops k n F=some o:=by unfold dec;simp only [f,c,d]
    split at h
    ·rename_i v b e;simp only [X0,X7] at h;obtain ⟨rfl,rfl⟩:=h;exact .val g e K
    ·rename_i b e;simp only [X0,X7] at h;obtain ⟨rfl,rfl⟩:=h;exact .skip g e K
    ·cases h
   ·cases h
  ·rename_i c;split at h
   ·rename_i d;simp only [X0,X7] at h;obtain ⟨rfl,rfl⟩:=h;intro a i;rw [zt6 f];unfold wpList;rw [if_neg (by rw [yj7 i c];simp)];exact K _ (i.upd d undef)
   ·cases h
  ·cases h
def WR.evs: ∀(m k F w),evK P ops n m k F w=some (F',w')->WR P ops Q (k+m) n ds F' w'->WR P ops Q k n ds F w
 |0,_,_,_,h,K=>by
  simp only [evK,X0,X7] at h;obtain ⟨rfl,rfl⟩:=h;exact K
 |m+1,k,F,w,h,K=>by
  unfold evK at h;split at h
  ·rename_i a b c;exact vl3 c (WR.evs m (k+1) a b h (by rw [U2,J0 1 m];exact K))
  ·cases h
def WR.keep (l) (h:F.keep l=F') (K:WR P ops Q k n ds F' w):WR P ops Q k n ds F w:=fun a b=>K a (b.keep l h)
def WR.batch (m F') (h:(match evK P ops n m k F w with|some (G,a)=>some (G.keep (F'.map Prod.fst),a)|none=>none)=some (F',w)) (K:WR P ops Q (k+m) n ds F' w):WR P ops Q k n ds F w:=by
 split at h
 ·rename_i G a b;simp only [X0,X7] at h;obtain ⟨c,rfl⟩:=h;exact .evs m k F _ b (.keep _ c K)
 ·cases h
def WR.fin (b:Nat.ble ops.size k=true) (K: ∀a,Fr n ds F a->Q .normal a w):WR P ops Q k n ds F w:=fun a c=>by
 rw [N7 (by simpa using Y1 b)];exact K a c
def CW.region {id} (h:WR P ops Q 0 n ds F w):CW P (.region id ops false) Q n ds F w:=fun a b=>wp_region_list (by simpa using h a b)
def CW.seq {x y} (h: ∀K:Act->World->Prop,(∀a w,y.wp P Q a w->K a w)->CW P x (Exit.then K Q) n ds F w):CW P (.seq x y) Q n ds F w:=
 fun a b=>wp_seq_k fun K c=>h K c a b
def go {y:Code} {K:Act->World->Prop} (b: ∀a w,y.wp P Q a w->K a w) (h:CW P y Q n ds F w): ∀a,Fr n ds F a->K a w:=fun a c=>b a w (h a c)
def CW.keep {c} (l) (h:F.keep l=F') (K:CW P c Q n ds F' w):CW P c Q n ds F w:=fun a b=>K a (b.keep l h)
def CW.skip (K: ∀a,Fr n ds F a->Q .normal a w):CW P .skip Q n ds F w:=fun a b=>wp_skip (K a b)
def CW.ret (K: ∀a,Fr n ds F a->Q .ret a w):CW P .ret Q n ds F w:=fun a b=>wp_ret (K a b)
def CW.exit {id} (K: ∀a,Fr n ds F a->Q (.exit id) a w):CW P (.exit id) Q n ds F w:=fun a b=>wp_exit (K a b)
def CW.block {id c} (h:CW P c (Exit.inBlock id Q) n ds F w):CW P (.block id c) Q n ds F w:=fun a b=>wp_block (h a b)
def CW.no {c x y} (d:ev F c=some (.bool false)) (h:CW P y Q n ds F w):CW P (.cond c x y) Q n ds F w:=fun a b=>wp_cond_false (b.eval d) (h a b)
def CW.cond {c x y} (t) (d:ev F c=some (.bool t)) (e:t=true->CW P x Q n ds F w) (f:t=false->CW P y Q n ds F w):CW P (.cond c x y) Q n ds F w:=
 fun a b=>wp_cond_split (b.eval d) (fun h=>e h a b) (fun h=>f h a b)
def zak6 {b:Type} (n:Nat) (ds:List Deferred) (I:b->World->Prop) (c:b->PF) (d:b->Nat) (Q:Exit->Act->World->Prop) (m:Nat):Exit->Act->World->Prop
 | .normal,a,w=> ∃s,I s w/\d s<m/\Fr n ds (c s) a
 |e,a,w=>Q e a w
def CW.loop {σ:Type} {c:Code} (I:σ->World->Prop) (FF:σ->PF) (μ:σ->Nat) (s:σ) (h0:I s w) (l:List Nat) (hF:F.keep l=FF s)
  (round: ∀s w,I s w->CW P c (zak6 n ds I FF μ Q (μ s)) n ds (FF s) w):CW P (.loop c) Q n ds F w:=by
 intro a ha
 classical
 have hmeas: ∀a w,(∃s,I s w/\Fr n ds (FF s) a)-> ∃m,(∃s,I s w/\Fr n ds (FF s) a/\μ s=m)/\ ∀s,I s w->Fr n ds (FF s) a->m<=μ s:=by
  intro a w ⟨s,hs,hf⟩;have key: ∀m,(∃s,I s w/\Fr n ds (FF s) a/\μ s=m)-> ∃m,(∃s,I s w/\Fr n ds (FF s) a/\μ s=m)/\ ∀s,I s w->Fr n ds (FF s) a->m<=μ s:=by
   intro m;induction m using Nat.strongRecOn with
   |_ m ih=>
    intro hm;by_cases hex: ∃s,I s w/\Fr n ds (FF s) a/\μ s<m
    ·obtain ⟨s',h1,h2,h3⟩:=hex;exact ih (μ s') h3 ⟨s',h1,h2,rfl⟩
    ·grind
  exact key (μ s) ⟨s,hs,hf,rfl⟩
 refine wp_loop (fun a w=> ∃s,I s w/\Fr n ds (FF s) a) (fun a w=>if h: ∃s,I s w/\Fr n ds (FF s) a then Classical.choose (hmeas a w h) else 0) ⟨s,h0,ha.keep l hF⟩ ?_;intro a w hI;have hc:=Classical.choose_spec (hmeas a w hI);obtain ⟨⟨s,hs,hf,hm⟩,_⟩:=hc;simp only [dif_pos hI];rw [<-hm];refine wp_mono (round s w hs a hf) fun e a' w' hq=>?_;cases e with
 |normal=>
  obtain ⟨s',h1,h2,h3⟩:=hq;have hI': ∃s,I s w'/\Fr n ds (FF s) a':=⟨s',h1,h3⟩;refine ⟨hI',?_⟩
  grind
 |exit id=>exact hq
 |goto l=>exact hq
 |ret=>exact hq
 |panic ch=>exact hq
 |outgrown=>exact hq
end
section
variable {P:Program} {n:Nat} {F:PF} {w:World}
def jm8 (l:List Value):Nat->PF
 |i=>match l with| []=> []|v::r=>(i,v)::jm8 r (i+1)
def yf4 (l:List Value): ∀(i j:Nat) (v:Value),(jm8 l i).get j=some v->i<=j/\l[j-i]?=some v:=by
 induction l with
 |nil=>intro i j v h;simp [jm8,PF.get] at h
 |cons u r ih=>
  intro i j v h;simp only [jm8,PF.get] at h;split at h
  ·rename_i hb;have:=X1 hb;subst this;simpa using h
  ·grind
def zo6 {f fn c args R} (b:P.funcs[f]?=some fn) (d:fn.body=some c) (e:fn.ntmps=n) (g:Nat.ble args.size n=true)
  (l) (hF:(jm8 args.toList 0).keep l=F) (h:CW P c (bodyPost P fn R) n [] F w):Calls P f args w R:=by
 have j:args.size<=n:=Y1 g;refine calls_of_wp b d (h _ (Fr.keep ⟨?_,rfl,?_⟩ l hF))
 ·simp [e];omega
 ·intro i v m;obtain ⟨_,a⟩:=yf4 args.toList 0 i v m;simp only [M4,Array.getElem?_toList] at a;have o:=(Y3.1 a).1;refine ⟨?_,by omega⟩;rw [Y7,Array.getElem?_append_left o,a];rfl
def kp8 (F:PF):List ResultVar->Option (List Value)
 | []=>some []
 | .tmp t::r=>match F.get t,kp8 F r with|some v,some l=>some (v::l)|_,_=>none
 | .cell _ _::_=>none
def wg6 (fn:Func) (F:PF):Option Value:=match kp8 F fn.results.toList with|some [v]=>some v|some l=>some (.tuple l.toArray)|none=>none
def vc8 {ds a} (b:Fr n ds F a) (f:ResultVar->Sem Value) (d: ∀t,f (.tmp t)=Pure.pure (a.tmps.getD t undef)): ∀(l:List ResultVar) (vs:List Value),kp8 F l=some vs->
  (l.mapM f).run P w=.ok vs w
 | [],vs,h=>by simp [kp8] at h;subst h;rfl
 | .tmp t::r,vs,h=>by
  unfold kp8 at h;split at h
  ·rename_i v l g i;simp only [X0] at h;subst h;have e:=(b.val t v g).1;have j:=vc8 b f d r l i;simp only [T2,Sem.run_bind,Sem.run_pure,Result.andThen_ok,j,e,d]
  ·cases h
 | .cell c t::r,vs,h=>by simp [kp8] at h
def yh1 {ds:List Deferred} {a:Act} (b:Fr n ds F a) {fn:Func} {f:ResultVar->Sem Value} (c: ∀t,f (.tmp t)=Pure.pure (a.tmps.getD t undef)) {vs:List Value} (h:kp8 F fn.results.toList=some vs):
  (fn.results.mapM f).run P w=.ok vs.toArray w:=by
 have:=vc8 (P:=P) (w:=w) b f c fn.results.toList vs h;rw [T7];simp only [Sem.run_map,this,Result.andThen_ok]
def vc9 {fn ds a} (d:Fr n ds F a) {v} (h:wg6 fn F=some v):(results fn a.tmps).run P w=.ok v w:=by
 unfold wg6 at h;split at h
 ·rename_i u b;simp only [X0] at h;subst h;unfold results;rw [Sem.run_bind,yh1 d (fun t=>rfl) b];rfl
 ·rename_i l c b;simp only [X0] at h;subst h;unfold results;rw [Sem.run_bind,yh1 d (fun t=>rfl) b];have:l.toArray.size≠1:=by
   intro e
   match l,e with
   | [u],_=>exact c u rfl
  simp only [Result.andThen_ok,this,dite_false];rfl
 ·cases h
def ue4 {fn R} (v) (h:wg6 fn F=some v) (c:R (.returned v) w): ∀a,Fr n [] F a->bodyPost P fn R .ret a w:=
 fun _ b=>⟨b.defers,v,vc9 b h,c⟩
def endV {fn R} (v) (h:wg6 fn F=some v) (c:R (.returned v) w): ∀a,Fr n [] F a->bodyPost P fn R .normal a w:=
 fun _ b=>⟨b.defers,v,vc9 b h,c⟩
end
end Go.V
namespace Go.V
open Go.RowKit
structure Chg (S:List Nat) (w w':World):Prop where
 os:w'.os=w.os
 tape:w'.tape=w.tape
 output:w'.output=w.output
 size:w.heap.size<=w'.heap.size
 block: ∀k,k<w.heap.size->k∉S->w'.heap[k]?=w.heap[k]?
def Chg.refl (S w):Chg S w w:=⟨rfl,rfl,rfl,W6 _,fun _ _ _=>rfl⟩
def Chg.step {S T w0 w w'} (h:Chg S w0 w) (a:Chg T w w') (e: ∀t∈T,t∈S\/w0.heap.size<=t):Chg S w0 w':=
 ⟨a.os.trans h.os,a.tape.trans h.tape,a.output.trans h.output,W8 h.size a.size,fun k b c=>
  (a.block k (V3 b h.size) fun f=>by rcases e k f with d|d;exact c d;omega).trans (h.block k b c)⟩
def Chg.pure {S w0 w w'} (h:Chg S w0 w) (a:Chg [] w w'):Chg S w0 w':=h.step a (by simp)
def Chg.weak {S T w w'} (h:Chg T w w') (a: ∀t∈T,t∈S):Chg S w w':=
 ⟨h.os,h.tape,h.output,h.size,fun k b c=>h.block k b fun d=>c (a k d)⟩
def Chg.drew (w):Chg [] w {w with drawn:=w.drawn+1}:=⟨rfl,rfl,rfl,W6 _,fun _ _ _=>rfl⟩
def Chg.below {w w'} (h:Chg [] w w'):Below w.heap.size w w':=⟨h.os,h.tape,h.output,h.size,fun k a=>h.block k a (by simp)⟩
def Chg.alloc (w o):Chg [] w (w.alloc o):=⟨rfl,rfl,rfl,by simp,fun k a _=>Below.heap_alloc w o k a⟩
def Blk (w:World) (g:Nat) (c:Array Value) (e:TypeId):Prop:=w.heap[g]?=some (.cells c e (0,0))
def Blk.lt {w g c e} (h:Blk w g c e):g<w.heap.size:=(Y3.1 h).1
def Blk.chg {S w w' g c e} (h:Blk w g c e) (a:Chg S w w') (b:g∉S):Blk w' g c e:=(a.block g h.lt b).trans h
def Blk.pure {w w' g c e} (h:Blk w g c e) (a:Chg [] w w'):Blk w' g c e:=h.chg a (by simp)
def Chg.step1 {S g w0 w w'} (h:Chg S w0 w) (b:Chg [g] w w') (c:w0.heap.size<=g):Chg S w0 w':=h.step b (by intro t a;simp only [Z0,M8,or_false] at a;subst a;exact .inr c)
structure New (w w':World) (g:Nat) (c:Array Value) (e:TypeId):Prop where
 blk:Blk w' g c e
 chg:Chg [] w w'
 fresh:w.heap.size<=g
def New.alloc (w c e):New w (w.alloc (.cells c e)) w.heap.size c e:=⟨heap_alloc_new w _,Chg.alloc w _,W6 _⟩
def bk:Option Addr->Nat|some a=>a.block|none=>0
def of:Option Addr->Nat|some a=>a.off|none=>0
def Rg (w:World) (ad:Option Addr) (cs:List Value):Prop:=
 ∀j u,cs[j]?=some u->ad=some ⟨bk ad,of ad,none⟩/\w.cell? ⟨bk ad,of ad+j,none⟩=some u
def Rg.nil (w ad):Rg w ad []:=fun j u h=>by simp at h
def Rg.chg {S w w' ad cs} (h:Rg w ad cs) (d:Chg S w w') (a:bk ad∉S\/cs= []):Rg w' ad cs:=by
 intro j u b;obtain ⟨e,c⟩:=h j u b;refine ⟨e,?_⟩;rcases a with a|a
 ·exact (World.cell?_of_block (d.block _ (World.block_lt_of_cell? w _ c) a)).trans c
 ·subst a;simp at b
def Rg.pure {w w' ad cs} (h:Rg w ad cs) (a:Chg [] w w'):Rg w' ad cs:=h.chg a (.inl (by simp))
def Rg.lt {w ad cs} (h:Rg w ad cs) (a:cs≠ []):bk ad<w.heap.size:=by
 cases cs with
 |nil=>exact absurd rfl a
 |cons u r=>exact World.block_lt_of_cell? w _ (h 0 u rfl).2
def Rg.blk {w g a c e} (h:Blk w g c e) (cs) (b: ∀j u,cs[j]?=some u->c[a+j]?=some u):Rg w (some ⟨g,a,none⟩) cs:=by
 intro j u d;refine ⟨rfl,?_⟩;have:=cell_of_row w g (a+j) c e (0,0) h;show w.cell? ⟨g,a+j,none⟩=some u;rw [this];exact b j u d
def Rg.sub {w ad cs} (h:Rg w ad cs) (l m a) (c:ad=some ⟨bk ad,of ad,none⟩->a=some ⟨bk ad,of ad+l,none⟩):Rg w a ((cs.drop l).take m):=by
 intro j u b;rw [Z3] at b;split at b
 ·rw [Q6] at b;obtain ⟨d,f⟩:=h (l+j) u b;have e:=c d;subst e;exact ⟨rfl,by simpa [bk,of,U2] using f⟩
 ·cases b
def Own (w:World) (B:Nat) (e:TypeId) (sz:Nat) (ad:Option Addr) (n cap:Nat) (cs:List Value):Prop:=
 cs.length=n*sz/\((Value.slice ad n cap=.slice none 0 0/\n=0)\/ ∃(g cap':Nat) (cur:Array Value),Value.slice ad n cap=.slice (some ⟨g,0,none⟩) n cap'/\B<=g/\w.heap[g]?=some (.cells cur e (0,0))/\n<=cap'/\cap'<=maxLen/\cap'*sz<=cur.size/\cur.toList.take (n*sz)=cs)
def Own.of {w:World} {B:Nat} {e:TypeId} {sz:Nat} {ad:Option Addr} {n cap:Nat} {cs:List Value} (h:w.ownsRow B e sz (.slice ad n cap) n cs):Own w B e sz ad n cap cs:=by
 obtain ⟨h1,h2|⟨g,cap',cur,h3,h4,h5,h6,h7,h8,h9⟩⟩:=h
 ·exact ⟨h1,.inl h2⟩
 ·exact ⟨h1,.inr ⟨g,cap',cur,h3,h4,h5,h6,h7,Nat.le_of_eq h8.symm,h9⟩⟩
def Own.len {w B e sz ad n cap cs} (h:Own w B e sz ad n cap cs):cs.length=n*sz:=h.1
def Own.cases {w:World} {B:Nat} {e:TypeId} {sz:Nat} {ad:Option Addr} {n cap:Nat} {cs:List Value} (h:Own w B e sz ad n cap cs):
  (ad=none/\n=0/\cap=0/\cs= [])\/ ∃c,ad=some ⟨bk ad,0,none⟩/\B<=bk ad/\Blk w (bk ad) c e/\n<=cap/\cap<=maxLen/\cap*sz<=c.size/\c.toList.take (n*sz)=cs:=by
 obtain ⟨h1,h2⟩:=h;rcases h2 with ⟨h2,h3⟩|⟨g,cap',cur,hv,hb,hg,hn,hm,hs,ht⟩
 ·simp only [Value.slice.injEq] at h2;obtain ⟨rfl,rfl,rfl⟩:=h2
  grind
 ·simp only [Value.slice.injEq,true_and] at hv;obtain ⟨rfl,rfl⟩:=hv;exact .inr ⟨cur,rfl,hb,hg,hn,hm,hs,ht⟩
def Own.rg {w:World} {B:Nat} {e:TypeId} {sz:Nat} {ad:Option Addr} {n cap:Nat} {cs:List Value} (h:Own w B e sz ad n cap cs):Rg w ad cs:=by
 rcases h.cases with ⟨_,_,_,rfl⟩|⟨c,had,_,hb,_,_,_,ht⟩
 ·exact Rg.nil _ _
 ·rw [had];refine Rg.blk hb cs fun j u hu=>?_
  grind
def Own.chg {S w w' B e sz ad n cap cs} (h:Own w B e sz ad n cap cs) (j:Chg S w w') (a:bk ad∉S\/ad=none):Own w' B e sz ad n cap cs:=by
 obtain ⟨l,d⟩:=h;refine ⟨l,?_⟩;rcases d with d|⟨g,b,f,c,m,i,r⟩
 ·exact .inl d
 ·refine .inr ⟨g,b,f,c,m,?_,r⟩;simp only [Value.slice.injEq,true_and] at c;rcases a with a|a
  ·rw [c.1] at a;exact (j.block g (Y3.1 i).1 a).trans i
  ·rw [a] at c;simp at c
def Own.pure {w w' B e sz ad n cap cs} (h:Own w B e sz ad n cap cs) (a:Chg [] w w'):Own w' B e sz ad n cap cs:=h.chg a (.inl (by simp))
def Own.nil (w:World) (B:Nat) (e:TypeId) (sz:Nat):Own w B e sz none 0 0 []:=.of (World.ownsRow_nil w B e sz)
def Own.le {w B e sz ad n cap cs} (h:Own w B e sz ad n cap cs):n<=cap/\cap<=maxLen:=by
 rcases h.cases with ⟨_,rfl,rfl,_⟩|⟨c,_,_,_,a,b,_⟩
 ·exact ⟨W6 _,U8 _⟩
 ·exact ⟨a,b⟩
def Own.ge {w B e sz ad n cap cs} (h:Own w B e sz ad n cap cs):ad=none\/(B<=bk ad/\bk ad<w.heap.size):=by
 rcases h.cases with ⟨a,_⟩|⟨c,_,a,b,_⟩
 ·exact .inl a
 ·exact .inr ⟨a,b.lt⟩
def ldv (P:Program) (t:TypeId) (c:Array Value) (o:Nat):Option Value:=
 match P.info? t,P.underlying t with
 |some i,some (.struct _)|some i,some (.array _ _)=>match Nat.ble (o+i.size) c.size with|true=>some (.agg (c.extract o (o+i.size)))|false=>none
 |some _,some _=>c[o]?
 |_,_=>none
def zk7 (P:Program) (t:TypeId):Bool:=match P.underlying t with|some (.struct _)|some (.array _ _)=>false|some _=>true|none=>false
def ye3:TypeDesc->Bool| .struct _=>true| .array _ _=>true|_=>false
def zq0 {P t d} (h:P.underlying t=some d) (w):(isAgg t).run P w=.ok (ye3 d) w:=by
 unfold isAgg;rw [Sem.run_bind];have:(underlying t).run P w=.ok d w:=by simp [underlying,h]
 rw [this];cases d<;>rfl
def zg9 {P t} (h:zk7 P t=true) {a w v} (b:w.cell? a=some v):(loadVar t a).run P w=.ok v w:=by
 unfold zk7 at h;cases hd:P.underlying t with
 |none=>rw [hd] at h;cases h
 |some d=>
  rw [hd] at h;unfold loadVar;rw [Sem.run_bind,zq0 hd];cases d<;>first|(cases h;done)|simp [ye3,load,Sem.run,b]
def jy5 (w:World) (g:Nat) (c:Array Value) (e:TypeId) (d:Nat×Nat) (f:w.heap[g]?=some (.cells c e d)) (o n:Nat) (i:o+n<=c.size) (P:Program):
  (loadCells ⟨g,o,none⟩ n).run P w=.ok (c.extract o (o+n)) w:=by
 have:=run_loadCells_list (P:=P) (w:=w) ⟨g,o,none⟩ (c.extract o (o+n)).toList (fun j v b=>by
  have a:(⟨g,o,none⟩:Addr).add j=⟨g,o+j,none⟩:=by unfold Addr.add;split<;>simp_all
  rw [a,cell_of_row w g (o+j) c e d f];simp only [Array.getElem?_toList,Array.getElem?_extract] at b;split at b
  ·exact b
  ·cases b)
 have h:(c.extract o (o+n)).toList.length=n:=by simp;omega
 rw [h] at this;rw [this]
def zn4 {P:Program} {t:TypeId} {w:World} {g o:Nat} {c:Array Value} {e:TypeId} {fr:Nat×Nat} {v:Value} (hb:w.heap[g]?=some (.cells c e fr)) (h:ldv P t c o=some v):
  (loadVar t ⟨g,o,none⟩).run P w=.ok v w:=by
 unfold ldv at h;have agg: ∀(i:TypeInfo) (d:TypeDesc),P.info? t=some i->P.underlying t=some d->ye3 d=true->
   (match Nat.ble (o+i.size) c.size with|true=>some (Value.agg (c.extract o (o+i.size)))|false=>none)=some v->(loadVar t ⟨g,o,none⟩).run P w=.ok v w:=by
  intro i d hi hd hag hv;split at hv
  ·rename_i hle;simp only [X0] at hv;subst hv;have hle':=Y1 hle;unfold loadVar;rw [Sem.run_bind,zq0 hd,hag];have hs:(sizeOf t).run P w=.ok i.size w:=by simp [sizeOf,typeInfo,hi]
   simp only [Result.andThen_ok,if_true,Sem.run_bind,hs,jy5 w g c e fr hb o i.size hle' P,Sem.run_pure]
  ·cases hv
 split at h
 ·rename_i i _ hi hd;exact agg i _ hi hd rfl h
 ·rename_i i _ _ hi hd;exact agg i _ hi hd rfl h
 ·rename_i i d hn1 hn2 hi hd;refine zg9 ?_ (by rw [cell_of_row w g o c e fr hb];exact h);unfold zk7
  grind
  all_goals simp_all
 ·cases h
def yj2 (c:Array Value) (o:Nat):List Value->Array Value
 | []=>c
 |v::r=>yj2 (c.setIfInBounds o v) (o+1) r
def stv (P:Program) (t:TypeId) (c:Array Value) (o:Nat) (v:Value):Option (Array Value):=
 match P.info? t with
 |some i=>match (Nat.beq v.cells.size i.size&&(Nat.ble (o+i.size) c.size&&v.cells.toList.all Value.oneCell')) with|true=>some (yj2 c o v.cells.toList)|false=>none
 |none=>none
def zk6 (P e g): ∀(vs o i c w),Blk w g c e->o+i+vs.length<=c.size->(∀v∈vs,v.oneCell'=true)->
  ∃w',(storeCells ⟨g,o,none⟩ vs i).run P w=.ok () w'/\Blk w' g (yj2 c (o+i) vs) e/\Chg [g] w w'
 | [],o,i,c,w,b,_,_=>⟨w,rfl,b,Chg.refl _ _⟩
 |v::r,o,i,c,w,b,p,m=>by
  simp only [U3] at p;have d:(⟨g,o,none⟩:Addr).add i=⟨g,o+i,none⟩:=by unfold Addr.add;split<;>simp_all
  have a:w.cell? ⟨g,o+i,none⟩=some c[o+i]:=by
   rw [cell_of_row w g (o+i) c e (0,0) b,Z6 (by omega)]
  have f:=frozen_of_row w g (o+i) c e b;have h:(store ((⟨g,o,none⟩:Addr).add i) v).run P w=.ok () (w.setCell ⟨g,o+i,none⟩ v):=by
   rw [d];have:=run_store P w ⟨g,o+i,none⟩ v .plain (m v (by simp));rw [this];simp [a,f]
  have j:Blk (w.setCell ⟨g,o+i,none⟩ v) g (c.setIfInBounds (o+i) v) e:=heap_setCell_same w g (o+i) c e v b;obtain ⟨w',q,s,t⟩:=zk6 P e g r o (i+1) _ _ j (by simp;omega) (fun u x=>m u (by simp [x]));refine ⟨w',?_,s,?_⟩
  ·unfold storeCells;rw [Sem.run_bind,h];exact q
  ·have l:Chg [g] w (w.setCell ⟨g,o+i,none⟩ v):=⟨rfl,rfl,rfl,by simp,fun k _ y=>heap_setCell_other w _ k v (by simpa using y)⟩;exact l.step t (by simp)
def jd8 {P:Program} {t:TypeId} {w:World} {g o:Nat} {c c':Array Value} {e:TypeId} {v:Value} (hb:Blk w g c e) (h:stv P t c o v=some c'):
  ∃w',(storeVar t ⟨g,o,none⟩ v).run P w=.ok () w'/\Blk w' g c' e/\Chg [g] w w':=by
 unfold stv at h;split at h
 ·rename_i i hi;split at h
  ·rename_i hok;simp only [X0] at h;subst h;simp only [X3] at hok;have hsz:v.cells.size=i.size:=X1 hok.1;have hle:=Y1 hok.2.1;have hone: ∀u∈v.cells.toList,u.oneCell'=true:=by
    grind
   obtain ⟨w',h1,h2,h3⟩:=zk6 P e g v.cells.toList o 0 c w hb (by simp [hsz];omega) hone;refine ⟨w',?_,h2,h3⟩;have hs:(sizeOf t).run P w=.ok i.size w:=by simp [sizeOf,typeInfo,hi]
   unfold storeVar;simp only [Sem.run_bind,hs,Result.andThen_ok,hsz,ne_eq,not_true_eq_false,if_false,h1]
  ·cases h
 ·cases h
section
variable {P:Program} {ops:Array Oper} {Q:Exit->Act->World->Prop} {k n:Nat} {ds:List Deferred} {F:PF} {w:World}
def qo2 (ops:Array Oper) (k n:Nat) (F:PF):Option (Option Tmp×TypeId×Value):=
 match dec ops k n F with|some ⟨dst,.box e x,_,_,_,_⟩=>some (dst,e,evD F x)|_=>none
def WR.box {dst e v} (a:qo2 ops k n F=some (dst,e,v)) (c) (f:v.cells=c)
  (K: ∀g w',New w w' g c e->WR P ops Q (k+1) n ds (upd F dst (.pointer (some ⟨g,0,none⟩))) w'):WR P ops Q k n ds F w:=by
 unfold qo2 at a;split at a
 ·rename_i d h x ty i j l b;simp only [X0,X7] at a;obtain ⟨rfl,rfl,rfl⟩:=a;subst f;exact .val b (v:=.pointer (some ⟨w.heap.size,0,none⟩)) (w':=w.alloc (.cells (evD F x).cells h)) rfl (K _ _ (New.alloc w _ _))
 ·cases a
def yz3 (ops:Array Oper) (k n:Nat) (F:PF):Option (Option Tmp×TypeId):=
 match dec ops k n F with|some ⟨dst,.alloc e,_,_,_,_⟩=>some (dst,e)|_=>none
def qt5 (P:Program) (e:TypeId):Option (Array Value):=match P.info? e with|some i=>(match i.zero with|some z=>some z.cells|none=>none)|none=>none
def jj1 {e:TypeId} {c:Array Value} (h:qt5 P e=some c): ∃i z,P.info? e=some i/\i.zero=some z/\z.cells=c:=by
 unfold qt5 at h
 grind
def WR.alloc {dst e} (a:yz3 ops k n F=some (dst,e)) (c) (f:qt5 P e=some c)
  (K: ∀g w',New w w' g c e->WR P ops Q (k+1) n ds (upd F dst (.pointer (some ⟨g,0,none⟩))) w'):WR P ops Q k n ds F w:=by
 unfold yz3 at a;split at a
 ·rename_i d h ty j o p b;simp only [X0,X7] at a;obtain ⟨rfl,rfl⟩:=a;obtain ⟨i,z,l,m,rfl⟩:=jj1 f;refine .val b (v:=.pointer (some ⟨w.heap.size,0,none⟩)) (w':=w.alloc (.cells z.cells h)) ?_ (K _ _ (New.alloc w _ _));simp [execOp,Instr.alloc,zeroValue,typeInfo,l,m,newVar,newRow]
 ·cases a
def zp2 (ops:Array Oper) (k n:Nat) (F:PF):Option (Option Tmp×TypeId×Value):=
 match dec ops k n F with|some ⟨dst,.load t x,_,_,_,_⟩=>some (dst,t,evD F x)|_=>none
def zi9 {dst t p} (a:zp2 ops k n F=some (dst,t,p)): ∃o,dec ops k n F=some o/\o.dst=dst/\
  execOp (evD F) o=(do pure (.value (<-Instr.loadAt t p)):Sem Next):=by
 unfold zp2 at a;split at a
 ·rename_i d e x ty c f g b;simp only [X0,X7] at a;obtain ⟨rfl,rfl,rfl⟩:=a;exact ⟨_,b,rfl,rfl⟩
 ·cases a
def WR.load {dst t g o c e} (b:Blk w g c e) (d:zp2 ops k n F=some (dst,t,.pointer (some ⟨g,o,none⟩))) (v) (f:ldv P t c o=some v)
  (K:WR P ops Q (k+1) n ds (upd F dst v) w):WR P ops Q k n ds F w:=by
 obtain ⟨i,a,rfl,h⟩:=zi9 d;refine .val a (v:=v) (w':=w) ?_ K;rw [h];simp [Instr.loadAt,Instr.sureAddr,zn4 b f]
def WR.load1 {dst t a} (c:zp2 ops k n F=some (dst,t,.pointer (some a))) (d:zk7 P t=true) (v) (e:w.cell? a=some v)
  (K:WR P ops Q (k+1) n ds (upd F dst v) w):WR P ops Q k n ds F w:=by
 obtain ⟨g,b,rfl,f⟩:=zi9 c;refine .val b (v:=v) (w':=w) ?_ K;rw [f];simp [Instr.loadAt,Instr.sureAddr,zg9 d e]
def zn6 (ops:Array Oper) (k n:Nat) (F:PF):Option (TypeId×Value×Value):=
 match dec ops k n F with|some ⟨none,.store t a x,_,_,_,_⟩=>some (t,evD F a,evD F x)|_=>none
def WR.store {t g o c e v} (f:Blk w g c e) (b:zn6 ops k n F=some (t,.pointer (some ⟨g,o,none⟩),v)) (c') (h:stv P t c o v=some c')
  (K: ∀w',Blk w' g c' e->Chg [g] w w'->WR P ops Q (k+1) n ds F w'):WR P ops Q k n ds F w:=by
 unfold zn6 at b;split at b
 ·rename_i q a x ty i r s d;simp only [X0,X7] at b;obtain ⟨rfl,j,rfl⟩:=b;obtain ⟨w',l,m,p⟩:=jd8 (P:=P) f h;refine .skip d (w':=w') ?_ (K w' m p);simp [execOp,Instr.storeAt,Instr.sureAddr,j,l]
 ·cases b
def zq5 (ops:Array Oper) (k n:Nat) (F:PF):Option (Option Tmp×TypeId×Value×Value):=
 match dec ops k n F with|some ⟨dst,.indexAddr t x i,_,_,_,_⟩=>some (dst,t,evD F x,evD F i)|_=>none
def zm3 (P:Program) (t:TypeId):Option Nat:=match P.underlying t with|some (.slice e)=>(P.info? e).map (·.size)|_=>none
def WR.index {dst:Option Tmp} {t:TypeId} {ad:Option Addr} {m cap:Nat} {kk:IntKind} {i:Int} {cs:List Value} (hr:Rg w ad cs) (hd:zq5 ops k n F=some (dst,t,.slice ad m cap,.int kk i)) (sz:Nat) (hsz:zm3 P t=some sz)
  (h0:0<=i) (hi:i<m) (hne:cs≠ []) (j:Nat) (hj:j=i.toNat*sz)
  (K:WR P ops Q (k+1) n ds (upd F dst (.pointer (some ⟨bk ad,of ad+j,none⟩))) w):WR P ops Q k n ds F w:=by
 subst hj;unfold zq5 at hd;split at hd
 ·rename_i d t' x ix ty pos af gd hdec;simp only [X0,X7] at hd;obtain ⟨rfl,rfl,hx,hix⟩:=hd;obtain ⟨b,o,rfl⟩: ∃b o,ad=some ⟨b,o,none⟩:=by
   cases cs with
   |nil=>exact absurd rfl hne
   |cons u r=>exact ⟨_,_,(hr 0 u rfl).1⟩
  unfold zm3 at hsz;split at hsz
  ·rename_i e hu;cases hinf:P.info? e with
   |none=>rw [hinf] at hsz;cases hsz
   |some inf=>
    rw [hinf] at hsz;simp only [Z8,X0] at hsz;refine .val hdec (v:=.pointer (some ⟨b,o+i.toNat*sz,none⟩)) (w':=w) ?_ K;have hs:(sizeOf e).run P w=.ok inf.size w:=by simp [sizeOf,typeInfo,hinf]
    have hul:(underlying t').run P w=.ok (.slice e) w:=by simp [underlying,hu]
    have hadd:(⟨b,o,none⟩:Addr).add (i.toNat*inf.size)=⟨b,o+i.toNat*inf.size,none⟩:=by unfold Addr.add;split<;>simp_all
    simp only [execOp,hx,hix];simp [Instr.indexAt,asIntOf,hul,h0,hi,hs,<-hsz,hadd]
  ·cases hsz
 ·cases hd
def Ret (S:List Nat) (w:World) (R:Value->World->Prop):Ending->World->Prop
 | .returned v,w'=>Chg S w w'/\R v w'
 |_,_=>False
def zu2 (w:World) (v:Value):Ending->World->Prop:=Ret [] w fun u _=>u=v
def zo7 (P:Program) (ops:Array Oper) (k n:Nat) (F:PF) (w:World):Option (Option Tmp×Result Next):=
 match dec ops k n F with|some o=>some (o.dst,(execOp (evD F) o).run P w)|none=>none
def zj0 {w:World} {dst:Option Tmp} {r:Result Next} (h:zo7 P ops k n F w=some (dst,r)): ∃o,dec ops k n F=some o/\o.dst=dst/\(execOp (evD F) o).run P w=r:=by
 unfold zo7 at h
 grind
def WR.call {dst f args S R} (c:zo7 P ops k n F w=some (dst,.ok (.enter f args) w)) (d:Calls P f args w (Ret S w R))
  (K: ∀v w',Chg S w w'->R v w'->WR P ops Q (k+1) n ds (upd F dst v) w'):WR P ops Q k n ds F w:=by
 obtain ⟨o,e,rfl,a⟩:=zj0 c;exact .enter e a d (fun v w' b=>K v w' b.1 b.2) (fun _ _ h=>h.elim) (fun _ h=>h.elim)
def WR.eqF {F':PF} (h:F=F') (K:WR P ops Q k n ds F' w):WR P ops Q k n ds F w:=h▸K
def WQ (P:Program) (ops:Array Oper) (C:World->Prop) (Qf:Act->Prop) (k n:Nat) (ds:List Deferred) (F:PF):Prop:=
 ∀a,Fr n ds F a->wpQuiet P ops C Qf (ops.toList.drop k) a
def CW.regionQ {id} (b:P.follows .mixedOrders=true) (c:Region.lexB .any ops=true)
  (h:WQ P ops (fun w'=>Chg [] w w') (fun d=> ∀w',Chg [] w w'->Q .normal d w') 0 n ds F):CW P (.region id ops true) Q n ds F w:=
 fun a e=>wp_region_quiet (C:=fun w'=>Chg [] w w') b c (Chg.drew w) (by simpa using h a e)
variable {C:World->Prop} {Qf:Act->Prop}
def WQ.step {o v} (d:dec ops k n F=some o) (h: ∀w,C w->Oper.quietUpon P C w v ((execOp (evD F) o).run P w))
  (K:WQ P ops C Qf (k+1) n ds (upd F o.dst v)):WQ P ops C Qf k n ds F:=by
 intro a c;obtain ⟨e,b,f,g,i⟩:=zl1 d;rw [zt6 e];unfold wpQuiet;rw [if_pos (i c)];refine ⟨v,fun w j=>?_,K _ (c.upd b v)⟩;unfold Oper.quietAt;rw [jn8 c f g];exact h w j
def WQ.val {dst} (v) (c: ∀w,zo7 P ops k n F w=some (dst,.ok (.value v) w)) (K:WQ P ops C Qf (k+1) n ds (upd F dst v)):WQ P ops C Qf k n ds F:=by
 obtain ⟨o,d,rfl,_⟩:=zj0 (c default);refine .step d (fun w _=>?_) K;obtain ⟨o',a,_,b⟩:=zj0 (c w);rw [d] at a;cases a;rw [b];exact ⟨rfl,rfl⟩
def WQ.pass {o} (c:ops[k]?=some o) (d:zx3 ops F o=some false) (e:zk1 n o.dst=true) (K:WQ P ops C Qf (k+1) n ds (upd F o.dst undef)):WQ P ops C Qf k n ds F:=by
 intro a b;rw [zt6 c];unfold wpQuiet;rw [if_neg (by rw [yj7 b d];simp)];exact K _ (b.upd e undef)
def yd0 (ops:Array Oper) (k n:Nat) (F:PF):Option (Option Tmp):=
 match ops[k]? with
 |some o=>(match zx3 ops F o with|some false=>(match zk1 n o.dst with|true=>some o.dst|false=>none)|_=>none)
 |none=>none
def WQ.pass1 {dst} (h:yd0 ops k n F=some dst) (K:WQ P ops C Qf (k+1) n ds (upd F dst undef)):WQ P ops C Qf k n ds F:=by
 unfold yd0 at h;split at h
 ·rename_i o a;split at h
  ·rename_i b;split at h
   ·rename_i c;simp only [X0] at h;subst h;exact .pass a b c K
   ·cases h
  ·cases h
 ·cases h
def WQ.call {dst:Option Tmp} {f:FuncId} {args:Array Value} (v:Value) (hr: ∀w,zo7 P ops k n F w=some (dst,.ok (.enter f args) w)) (hC: ∀w w',C w->Chg [] w w'->C w')
  (hc: ∀w,C w->Calls P f args w (zu2 w v)) (K:WQ P ops C Qf (k+1) n ds (upd F dst v)):WQ P ops C Qf k n ds F:=by
 obtain ⟨o,hd,rfl,_⟩:=zj0 (hr default);refine .step hd (fun w hw=>?_) K;obtain ⟨o',hd',_,hrun⟩:=zj0 (hr w);rw [hd] at hd';cases hd';rw [hrun];refine ⟨rfl,(hc w hw).mono fun e w' h=>?_⟩;cases e with
 |returned u=>obtain ⟨h1,h2⟩:=h;exact ⟨by rw [h2],hC w w' hw h1⟩
 |panicked ch=>exact h.elim
 |outgrown=>exact h.elim
def WQ.load1 {dst t a} (c:zp2 ops k n F=some (dst,t,.pointer (some a))) (d:zk7 P t=true) (v) (e: ∀w,C w->w.cell? a=some v)
  (K:WQ P ops C Qf (k+1) n ds (upd F dst v)):WQ P ops C Qf k n ds F:=by
 obtain ⟨h,b,rfl,f⟩:=zi9 c;refine .step b (fun w g=>?_) K;rw [f];simp [Instr.loadAt,Instr.sureAddr,zg9 d (e w g),Oper.quietUpon]
def yh5 {dst t b o m cap q i sz} (f:zq5 ops k n F=some (dst,t,.slice (some ⟨b,o,none⟩) m cap,.int q i)) (a:zm3 P t=some sz)
  (r:0<=i) (s:i<m): ∃j,dec ops k n F=some j/\j.dst=dst/\ ∀w,(execOp (evD F) j).run P w=.ok (.value (.pointer (some ⟨b,o+i.toNat*sz,none⟩))) w:=by
 unfold zq5 at f;split at f
 ·rename_i d u x B ty v D E g;simp only [X0,X7] at f;obtain ⟨rfl,rfl,y,l⟩:=f;unfold zm3 at a;split at a
  ·rename_i e z;cases hinf:P.info? e with
   |none=>rw [hinf] at a;cases a
   |some c=>
    rw [hinf] at a;simp only [Z8,X0] at a;refine ⟨_,g,rfl,fun w=>?_⟩;have A:(sizeOf e).run P w=.ok c.size w:=by simp [sizeOf,typeInfo,hinf]
    have p:(underlying u).run P w=.ok (.slice e) w:=by simp [underlying,z]
    have h:(⟨b,o,none⟩:Addr).add (i.toNat*c.size)=⟨b,o+i.toNat*c.size,none⟩:=by unfold Addr.add;split<;>simp_all
    simp only [execOp,y,l];simp [Instr.indexAt,asIntOf,p,r,s,A,<-a,h]
  ·cases a
 ·cases f
def WQ.index {dst:Option Tmp} {t:TypeId} {ad:Option Addr} {m cap:Nat} {kk:IntKind} {i:Int} {cs:List Value} {w0:World} (hr:Rg w0 ad cs) (hd:zq5 ops k n F=some (dst,t,.slice ad m cap,.int kk i)) (sz:Nat) (hsz:zm3 P t=some sz)
  (h0:0<=i) (hi:i<m) (hne:cs≠ []) (j:Nat) (hj:j=i.toNat*sz)
  (K:WQ P ops C Qf (k+1) n ds (upd F dst (.pointer (some ⟨bk ad,of ad+j,none⟩)))):WQ P ops C Qf k n ds F:=by
 subst hj;obtain ⟨b,o,rfl⟩: ∃b o,ad=some ⟨b,o,none⟩:=by
  cases cs with
  |nil=>exact absurd rfl hne
  |cons u r=>exact ⟨_,_,(hr 0 u rfl).1⟩
 obtain ⟨op,hdec,rfl,hrun⟩:=yh5 hd hsz h0 hi;exact .step hdec (fun w _=>by rw [hrun];exact ⟨rfl,rfl⟩) K
def WQ.keep {F':PF} (l:List Nat) (h:F.keep l=F') (K:WQ P ops C Qf k n ds F'):WQ P ops C Qf k n ds F:=fun a ha=>K a (ha.keep l h)
def WQ.eqF {F':PF} (h:F=F') (K:WQ P ops C Qf k n ds F'):WQ P ops C Qf k n ds F:=h▸K
def WQ.fin (b:Nat.ble ops.size k=true) (K: ∀w',Chg [] w w'-> ∀a,Fr n ds F a->Q .normal a w'):WQ P ops C (fun c=> ∀w',Chg [] w w'->Q .normal c w') k n ds F:=fun a d=>by
 rw [N7 (by simpa using Y1 b)];exact fun w' h=>K w' h a d
end
end Go.V
namespace Go.V
open Go.RowKit
def ze5 (ad:Option Addr):List Nat:=match ad with|some a=> [a.block]|none=> []
def Own.nil0 {w B e sz ad n cap cs} (h:Own w B e sz ad n cap cs) (b:ad=none):n=0/\cap=0:=by
 rcases h.cases with ⟨_,a,d,_⟩|⟨c,a,_⟩
 ·exact ⟨a,d⟩
 ·rw [b] at a;cases a
def Apart (a b:Option Addr):Prop:=a=none\/b=none\/bk a≠bk b
def Apart.symm {a b} (h:Apart a b):Apart b a:=by rcases h with h|h|h;exact .inr (.inl h);exact .inl h;exact .inr (.inr (Ne.symm h))
def Apart.off {a b} (h:Apart a b):bk a∉ze5 b\/a=none:=by
 rcases h with h|h|h
 ·exact .inr h
 ·subst h;exact .inl (by simp [ze5])
 ·left;cases b with
  |none=>simp [ze5]
  |some b=>simpa [ze5,bk] using h
section
variable {P:Program} {ops:Array Oper} {Q:Exit->Act->World->Prop} {k n:Nat} {ds:List Deferred} {F:PF} {w:World}
def zt9 (P:Program) (t:TypeId):Option (TypeId×Nat×Nat×Array Value):=
 match P.underlying t with
 |some (.slice e)=>(match P.info? e with|some i=>(match i.zero with|some z=>(match Nat.beq z.cells.size i.size with|true=>some (e,i.size,i.bytes,z.cells)|false=>none)|none=>none)|none=>none)
 |_=>none
def zh6 {t e sz a b} (h:zt9 P t=some (e,sz,a,b)):
  ∃i z,P.underlying t=some (.slice e)/\P.info? e=some i/\i.zero=some z/\i.size=sz/\i.bytes=a/\z.cells=b/\b.size=sz:=by
 unfold zt9 at h;split at h
 ·rename_i j c;split at h
  ·rename_i i d;split at h
   ·rename_i z f;split at h
    ·rename_i g;simp only [X0,X7] at h;obtain ⟨rfl,rfl,rfl,rfl⟩:=h;exact ⟨i,z,c,d,f,rfl,rfl,rfl,X1 g⟩
    ·cases h
   ·cases h
  ·cases h
 ·cases h
def jc9 (ops:Array Oper) (k n:Nat) (F:PF):Option (Option Tmp×TypeId×Value×Value):=
 match dec ops k n F with|some ⟨dst,.makeSlice t l c,_,_,_,_⟩=>some (dst,t,evD F l,evD F c)|_=>none
def WR.make {dst:Option Tmp} {t e:TypeId} {kl kc:IntKind} {l c:Int} {sz by_:Nat} {zc:Array Value} (hd:jc9 ops k n F=some (dst,t,.int kl l,.int kc c)) (hi:zt9 P t=some (e,sz,by_,zc)) (m m':Nat) (hm:l=(m:Int)) (hm':c=(m':Int)) (hle:m<=m')
  (hbytes:by_*m'<=281474976710656) (h63:m'<=9223372036854775807)
  (K: ∀g w',New w w' g (madeCells zc (m'*sz)) e->WR P ops Q (k+1) n ds (upd F dst (.slice (some ⟨g,0,none⟩) m m')) w'):WR P ops Q k n ds F w:=by
 subst hm hm';unfold jc9 at hd;split at hd
 ·rename_i d t' lx cx ty pos af gd hdec;simp only [X0,X7] at hd;obtain ⟨rfl,rfl,hl,hc⟩:=hd;obtain ⟨i,z,hu,hin,hz,rfl,rfl,rfl,hzs⟩:=zh6 hi;have hb':(i.bytes:Int)*(m':Int)<=281474976710656:=by
   grind
  have hr:=run_make (P:=P) w t' e i z hu hin hz kl kc m m' (by omega) (by omega) hb' (by omega);simp only [Z1] at hr;refine .val hdec (v:=.slice (some ⟨w.heap.size,0,none⟩) m m') (w':=w.alloc (.cells (madeCells z.cells (m'*i.size)) e)) ?_ (K _ _ (New.alloc w _ _));simp [execOp,hl,hc,hr]
 ·cases hd
def Own.made {w w' g b e sz m m'} (h:New w w' g (madeCells b (m'*sz)) e) (a:m<=m') (c:m'<=9223372036854775807):
  Own w' w.heap.size e sz (some ⟨g,0,none⟩) m m' ((madeCells b (m'*sz)).toList.take (m*sz)):=by
 refine ⟨?_,.inr ⟨g,m',madeCells b (m'*sz),rfl,h.fresh,h.blk,a,by unfold maxLen;omega,by simp [size_madeCells],rfl⟩⟩;have:m*sz<=m'*sz:=Q9 _ a;rw [Y6,M0,size_madeCells,J5 this]
def jk3 (ops:Array Oper) (k n:Nat) (F:PF):Option (Option Tmp×TypeId×Value×Value):=
 match dec ops k n F with
 |some ⟨dst,.call {callee:=.builtin .append,args:=a,argTypes:=ats},_,_,_,_⟩=>
  (match a.toList,ats.toList with| [s,x],[t,b]=>(match Nat.beq t b with|true=>some (dst,t,evD F s,evD F x)|false=>none)|_,_=>none)
 |_=>none
def jh2 {dst t s x} (h:jk3 ops k n F=some (dst,t,s,x)):
  ∃o,dec ops k n F=some o/\o.dst=dst/\ ∀w,(execOp (evD F) o).run P w=((Builtin.append_ #[t,t] o.type #[s,x]).run P w).andThen fun v w'=>.ok (.value v) w':=by
 unfold jk3 at h;split at h
 ·rename_i d a b ty i r u c;split at h
  ·rename_i j l g y m e;split at h
   ·rename_i p;have:=X1 p;subst this;simp only [X0,X7] at h;obtain ⟨rfl,rfl,rfl,rfl⟩:=h;refine ⟨_,c,rfl,fun w=>?_⟩;have q:a= #[j,l]:=by rw [<-Array.toArray_toList (xs:=a),m]
    have f:b= #[g,g]:=by rw [<-Array.toArray_toList (xs:=b),e]
    subst q f;simp [execOp,resolve,invoke,builtin]
   ·cases h
  ·cases h
 ·cases h
def WR.append {dst:Option Tmp} {t e:TypeId} {sz by_:Nat} {zc:Array Value} {B:Nat} {ad xd:Option Addr} {m cap xm xcap:Nat} {cs news:List Value} (ho:Own w B e sz ad m cap cs) (hx:Rg w xd news)
  (hd:jk3 ops k n F=some (dst,t,.slice ad m cap,.slice xd xm xcap)) (hi:zt9 P t=some (e,sz,by_,zc)) (hl:news.length=xm*sz) (hsz:0<sz) (h1: ∀u∈news,u.oneCell'=true) (hB:B<=w.heap.size)
  (h63:m+xm<=9223372036854775807) (hby:(m+xm)*by_<=140737488355328) (hnil:xd=none->xm=0/\xcap=0)
  (K: ∀ad' cap' w',Own w' B e sz ad' (m+xm) cap' (cs++news)->Chg (ze5 ad) w w'->(ad'=ad\/w.heap.size<=bk ad')->WR P ops Q (k+1) n ds (upd F dst (.slice ad' (m+xm) cap')) w'):WR P ops Q k n ds F w:=by
 obtain ⟨o,hdec,rfl,hrun⟩:=jh2 hd;obtain ⟨i,z,hu,hin,hz,rfl,rfl,rfl,hzs⟩:=zh6 hi;have hmc:=ho.le;have addE: ∀(b off j:Nat),(⟨b,off,none⟩:Addr).add j=⟨b,off+j,none⟩:=fun b off j=>by unfold Addr.add;split<;>simp_all
 by_cases hx0:xm=0
 ·
  subst hx0;have hn:news= []:=T9 (by simpa using hl);subst hn;have hr:(Builtin.append_ #[t,t] o.type #[.slice ad m cap,.slice xd 0 xcap]).run P w=.ok (.slice ad m cap) w:=by
   cases ad with
   |none=>
    cases xd with
    |none=>simp [Builtin.append_,run_underlying hu,sizeOf,typeInfo,hin,Builtin.lenOf,Builtin.firstCells,hmc.1]
    |some a=>simp [Builtin.append_,run_underlying hu,sizeOf,typeInfo,hin,Builtin.lenOf,Builtin.firstCells,loadCells,loadCellsFrom,hmc.1]
   |some g=>
    cases xd with
    |none=>simp [Builtin.append_,run_underlying hu,sizeOf,typeInfo,hin,Builtin.lenOf,Builtin.firstCells,storeCells,hmc.1]
    |some a=>simp [Builtin.append_,run_underlying hu,sizeOf,typeInfo,hin,Builtin.lenOf,Builtin.firstCells,loadCells,loadCellsFrom,storeCells,hmc.1]
  exact .val hdec (v:=.slice ad (m+0) cap) (w':=w) (by rw [hrun,hr];rfl) (K ad cap w (by simpa using ho) (Chg.refl _ _) (.inl rfl))
 ·have hxm:0<xm:=by omega
  have hne:news≠ []:=by
   intro e;rw [e] at hl;have:=Nat.mul_pos hxm hsz;simp at hl;omega
  obtain ⟨b,off,rfl⟩: ∃b off,xd=some ⟨b,off,none⟩:=by
   cases news with
   |nil=>exact absurd rfl hne
   |cons u r=>exact ⟨_,_,(hx 0 u rfl).1⟩
  have hnews: ∀j v,news[j]?=some v->w.cell? ((⟨b,off,none⟩:Addr).add j)=some v:=fun j v hj=>by rw [addE];exact (hx j v hj).2
  have hlen:(cs++news).length=(m+xm)*i.size:=by rw [X9,ho.len,hl,U9]
  have grown: ∀(old:Nat),Own (w.drew.alloc (.cells (cs.toArray++news.toArray++Builtin.zeroCells z.cells (grownCap w (m+xm) old e-(m+xm))) e)) B e i.size (some ⟨w.heap.size,0,none⟩) (m+xm) (grownCap w (m+xm) old e) (cs++news):=by
   intro old;have hge:=grownCap_ge w (m+xm) old e;have hcm:grownCap w (m+xm) old e<=maxLen:=grownCap_le_maxLen w (m+xm) old e (by unfold maxLen;omega);refine ⟨hlen,.inr ⟨w.heap.size,_,_,rfl,hB,heap_alloc_new w.drew _,hge,hcm,?_,?_⟩⟩
   ·have hs:cs.length+news.length=(m+xm)*i.size:=by rw [<-List.length_append];exact hlen
    have:(m+xm)*i.size+(grownCap w (m+xm) old e-(m+xm))*i.size=grownCap w (m+xm) old e*i.size:=by rw [<-Nat.add_mul];congr 1;omega
    simp only [Array.size_append,N8,size_zeroCells,hzs];omega
   ·simp only [Array.toList_append,Q2];rw [<-List.append_assoc,<-hlen];exact List.take_left
  have hgc: ∀(old:Nat) (S:List Nat),Chg S w (w.drew.alloc (.cells (cs.toArray++news.toArray++Builtin.zeroCells z.cells (grownCap w (m+xm) old e-(m+xm))) e)):=
   fun old S=>⟨rfl,rfl,rfl,by simp,fun k hk _=>Below.heap_alloc w.drew _ k hk⟩
  rcases ho.cases with ⟨rfl,rfl,rfl,rfl⟩|⟨c',had,hBb,hbl,hmc',hcm',hcs,htk⟩
  ·have hr:=run_append_nil (P:=P) w t o.type e i z hu hin hz ⟨b,off,none⟩ xm xcap news hl hnews (by omega) (by omega) (by have hb:=hby;simp only [W9] at hb;omega);have hg:=grown 0;have hc:=hgc 0 (ze5 none);simp only [W9,M2,Array.empty_append] at hg hc hr;refine .val hdec (v:=.slice (some ⟨w.heap.size,0,none⟩) (0+xm) (grownCap w xm 0 e)) (by rw [hrun,hr,W9];rfl) (K _ _ _ (by simpa using hg) hc (.inr (W6 _)))
  ·obtain ⟨g,rfl⟩: ∃g,ad=some ⟨g,0,none⟩:=⟨_,had⟩;by_cases hroom:m+xm<=cap
   ·have hfit:m*i.size+news.length<=c'.size:=by rw [hl,<-Nat.add_mul];exact W8 (Q9 _ hroom) hcs
    have hr:=run_append_room (P:=P) w t o.type e i hu hin g m cap c' hbl ⟨b,off,none⟩ xm xcap news hl hnews h1 hroom hfit;refine .val hdec (v:=.slice (some ⟨g,0,none⟩) (m+xm) cap) (by rw [hrun,hr];rfl) (K (some ⟨g,0,none⟩) cap _ ?_ ?_ (.inl rfl))
    ·refine ⟨hlen,.inr ⟨g,cap,_,rfl,hBb,setRow_heap w g c' _ e _ hbl,hroom,hcm',?_,?_⟩⟩
     ·simp only [N8,X9,Y6,Q7,M0];omega
     ·rw [htk,<-hlen];exact List.take_left
    ·exact ⟨rfl,rfl,rfl,by simp,fun k _ hk=>setRow_other w g k _ (fun e=>hk (by simp [ze5,e]))⟩
   ·have holds: ∀j v,cs[j]?=some v->w.cell? ((⟨g,0,none⟩:Addr).add j)=some v:=fun j v hj=>by rw [addE];exact (ho.rg j v hj).2
    have hr:=run_append_grow (P:=P) w t o.type e i z hu hin hz ⟨g,0,none⟩ m cap cs ho.len holds ⟨b,off,none⟩ xm xcap news hl hnews (by omega) (by omega) (growslice_fits (by omega) hby);exact .val hdec (v:=.slice (some ⟨w.heap.size,0,none⟩) (m+xm) (grownCap w (m+xm) cap e)) (by rw [hrun,hr];rfl) (K _ _ _ (grown cap) (hgc cap _) (.inr (W6 _)))
def yk0 (P:Program) (t:TypeId) (a:Nat) (b:List (Nat×Value)):Option (TypeId×Array Value):=
 match P.underlying t with
 |some (.slice e)=>(match P.info? e with
  |some i=>(match Nat.ble (a*i.size) 16777216 with
   |true=>(match (match Nat.beq (a*i.size) 0 with|true=>some #[]|false=>(match i.zero with|some z=>some z.cells|none=>none)) with
    |some zero=>(match Instr.fill (fun j=>some (j*i.size,i.size)) ((Array.range (a*i.size)).map (zero[· %zero.size]!)) b with|some c=>some (e,c)|none=>none)
    |none=>none)
   |false=>none)
  |none=>none)
 |_=>none
def kk8 (P:Program) (ops:Array Oper) (k n:Nat) (F:PF):Option (Option Tmp×Nat×TypeId×Array Value):=
 match dec ops k n F with
 |some ⟨dst,.buildSlice t b a,_,_,_,_⟩=>(match yk0 P t b (a.map fun (i,x)=>(i,evD F x)).toList with|some (e,c)=>some (dst,b,e,c)|none=>none)
 |_=>none
def WR.bslice {dst:Option Tmp} {len:Nat} {e:TypeId} (c:Array Value) (hd:kk8 P ops k n F=some (dst,len,e,c))
  (K: ∀g w',New w w' g c e->WR P ops Q (k+1) n ds (upd F dst (.slice (some ⟨g,0,none⟩) len len)) w'):WR P ops Q k n ds F w:=by
 unfold kk8 at hd;split at hd
 ·rename_i d t l parts ty pos af gd hdec;split at hd
  ·rename_i e' c' hb;simp only [X0,X7] at hd;obtain ⟨rfl,rfl,rfl,rfl⟩:=hd;refine .val hdec (v:=.slice (some ⟨w.heap.size,0,none⟩) l l) (w':=w.alloc (.cells c' e')) ?_ (K _ _ (New.alloc w _ _));unfold yk0 at hb;split at hb
   ·rename_i e1 hu;split at hb
    ·rename_i i hi;split at hb
     ·rename_i hle;have hle':=Y1 hle;split at hb
      ·rename_i zero hz;split at hb
       ·rename_i cells hfill;simp only [X0,X7] at hb;obtain ⟨rfl,rfl⟩:=hb;have hs:(sizeOf e1).run P w=.ok i.size w:=by simp [sizeOf,typeInfo,hi]
        have hn: ¬(16777216<l*i.size):=by omega
        have hul:(underlying t).run P w=.ok (.slice e1) w:=by simp [underlying,hu]
        simp only [execOp,Instr.buildSlice,Sem.run_bind,hul,Result.andThen_ok,hs];simp only [Nat.reducePow,gt_iff_lt,hn,if_false];by_cases h0:l*i.size=0
        ·have hz0:zero= #[]:=by
          split at hz
          ·simpa using hz.symm
          ·rename_i hb0;simp [h0] at hb0
         subst hz0;simp only [h0,if_true,Sem.run_bind,Sem.run_pure,Result.andThen_ok] at hfill⊢;simp only [hfill];simp [newRow]
        ·obtain ⟨z,hzz,hzc⟩: ∃z,i.zero=some z/\z.cells=zero:=by
          split at hz
          ·rename_i hb0;exact absurd (X1 hb0) h0
          ·split at hz
           ·rename_i z hzz;exact ⟨z,hzz,by simpa using hz⟩
           ·cases hz
         have hzv:(zeroValue e1).run P w=.ok z w:=by simp [zeroValue,typeInfo,hi,hzz]
         subst hzc;simp only [h0,if_false,Sem.run_bind,Sem.run_pure,hzv,Result.andThen_ok];simp only [hfill];simp [newRow]
       ·cases hb
      ·cases hb
     ·cases hb
    ·cases hb
   ·cases hb
  ·cases hd
 ·cases hd
def ya1 (ops:Array Oper) (k n:Nat) (F:PF):Option (Option Tmp×TypeId×Value×Option Value×Option Value):=
 match dec ops k n F with|some ⟨dst,.slice t x a b none,_,_,_,_⟩=>some (dst,t,evD F x,a.map (evD F),b.map (evD F))|_=>none
def yb6 {dst t x b c} (h:ya1 ops k n F=some (dst,t,x,b,c)):
  ∃o,dec ops k n F=some o/\o.dst=dst/\execOp (evD F) o=(do pure (.value (<-Instr.sliceAt t x b c none)):Sem Next):=by
 unfold ya1 at h;split at h
 ·rename_i d f g l' i ty e j l a;simp only [X0,X7] at h;obtain ⟨rfl,rfl,rfl,rfl,rfl⟩:=h;exact ⟨_,a,rfl,rfl⟩
 ·cases h
def yr8 {t e} (h:P.underlying t=some (.slice e)):P.underlying t=some (.slice (P.elem t)):=by
 have:P.elem t=e:=by simp [Program.elem,h]
 rw [this];exact h
def yb2 (P:Program) (t:TypeId):Option Nat:=(P.info? t).map (·.size)
def jd7 {t g o c e v} (i:Blk w g c e) (b:yb2 P t=some 1) (j:v.oneCell'=true) (d:v.cells= #[v]) (l:o<c.size):
  (storeVar t ⟨g,o,none⟩ v).run P w=.ok () (w.setCell ⟨g,o,none⟩ v):=by
 have f:(sizeOf t).run P w=.ok 1 w:=by
  unfold yb2 at b;cases hin:P.info? t with
  |none=>rw [hin] at b;cases b
  |some m=>rw [hin] at b;simp at b;simp [sizeOf,typeInfo,hin,b]
 have a:w.cell? ⟨g,o,none⟩=some c[o]:=by rw [cell_of_row w g o c e (0,0) i,Z6 l]
 have h:=run_store P w ⟨g,o,none⟩ v .plain j;unfold storeVar;simp only [d,Sem.run_bind,f,Result.andThen_ok];simp only [N8,U3,List.length_nil,W9,ne_eq,not_true_eq_false,if_false];simp only [storeCells,Sem.run_bind,Addr.add,if_true];rw [h];simp [a,frozen_of_row w g o c e i]
def WR.storeB {t g o c e v} (h:Blk w g c e) (b:zn6 ops k n F=some (t,.pointer (some ⟨g,o,none⟩),v)) (i:yb2 P t=some 1) (j:v.oneCell'=true) (f:v.cells= #[v]) (l:o<c.size)
  (K: ∀w',Blk w' g (c.setIfInBounds o v) e->Chg [g] w w'->WR P ops Q (k+1) n ds F w'):WR P ops Q k n ds F w:=by
 unfold zn6 at b;split at b
 ·rename_i r a x ty m s u d;simp only [X0,X7] at b;obtain ⟨rfl,p,rfl⟩:=b;refine .skip d (w':=w.setCell ⟨g,o,none⟩ (evD F x)) ?_ (K _ (heap_setCell_same w g o c e _ h) ⟨rfl,rfl,rfl,by simp,fun k _ q=>heap_setCell_other w _ k _ (by simpa using q)⟩);simp [execOp,Instr.storeAt,Instr.sureAddr,p,jd7 h i j f l]
 ·cases b
def WR.storeE {t B e ad m cap cs j v} (o:Own w B e 1 ad m cap cs) (p:zn6 ops k n F=some (t,.pointer (some ⟨bk ad,of ad+j,none⟩),v)) (r:yb2 P t=some 1) (s:v.oneCell'=true) (a:v.cells= #[v]) (y:j<m)
  (K: ∀w',Own w' B e 1 ad m cap (cs.set j v)->Chg (ze5 ad) w w'->WR P ops Q (k+1) n ds F w'):WR P ops Q k n ds F w:=by
 rcases o.cases with ⟨_,z,_⟩|⟨c,b,u,q,d,f,h,i⟩
 ·omega
 ·obtain ⟨g,rfl⟩: ∃g,ad=some ⟨g,0,none⟩:=⟨_,b⟩;simp only [bk,of,W9] at p q;refine .storeB q p r s a (by omega) fun w' l x=>K w' ?_ x;refine ⟨by simpa using o.1,.inr ⟨g,cap,_,rfl,u,l,d,f,by simpa using h,?_⟩⟩;rw [T8,<-i,List.take_set]
def jv2: ∀(vs o c),o+vs.length<=c.size->(yj2 c o vs).toList=c.toList.take o++vs++c.toList.drop (o+vs.length)
 | [],o,c,_=>by simp [yj2]
 |v::r,o,c,h=>by
  simp only [U3] at h;unfold yj2;rw [jv2 r (o+1) _ (by simp;omega)];simp only [T8,U3];have b:o<c.toList.length:=by simp;omega
  rw [List.take_set,List.drop_set_of_lt (by omega),List.take_succ_eq_append_getElem b];rw [show o+1+r.length=o+(r.length+1) by omega];have a:(c.toList.take o).length=o:=by rw [Y6];omega
  have:(c.toList.take o++ [c.toList[o]]).set o v=c.toList.take o++ [v]:=by
   rw [List.set_append_right _ _ (by omega),a,Nat.sub_self];rfl
  rw [this];simp
def WR.storeW {t g} {c:Array Value} {e} {vs:List Value} (p:Blk w g c e) (d:zn6 ops k n F=some (t,.pointer (some ⟨g,0,none⟩),.agg vs.toArray)) (b:yb2 P t=some c.size) (m:vs.length=c.size) (q: ∀v∈vs,v.oneCell'=true)
  (K: ∀w',Blk w' g vs.toArray e->Chg [g] w w'->WR P ops Q (k+1) n ds F w'):WR P ops Q k n ds F w:=by
 unfold zn6 at d;split at d
 ·rename_i h a x ty r B C f;simp only [X0,X7] at d;obtain ⟨rfl,s,u⟩:=d;obtain ⟨w',y,o,z⟩:=zk6 P e g vs 0 0 c w p (by omega) q;have i:yj2 c (0+0) vs=vs.toArray:=by
   apply Array.toList_inj.1;rw [jv2 vs 0 c (by omega)];simp [m]
  rw [i] at o;refine .skip f (w':=w') ?_ (K w' o z);have j:(sizeOf h).run P w=.ok c.size w:=by
   unfold yb2 at b;cases hin:P.info? h with
   |none=>rw [hin] at b;cases b
   |some A=>rw [hin] at b;simp at b;simp [sizeOf,typeInfo,hin,b]
  have l:(storeVar h ⟨g,0,none⟩ (.agg vs.toArray)).run P w=.ok () w':=by
   unfold storeVar;simp only [Value.cells,Sem.run_bind,j,Result.andThen_ok,N8,m,ne_eq,not_true_eq_false,if_false,y]
  simp [execOp,Instr.storeAt,Instr.sureAddr,s,u,l]
 ·cases d
def Blk.rg {w g c e} (h:Blk w g c e) (cs) (a:c.toList=cs):Rg w (some ⟨g,0,none⟩) cs:=
 Rg.blk h cs fun j u b=>by rw [<-a] at b;simpa using b
def Own.ofBlk {w:World} {g:Nat} {c:Array Value} {e B n cap sz:Nat} (h:Blk w g c e) (hB:B<=g) (hn:n<=cap) (hm:cap<=9223372036854775807) (hc:cap*sz<=c.size) (cs:List Value) (hcs:c.toList.take (n*sz)=cs):Own w B e sz (some ⟨g,0,none⟩) n cap cs:=by
 subst hcs;refine ⟨?_,.inr ⟨g,cap,c,rfl,hB,h,hn,by unfold maxLen;omega,hc,rfl⟩⟩;have:n*sz<=cap*sz:=Q9 _ hn
 grind
end
end Go.V
namespace Go.V
open Go.RowKit
section
variable {P:Program} {ops:Array Oper} {Q:Exit->Act->World->Prop} {k n:Nat} {ds:List Deferred} {F:PF} {w:World}
def WR.defer {dst d} (g:zo7 P ops k n F w=some (dst,.ok (.defer d) w)) (K:WR P ops Q (k+1) n (d::ds) (upd F dst undef) w):WR P ops Q k n ds F w:=by
 obtain ⟨o,f,rfl,b⟩:=zj0 g;refine .step f fun a c h=>?_;unfold Oper.wp;rw [h,b];have e:Fr n (d::ds) F {a with defers:=d::a.defers}:=⟨c.size,by simp [c.defers],c.val⟩;exact K _ (e.upd (zl1 f).2.1 undef)
def ResC (P:Program) (w:World) (F:PF):ResultVar->Value->Prop
 | .tmp t,v=>F.get t=some v
 | .cell p ty,v=> ∃a,F.get p=some (.pointer (some a))/\(loadVar ty a).run P w=.ok v w
def kk5 (P:Program) (w:World) (F:PF):List ResultVar->List Value->Prop
 | [],[]=>True
 |r::l,v::vs=>ResC P w F r v/\kk5 P w F l vs
 |_,_=>False
def qi5 {a:Act} (ha:Fr n ds F a) (f:ResultVar->Sem Value) (hf: ∀t,f (.tmp t)=Pure.pure (a.tmps.getD t undef)) (hg: ∀c t,f (.cell c t)=(do loadVar t (<-asAddr (a.tmps.getD c undef)))): ∀(l:List ResultVar) (vs:List Value),kk5 P w F l vs->(l.mapM f).run P w=.ok vs w
 | [],vs,h=>by cases vs<;>first|rfl|exact h.elim
 |r::l,[],h=>h.elim
 |r::l,v::vs,h=>by
  obtain ⟨h1,h2⟩:=h;have ih:=qi5 ha f hf hg l vs h2;have hr:(f r).run P w=.ok v w:=by
   cases r with
   |tmp t=>rw [hf,(ha.val t v h1).1];rfl
   |cell p ty=>
    obtain ⟨b,hb,hl⟩:=h1;rw [hg,(ha.val p _ hb).1];simp [asAddr,hl]
  simp only [T2,Sem.run_bind,hr,Result.andThen_ok,ih,Sem.run_pure]
def tup:List Value->Value| [v]=>v|l=>.tuple l.toArray
def ki5 {a} (d:Fr n ds F a) {fn vs} (h:kk5 P w F fn.results.toList vs):(results fn a.tmps).run P w=.ok (tup vs) w:=by
 unfold results;have b: ∀(f:ResultVar->Sem Value),(∀t,f (.tmp t)=Pure.pure (a.tmps.getD t undef))->(∀c t,f (.cell c t)=(do loadVar t (<-asAddr (a.tmps.getD c undef))))->(fn.results.mapM f).run P w=.ok vs.toArray w:=by
  intro f e g;have:=qi5 (P:=P) (w:=w) d f e g fn.results.toList vs h;rw [T7];simp only [Sem.run_map,this,Result.andThen_ok]
 rw [Sem.run_bind,b _ (fun _=>rfl) (fun _ _=>rfl)];simp only [Result.andThen_ok]
 match vs with
 | []=>rfl
 | [v]=>rfl
 |v::u::r=>rfl
def qm8:FrameMode->Value×FrameMode
 | .panicking ({v,recovered:=false,goexit:=false}::older)=>(v,.panicking ({v,recovered:=true}::older))
 |u=>(.nilIface,u)
def ko0 (ops:Array Oper):Option Tmp:=match ops[0]? with|some (Oper.mk (some d) (.call (Call.mk (.builtin .recover) _ _)) _ _ _ none)=>some d|_=>none
def jn0 {Q:Exit->Act->List Frame->World->Prop} {id:Nat} {d:Tmp} (hd:ko0 ops=some d) {c₀:Frame} {cs:List Frame} {v:Value} {u':FrameMode} (hu:qm8 c₀.mode=(v,u')) {a:Act}
  (h:wpList P ops (fun e a w=>Q e a ({c₀ with mode:=u'}::cs) w) (ops.toList.drop 1) (a.put (some d) v) w):(Code.region id ops false).wpS P Q a (c₀::cs) w:=by
 intro b k hb hro;unfold ko0 at hd;split at hd
 ·rename_i d' aS ats ty pos af ho;simp only [X0] at hd;subst hd;have hlt:0<ops.size:=(Y3.1 ho).1;have hr:(execOp a.eval ⟨some d',.call {callee:=.builtin .recover,args:=aS,argTypes:=ats},ty,pos,af,none⟩).run P w=.ok .recover w:=by
   simp [execOp,resolve,invoke,builtin]
  have hg:=stepG_op (P:=P) (b:=b) (a:=a) (k:=k) (cs:=c₀::cs) (w:=w) (rest:=List.range' 1 (ops.size-1)) (i:=0) ho (by simp [Region.wanted]);have hk:(b.at a (.inRegion ops (0::List.range' 1 (ops.size-1))::k)).kind=.deferred:=hb;have htr:=tryRecover_deferred hk (c₀::cs);have hfin: ∀v,(b.at a (.inRegion ops (0::List.range' 1 (ops.size-1))::k)).finish v=b.at (a.put (some d') v) (.inRegion ops (List.range' 1 (ops.size-1))::k):=by
   intro v;rw [Frame.finish_at,ho];rfl
  have hrange:List.range ops.size=0::List.range' 1 (ops.size-1):=by
   obtain ⟨m,hm⟩: ∃m,ops.size=m+1:=⟨ops.size-1,by omega⟩;rw [hm,List.range_eq_range',List.range'_succ];rfl
  have hops:wpOps P ops (fun e a w=>Q e a ({c₀ with mode:=u'}::cs) w) (List.range' 1 (ops.size-1)) (a.put (some d') v) w:=by
   have:=wpOps_eq_wpList (P:=P) (ops:=ops) (Q:=fun e a w=>Q e a ({c₀ with mode:=u'}::cs) w) (ops.toList.drop 1) 1 (by intro j;simp [J0]);have hl:(ops.toList.drop 1).length=ops.size-1:=by simp
   rw [hl] at this;rw [this];exact h
  obtain ⟨e,a',w',hq,harr⟩:=wp_ops _ _ _ hops b k ({c₀ with mode:=u'}::cs);have hstep:step P (lone (b.at a (.inRegion ops (0::List.range' 1 (ops.size-1))::k)) (c₀::cs) w)=.next (lone (b.at (a.put (some d') v) (.inRegion ops (List.range' 1 (ops.size-1))::k)) ({c₀ with mode:=u'}::cs) w):=by
   have hrec:recoverD (c₀::cs)=some (v,{c₀ with mode:=u'}::cs)\/(recoverD (c₀::cs)=none/\v=.nilIface/\u'=c₀.mode):=by
    unfold qm8 at hu;unfold recoverD;split at hu
    ·rename_i x older hm;simp only [X7] at hu;obtain ⟨rfl,rfl⟩:=hu;left;simp [hm]
    ·rename_i hne;simp only [X7] at hu;obtain ⟨rfl,rfl⟩:=hu;right;refine ⟨?_,rfl,rfl⟩;dsimp only;split
     ·rename_i y older hm;exact absurd hm (hne y older)
     all_goals rfl
   refine step_lone_go ?_;rw [hg,<-hfin];rcases hrec with hrec|⟨hrec,rfl,rfl⟩
   ·simp only [Frame.at] at htr⊢;simp [stepG.apply,hr,htr,hrec]
   ·simp only [Frame.at] at htr⊢;simp [stepG.apply,hr,htr,hrec]
  exact ⟨e,a',_,w',hq,.of_steps (.head step_region (by rw [hrange];exact .one hstep)) harr⟩
 ·cases hd
def qu0 {f:FuncId} {fn:Func} {id:Nat} {rest:Code} {args:Array Value} {u u':FrameMode} {v:Value} {R:Ending->FrameMode->World->Prop} (hf:P.funcs[f]?=some fn) (hb:fn.body=some (.seq (.region id ops false) rest)) (hn:fn.ntmps=n)
  (hfr:Fr n [] F {tmps:=args++Array.replicate (fn.ntmps-args.size) undef,defers:= []}) (d:Tmp) (hd:ko0 ops=some d) (hdn:zk1 n (some d)=true) (hu:qm8 u=(v,u'))
  (h: ∀K:Act->World->Prop,(∀a w,rest.wp P (bodyPost P fn fun e w'=>R e u' w') a w->K a w)->WR P ops (Exit.then K (bodyPost P fn fun e w'=>R e u' w')) 1 n [] (upd F (some d) v) w):CallsD P f args u w R:=by
 refine callsD_of_wpS hf hb fun c₀ cs hc=>wpS_seq ?_;subst hc;have post: ∀e a w,bodyPost P fn (fun e w'=>R e u' w') e a w->bodyPostS P fn c₀ cs R e a ({c₀ with mode:=u'}::cs) w:=by
  intro e a w hq;cases e with
  |normal=>obtain ⟨h1,v,h2,h3⟩:=hq;exact ⟨h1,u',rfl,v,h2,h3⟩
  |ret=>obtain ⟨h1,v,h2,h3⟩:=hq;exact ⟨h1,u',rfl,v,h2,h3⟩
  |panic ch=>obtain ⟨h1,h2⟩:=hq;exact ⟨h1,u',rfl,h2⟩
  |exit id=>exact hq.elim
  |goto l=>exact hq.elim
  |outgrown=>exact ⟨u',hq⟩
 refine jn0 hd hu ?_;have hw:=h (fun a w=>rest.wp P (bodyPost P fn fun e w'=>R e u' w') a w) (fun _ _ h=>h) _ (hfr.upd hdn v);have mono: ∀(Q Q':Exit->Act->World->Prop),(∀e a w,Q e a w->Q' e a w)-> ∀(l:List Oper) (a:Act) (w:World),wpList P ops Q l a w->wpList P ops Q' l a w:=by
  intro Q Q' hq l;induction l with
  |nil=>intro a w h;exact hq _ _ _ h
  |cons o r ih=>
   intro a w h;unfold wpList at h⊢;split
   ·rename_i hwant;rw [if_pos hwant] at h;rcases h with h|⟨h1,a₀,w₀,h2⟩
    ·left;unfold Oper.wp at h⊢;generalize (execOp a.eval o).run P w=r' at h⊢;unfold Oper.upon at h⊢;split at h
     ·exact ih _ _ h
     ·exact ih _ _ h
     ·exact ih _ _ h
     ·refine h.mono fun e w' he=>?_;cases e with
      |returned v=>exact ih _ _ he
      |panicked ch=>exact hq _ _ _ he
      |outgrown=>obtain ⟨a1,w1,h1⟩:=he;exact ⟨a1,w1,hq _ _ _ h1⟩
     ·exact h.mono fun v w' he=>ih _ _ he
     ·exact hq _ _ _ h
     ·exact h.elim
    ·right;exact ⟨h1,a₀,w₀,hq _ _ _ h2⟩
   ·grind
 refine mono _ _ (fun e a w hq=>?_) _ _ _ hw;cases e with
 |normal=>exact wpS_of_wp (wp_mono hq post)
 |ret=>exact post .ret a w hq
 |panic ch=>exact post (.panic ch) a w hq
 |exit id=>exact post (.exit id) a w hq
 |goto l=>exact post (.goto l) a w hq
 |outgrown=>exact post .outgrown a w hq
end
end Go.V
namespace Go.V
open Go.RowKit
section
variable {P:Program} {ops:Array Oper} {Q:Exit->Act->World->Prop} {n:Nat} {ds:List Deferred} {F:PF} {w:World}
def WR.pass1 {k dst} (h:yd0 ops k n F=some dst) (K:WR P ops Q (k+1) n ds (upd F dst undef) w):WR P ops Q k n ds F w:=by
 unfold yd0 at h;split at h
 ·rename_i o c;split at h
  ·rename_i d;split at h
   ·rename_i e;simp only [X0] at h;subst h;intro a b;rw [zt6 c];unfold wpList;rw [if_neg (by rw [yj7 b d];simp)];exact K _ (b.upd e undef)
   ·cases h
  ·cases h
 ·cases h
def zw2 (ops:Array Oper) (i:Nat):List Nat:=match ops[i]? with|some o=>(o.after.toList.filter fun e=>Region.binds .any e).map (·.on)|none=> []
def uf5 (a:List Nat):List Nat->List Nat| []=>a|x::r=>uf5 (match a.contains x with|true=>a|false=>x::a) r
def yw5 (ops:Array Oper):Nat->List (List Nat)
 |0=> []
 |n+1=>yw5 ops n++ [uf5 [] (zw2 ops n++(zw2 ops n).flatMap fun k=>(yw5 ops n).getD k [])]
def vf8 (ops:Array Oper) (m:Nat):List Nat:=(List.range m).filterMap fun i=>(ops[i]?).bind (·.dst)
def ya2:List Nat->Bool| []=>true|a::r=> !r.contains a&&ya2 r
def yo8 (ops:Array Oper):Bool:=(List.range ops.size).all fun i=>(zw2 ops i).all fun j=>Nat.blt j i
def yv1 (ops:Array Oper) (m:Nat):Bool:=(List.range m).all fun i=>match ops[i]? with|some o=>(match o.guard with|some (g,_)=>Nat.blt g i|none=>true)|none=>true
def yz5 (ops:Array Oper) (i:Nat):Option Tmp:=(ops[i]?).bind (·.dst)
inductive Tp (ops:Array Oper):Nat->Nat->Prop
 |one {i j:Nat} (h:(zw2 ops i).contains j=true):Tp ops i j
 |step {i k j:Nat} (h:(zw2 ops i).contains k=true) (t:Tp ops k j):Tp ops i j
def vd9 {x:Nat}: ∀ {l acc:List Nat},x∈uf5 acc l->x∈acc\/x∈l
 | [],_,h=>.inl h
 |y::r,acc,h=>by
  unfold uf5 at h;rcases vd9 h with h|h
  ·grind
  ·exact .inr (Z4 _ h)
def ym8 (ops): ∀n,(yw5 ops n).length=n
 |0=>rfl
 |n+1=>by rw [yw5,X9,ym8 ops n];rfl
def zt2: ∀(n j i),i∈(yw5 ops n).getD j []->Tp ops j i
 |0,j,i,h=>by simp [yw5] at h
 |n+1,j,i,h=>by
  rw [yw5,Y2] at h;rcases N2 j n with a|rfl|a
  ·rw [X8 (by rw [ym8];exact a),<-List.getD_eq_getElem?_getD] at h;exact zt2 n j i h
  ·rw [Z2 (by rw [ym8];exact W6 _),ym8,Nat.sub_self] at h;simp only [Y4,V0] at h;rcases vd9 h with h|h
   ·cases h
   ·rcases X4.1 h with h|h
    ·exact .one (by simpa using h)
    ·obtain ⟨k,b,h⟩:=V4.1 h;exact .step (by simpa using b) (zt2 j k i h)
  ·rw [Y5 (by simp [ym8];omega)] at h;simp at h
def Tp.lt (c:yo8 ops=true) {i j} (t:Tp ops i j) (d:i<ops.size):j<i:=by
 have one: ∀a b,a<ops.size->(zw2 ops a).contains b=true->b<a:=by
  intro a b e h;unfold yo8 at c;rw [Y8] at c;have:=c a (J3.2 e);rw [Y8] at this;simpa [U7] using this b (by simpa using h)
 induction t with
 |one h=>exact one _ _ d h
 |step h _ f=>have g:=one _ _ d h;have:=f (by omega);omega
def qj7 {md:Region.Mode} (I:Array Bool->Act->World->Prop)
  (step: ∀listed a w i,I listed a w->i∈Region.ready md ops listed->wpOp P ops Q i (I (listed.setIfInBounds i true)) a w)
  (fin: ∀listed a w,I listed a w->Region.ready md ops listed= []->Q .normal a w):
  ∀(fuel:Nat) (listed:Array Bool) (a:Act) (w:World),(listed.size=ops.size/\(listed.toList.filter (· ==false)).length<=fuel)->I listed a w->wpAny P md ops Q fuel listed a w
 |0,listed,a,w,hl,hI=>by
  have hr:Region.ready md ops listed= []:=by
   unfold Region.ready;rw [List.filter_eq_nil_iff];intro i hi;have hlt:i<listed.size:=by rw [hl.1];simpa using hi
   have:listed[i]=true:=by
    cases hb:listed[i] with
    |true=>rfl
    |false=>
     have:listed[i]∈listed.toList.filter (· ==false):=by
      grind
     grind
   simp [this,hlt]
  exact ⟨hr,fin listed a w hI hr⟩
 |fuel+1,listed,a,w,hl,hI=>by
  refine ⟨fun hr=>fin listed a w hI hr,fun i hi=>wpOp_mono (fun a' w' hI'=>qj7 I step fin fuel _ a' w' ?_ hI') (step listed a w i hI hi)⟩;have hmem:i<ops.size/\listed.getD i true=false:=by
   unfold Region.ready at hi
   grind
  refine ⟨by simpa using hl.1,?_⟩;have hlt:i<listed.size:=by rw [hl.1];exact hmem.1
  have hfalse:listed[i]=false:=by
   have:=hmem.2;simpa [hlt] using this
  have key: ∀(l:List Bool) (i:Nat) (h:i<l.length),l[i]=false->((l.set i true).filter (· ==false)).length+1=(l.filter (· ==false)).length:=by
   intro l;induction l with
   |nil=>intro i h;simp at h
   |cons b r ih=>
    intro i h hb;cases i with
    |zero=>simp at hb;subst hb;simp
    |succ i=>
     grind
  grind
def zy4 (o:Oper):List Nat:=o.op.operands.toList.filterMap fun x=>match x with| .tmp t=>some t|_=>none
def yn0 (ops:Array Oper) (o:Oper):List Nat:=match o.guard with|some (g,_)=>(yz5 ops g).toList|none=> []
def jy8 {m:Nat} (h:ya2 (vf8 ops m)=true): ∀i j d,i<m->j<m->(ops[i]?).bind (·.dst)=some d->(ops[j]?).bind (·.dst)=some d->i=j:=by
 have key: ∀(l:List Nat),ya2 (l.filterMap fun i=>(ops[i]?).bind (·.dst))=true->l.Nodup-> ∀i j d,i∈l->j∈l->(ops[i]?).bind (·.dst)=some d->(ops[j]?).bind (·.dst)=some d->i=j:=by
  intro l;induction l with
  |nil=>intro _ _ i j d hi;simp at hi
  |cons x r ih=>
   intro hdi hn i j d hi hj h1 h2;rw [List.nodup_cons] at hn;have hmem: ∀y e,y∈r->(ops[y]?).bind (·.dst)=some e->e∈r.filterMap fun i=>(ops[i]?).bind (·.dst):=fun y e hy he=>List.mem_filterMap.2 ⟨y,hy,he⟩;have hrest:ya2 (r.filterMap fun i=>(ops[i]?).bind (·.dst))=true:=by
    rw [List.filterMap_cons] at hdi;split at hdi
    ·exact hdi
    ·simp only [ya2,X3] at hdi;exact hdi.2
   have hfirst: ∀e,(ops[x]?).bind (·.dst)=some e->e∉r.filterMap fun i=>(ops[i]?).bind (·.dst):=by
    intro e hx hm;rw [List.filterMap_cons] at hdi;split at hdi
    ·rename_i hn0;rw [hx] at hn0;cases hn0
    ·rename_i e' he';rw [hx] at he';cases he';simp only [ya2,X3,V7,List.contains_eq_mem,decide_eq_false_iff_not] at hdi;exact hdi.1 hm
   grind
 intro i j d hi hj;exact key (List.range m) h List.nodup_range i j d (J3.2 hi) (J3.2 hj)
end
end Go.V
namespace Go.V
open Go.RowKit
abbrev za5 (x:Int):Prop:=0<=x/\x<=18446744073709551615
def zd5 {α b:Type} (a:α) (f:α->b):b:=f a
def ym3 {α a:Type} (o:Option α) (n:a) (f:α->a):a:=match o with|some x=>f x|none=>n
@[simp] theorem zak5 {α b} (a : α) (f : α -> b) : zd5 a f = f a := rfl
@[simp] theorem zak3 {α a} (n : a) (f : α -> a) : ym3 none n f = n := rfl
@[simp] theorem zak4 {α b} (a : α) (n : b) (f : α -> b) : ym3 (some a) n f = f a := rfl
section
variable {P:Program} {w w':World} {α:Type} {f:FuncId} {args:Array Value}
def retC {n F fn R} (vs v) (c:tup vs=v) (h:kk5 P w F fn.results.toList vs) (d:R (.returned v) w): ∀a,Fr n [] F a->bodyPost P fn R .ret a w:=
 fun _ b=>⟨b.defers,v,by rw [<-c];exact ki5 b h,d⟩
def wg5 {F p ty g o c e v} (a:Blk w g c e) (b:F.get p=some (.pointer (some ⟨g,o,none⟩))) (d:ldv P ty c o=some v):ResC P w F (.cell p ty) v:=
 ⟨_,b,zn4 a d⟩
end
def zb4 (k:IntKind) (x y:Int):Int:=k.wrap ((BitVec.ofInt k.bits x&&&BitVec.ofInt k.bits y).toNat:Int)
def bOr (k:IntKind) (x y:Int):Int:=k.wrap ((BitVec.ofInt k.bits x|||BitVec.ofInt k.bits y).toNat:Int)
def qw0 (k:IntKind) (x y:Int):Int:=k.wrap ((BitVec.ofInt k.bits x^^^BitVec.ofInt k.bits y).toNat:Int)
def vr9 (k:IntKind) (x y:Int):Int:=k.wrap ((BitVec.ofInt k.bits x&&& ~~~BitVec.ofInt k.bits y).toNat:Int)
def qi7 (k:IntKind) (x y:Int):Int:=k.wrap (x*2^(min y.toNat k.bits))
def ze0 (k:IntKind) (x y:Int):Int:=x.fdiv (2^(min y.toNat k.bits))
def yi5 (x y:Int):Int:=if y<x then y else x
def zq9 (x y:Int):Int:=if y>x then y else x
def kt2 {x y l m} (a:l<=x/\x<=m) (b:l<=y/\y<=m):l<=yi5 x y/\yi5 x y<=m:=by unfold yi5;split<;>omega
def kt1 {x y l m} (a:l<=x/\x<=m) (b:l<=y/\y<=m):l<=zq9 x y/\zq9 x y<=m:=by unfold zq9;split<;>omega
def jd2 (x y):yi5 x y=min x y:=by unfold yi5;omega
def yk5 (x y):zq9 x y=max x y:=by unfold zq9;omega
def zc8 (x):0<=IntKind.u64.wrap x/\IntKind.u64.wrap x<=18446744073709551615:=by unfold IntKind.wrap;simp [IntKind.bits,IntKind.signed];omega
def zz9 (x):IntKind.u64.wrap x=x%18446744073709551616:=by unfold IntKind.wrap;simp [IntKind.bits,IntKind.signed]
def vl8 (x):IntKind.u32.wrap x=x%4294967296:=by unfold IntKind.wrap;simp [IntKind.bits,IntKind.signed]
def jg8 (x):IntKind.u8.wrap x=x%256:=by unfold IntKind.wrap;simp [IntKind.bits,IntKind.signed]
section
variable {P:Program} {ops:Array Oper} {k n:Nat} {F:PF} {dst:Option Tmp}
end
section
variable {P:Program}
def jb4 (P:Program) (t:TypeId) (cs:Array Value) (a:Nat):Option Value:=
 match P.underlying t with
 |some d=>(match ye3 d with|true=>(match P.info? t with|some i=>some (.agg (cs.extract a (a+i.size)))|none=>none)|false=>cs[a]?)
 |none=>none
def yq0 {t cs a v} (h:jb4 P t cs a=some v) (w):(part t cs a).run P w=.ok v w:=by
 unfold jb4 at h;split at h
 ·rename_i d c;unfold part;rw [Sem.run_bind,zq0 c];split at h
  ·rename_i b;rw [b];split at h
   ·rename_i i e;simp only [X0] at h;subst h;simp [sizeOf,typeInfo,e]
   ·cases h
  ·rename_i b;rw [b];simp [h]
 ·cases h
def kp0 (P:Program) (c:TypeId->Value->Value->Option Bool) (xs ys:Array Value):List Field->Option Bool
 | []=>some true
 | [f]=>match f.name== "_" with|true=>some true|false=>(match jb4 P f.type xs f.offset,jb4 P f.type ys f.offset with|some a,some b=>c f.type a b|_,_=>none)
 |f::g::r=>match f.name== "_" with|true=>kp0 P c xs ys (g::r)|false=>(match jb4 P f.type xs f.offset,jb4 P f.type ys f.offset with|some a,some b=>(match c f.type a b,kp0 P c xs ys (g::r) with|some p,some q=>some (p&&q)|_,_=>none)|_,_=>none)
def eqB (P:Program):Nat->TypeId->Value->Value->Option Bool
 |0,_,_,_=>none
 |d+1,t,x,y=>
  match P.underlying t,x,y with
  |some .bool,.bool a,.bool b=>some (a==b)
  |some (.int _),.int j a,.int c b=>match decide (j=c) with|true=>some (a==b)|false=>none
  |some .string,.string a,.string b=>some (a==b)
  |some (.struct e),.agg xs,.agg ys=>match P.stoodInHeld t with|true=>none|false=>kp0 P (eqB P d) xs ys e.toList
  |_,_,_=>none
def jk8 (d:Nat) (xs ys:Array Value) (f:Field):Sem (ForInStep (Option Bool×Unit)):=
 if f.name≠ "_" then do
  let a<-part f.type xs f.offset
  let b<-part f.type ys f.offset
  let r<-Op.equalIn d f.type a b
  if (!r)=true then pure (ForInStep.done (some false,())) else pure (ForInStep.yield (none,()))
 else pure (ForInStep.yield (none,()))
def ju1 {xs ys d} (e: ∀(t:TypeId) (x y:Value) (b:Bool),eqB P d t x y=some b-> ∀w:World,(Op.equalIn d t x y).run P w=.ok b w):
  ∀(u b),kp0 P (eqB P d) xs ys u=some b-> ∀w:World,
  (forIn (m:=Sem) u ((none,()):Option Bool×Unit) (fun f _=>jk8 d xs ys f)).run P w=.ok (if b then (none,()) else (some false,())) w
 | [],b,h,w=>by
  simp only [kp0,X0] at h;subst h;rfl
 |f::r,b,h,w=>by
  have one: ∀(c:Bool),f.name≠ "_" ->(match jb4 P f.type xs f.offset,jb4 P f.type ys f.offset with|some a,some b=>eqB P d f.type a b|_,_=>none)=some c->
    (jk8 d xs ys f).run P w=.ok (if c then ForInStep.yield (none,()) else ForInStep.done (some false,())) w:=by
   intro c i j;split at j
   ·rename_i x y l o;unfold jk8;rw [if_pos i,Sem.run_bind,yq0 l];simp only [Result.andThen_ok];rw [Sem.run_bind,yq0 o];simp only [Result.andThen_ok];rw [Sem.run_bind,e _ _ _ _ j];cases c<;>rfl
   ·cases j
  have skip:f.name= "_" ->(jk8 d xs ys f).run P w=.ok (ForInStep.yield (none,())) w:=by
   intro i;unfold jk8;rw [if_neg (by simpa using i)];rfl
  rw [List.forIn_cons]
  match r,h with
  | [],h=>
   unfold kp0 at h;split at h
   ·rename_i i;simp only [X0] at h;subst h;rw [Sem.run_bind,skip (by simpa using i)];rfl
   ·rename_i i;rw [Sem.run_bind,one b (by simpa using i) h];cases b<;>rfl
  |g::r,h=>
   unfold kp0 at h;split at h
   ·rename_i i;rw [Sem.run_bind,skip (by simpa using i)];exact ju1 e (g::r) b h w
   ·rename_i i;have s:f.name≠ "_" :=by simpa using i
    split at h
    ·rename_i x y l o;split at h
     ·rename_i p q v z;simp only [X0] at h;subst h;rw [Sem.run_bind,one p s (by rw [l,o];exact v)];cases p
      ·rfl
      ·exact ju1 e (g::r) q z w
     ·cases h
    ·cases h
def jn7: ∀(d t x y b),eqB P d t x y=some b-> ∀w:World,(Op.equalIn d t x y).run P w=.ok b w
 |0,_,_,_,_,h,_=>by simp [eqB] at h
 |d+1,t,x,y,b,h,w=>by
  unfold eqB at h;unfold Op.equalIn;split at h
  ·rename_i a c e;simp only [X0] at h;subst h;simp [underlying,e]
  ·rename_i r j a m c e;split at h
   ·rename_i o;simp only [X0] at h;subst h;have:j=m:=by simpa using o
    subst this;simp [underlying,e]
   ·cases h
  ·rename_i a c e;simp only [X0] at h;subst h;simp [underlying,e]
  ·rename_i l xs ys e;split at h
   ·cases h
   ·rename_i i;have p:(underlying t).run P w=.ok (.struct l) w:=by simp [underlying,e]
    rw [Sem.run_bind,p];simp only [Result.andThen_ok];have q:(program).run P w=.ok P w:=rfl;rw [Sem.run_bind,q];simp only [Result.andThen_ok,i];have g:=ju1 (P:=P) (d:=d) (xs:=xs) (ys:=ys) (jn7 d) l.toList b h w;rw [<-Array.forIn_toList];simp only [M5,if_false];rw [Sem.run_bind];unfold jk8 at g;rw [g];cases b<;>rfl
  ·cases h
def vs4 (ops:Array Oper) (k n:Nat) (F:PF):Option (Option Tmp×BinOp×TypeId×Value×Value):=
 match dec ops k n F with|some ⟨dst,.binOp b t x y _,_,_,_,_⟩=>some (dst,b,t,evD F x,evD F y)|_=>none
def jd6 {ops:Array Oper} {k n:Nat} {F:PF} {dst:Option Tmp} {t:TypeId} {xs ys:Array Value} {neg b:Bool} (a:vs4 ops k n F=some (dst,if neg then .neq else .eql,t,.agg xs,.agg ys))
  (d:P.eqGuardType P.depth t=false) (e:eqB P 10000 t (.agg xs) (.agg ys)=some b) (w:World):zo7 P ops k n F w=some (dst,.ok (.value (.bool (if neg then !b else b))) w):=by
 unfold vs4 at a;split at a
 ·rename_i o p g q r s ty h u v c;simp only [X0,X7] at a;obtain ⟨rfl,rfl,rfl,i,j⟩:=a;unfold zo7;rw [c];have l:=jn7 (P:=P) 10000 g (.agg xs) (.agg ys) b e w;have m:(program).run P w=.ok P w:=rfl;cases neg<;>simp [execOp,i,j,eqGuard,d,binOp,Op.equal,Op.maxDepth,l,m]
 ·cases a
end
end Go.V
namespace Go.V
open Go.RowKit
def Mp (w:World) (g:Nat) (es:Array MapEntry) (c:Nat):Prop:=w.heap[g]?=some (.map es c)
def Mp.lt {w g es c} (h:Mp w g es c):g<w.heap.size:=(Y3.1 h).1
def Mp.chg {S w w' g es c} (h:Mp w g es c) (a:Chg S w w') (b:g∉S):Mp w' g es c:=(a.block g h.lt b).trans h
structure NewM (w w':World) (g:Nat) (es:Array MapEntry) (c:Nat):Prop where
 blk:Mp w' g es c
 chg:Chg [] w w'
 fresh:w.heap.size<=g
def jd4 (P:Program) (t:TypeId):Option (TypeId×TypeId×TypeDesc):=
 match P.underlying t with
 |some (.map a b)=>(match P.underlying a with|some d=>some (a,b,d)|none=>none)
 |_=>none
def zp9 {P t a b d} (h:jd4 P t=some (a,b,d)):P.underlying t=some (.map a b)/\P.underlying a=some d:=by
 unfold jd4 at h;split at h
 ·rename_i c e f;split at h
  ·rename_i i g;simp only [X0,X7] at h;obtain ⟨rfl,rfl,rfl⟩:=h;exact ⟨f,g⟩
  ·cases h
 ·cases h
section
variable {P:Program} {ops:Array Oper} {Q:Exit->Act->World->Prop} {k n:Nat} {ds:List Deferred} {F:PF} {w:World}
def yf8 (ops:Array Oper) (k n:Nat) (F:PF):Option (Option Tmp×TypeId):=
 match dec ops k n F with|some ⟨dst,.makeMap t none,_,_,_,_⟩=>some (dst,t)|_=>none
def WR.mkMap {dst t} (a:yf8 ops k n F=some (dst,t))
  (K: ∀g w',NewM w w' g #[] 0->WR P ops Q (k+1) n ds (upd F dst (.map (some g))) w'):WR P ops Q k n ds F w:=by
 unfold yf8 at a;split at a
 ·rename_i d e ty c f h b;simp only [X0,X7] at a;obtain ⟨rfl,rfl⟩:=a;refine .val b (v:=.map (some w.heap.size)) (w':=w.alloc (.map #[] 0)) ?_ (K _ _ ⟨(MapKept.heap_alloc w _).1,Chg.alloc w _,W6 _⟩);simp [execOp,Instr.makeMap]
 ·cases a
def zx6 (ops:Array Oper) (k n:Nat) (F:PF):Option (Option Tmp×TypeId×Value×Value×Bool):=
 match dec ops k n F with|some ⟨dst,.lookup t m x a,_,_,_,_⟩=>some (dst,t,evD F m,evD F x,a)|_=>none
def lkV (z:Value):Bool->Option (Nat×Value)->Value
 |true,some (_,v)=>.tuple #[v,.bool true]
 |true,none=>.tuple #[z,.bool false]
 |false,some (_,v)=>v
 |false,none=>z
def js3 {dst t B l d g c es x z o} (C:Mp w g es c) (b:zx6 ops k n F=some (dst,t,.map (some g),x,o)) (D:jd4 P t=some (B,l,d)) (p:MapKept.IsKey d x)
  (r) (q:Instr.findNow d x es.toList 0=some r) (e:(P.info? l).bind (·.zero)=some z) (v) (E:lkV z o r=v):zo7 P ops k n F w=some (dst,.ok (.value v) w):=by
 obtain ⟨s,a⟩:=zp9 D;subst E;unfold zx6 at b;split at b
 ·rename_i I J m' K f ty G L M h;simp only [X0,X7] at b;obtain ⟨rfl,rfl,u,y,rfl⟩:=b;unfold zo7;rw [h];have A:w.heap[g]?=some (.map es c):=C;have m:(zeroValue l).run P w=.ok z w:=by
   cases hin:P.info? l with
   |none=>rw [hin] at e;cases e
   |some i=>rw [hin] at e;simp at e;simp [zeroValue,typeInfo,hin,e]
  cases r with
  |none=>cases f<;>simp [execOp,u,y,Instr.lookup,run_underlying s,MapKept.run_getObj_map A,MapKept.run_checkKey a p,MapKept.run_findKey a q,Result.andThen,m,lkV]
  |some H=>obtain ⟨j,v⟩:=H;cases f<;>simp [execOp,u,y,Instr.lookup,run_underlying s,MapKept.run_getObj_map A,MapKept.run_checkKey a p,MapKept.run_findKey a q,Result.andThen,lkV]
 ·cases b
end
end Go.V
namespace Go.V
open Go.RowKit Go.ChangeShapes Go.WideShapes Go.ChangeAt Go.Deep
def qx6 {α β:Type} {f:α->Option β}: ∀ {xs:List α} {l:List β},xs.mapM f=some l->l.length=xs.length/\ ∀(k:Nat) (x:α),xs[k]?=some x->f x=l[k]?
 | [],l,h=>by
  grind
 |x::xs,l,h=>by
  rw [T2] at h;cases hx:f x with
  |none=>rw [hx] at h;simp at h
  |some y=>
   rw [hx] at h;cases hr:xs.mapM f with
   |none=>rw [hr] at h;simp at h
   |some r=>
    rw [hr] at h;simp only [Option.pure_def,Option.bind_eq_bind,Option.bind_some,X0] at h;subst h;obtain ⟨h1,h2⟩:=qx6 hr;refine ⟨by simp [h1],fun k z hz=>?_⟩;cases k with
    |zero=>simp at hz;subst hz;simpa using hx
    |succ k=>simp at hz;simpa using h2 k z hz
def qe4 {w:World} {base:Nat} {a:Addr} {n:Nat} {cs:List Value} (h:w.cells? base a n=some cs):cs.length=n/\ ∀(k:Nat) (u:Value),cs[k]?=some u->w.cell? (a.add k)=some u:=by
 unfold World.cells? at h;split at h
 ·obtain ⟨h1,h2⟩:=qx6 h
  grind
 ·cases h
section
variable {H:Type} {enc:TypeId×Value->H} {P:Program} {w:World} {t e:TypeId}
def retLaw {w w':World} {v:Value} {e:Ending} (h:zu2 w v e w'):e=.returned v/\Chg [] w w':=by
 cases e with
 |returned u=>obtain ⟨h1,h2⟩:=h;subst h2;exact ⟨rfl,h1⟩
 |panicked ch=>exact h.elim
 |outgrown=>exact h.elim
def qv7 (i:laidOutB P=true) {W j} (k:Below W.heap.size W j) {l}: ∀ {f vs ds ps},(f.all fun t=>P.readableRec t&&decide (t<P.types.size))=true->
  DataW.TrodAll enc P W 0 (fun _=>true) true f vs ds ps->(∀x∈ps,x.block<W.heap.size)->(∀x∈ps,l x.block=true)->DataW.TrodAll enc P j 0 l true f vs ds ps
 | [],[],[],_,_,h,_,_=>h
 |t::f,v::vs,d::ds,ps,g,h,b,c=>by
  obtain ⟨p,q,m,n,rfl⟩:=h;simp only [V6,X3,decide_eq_true_eq] at g;exact ⟨p,q,WideElems.Trod_stays i g.1.1 g.1.2 m (fun x a=>k.same (b x (by simp [a]))) (fun x a=>c x (by simp [a])),qv7 i k (by simpa using g.2) n (fun x a=>b x (by simp [a])) (fun x a=>c x (by simp [a])),rfl⟩
 | [],_::_,_,_,_,h,_,_=>by simp [DataW.TrodAll] at h
 | [],[],_::_,_,_,h,_,_=>by simp [DataW.TrodAll] at h
 |_::_,[],_,_,_,h,_,_=>by simp [DataW.TrodAll] at h
 |_::_,_::_,[],_,_,h,_,_=>by simp [DataW.TrodAll] at h
def lawPost {f:Func} {s:ChangeSpec} {o a d b W r} {args:Array Value} {ds u c} (A:laidOutB P=true)
  (i:DataW.Whole enc P f.params.toList s.vars a W args.toList ds u c) (v:s.vars= []) (j:s.fn H (ds++u)= {results:= [.lit (.bool true)],args:=ds,vars:= []})
  (k:f.resultTypes= #[o]) (l:P.underlying o=some .bool) (B:(f.params.toList.all fun t=>P.readableRec t&&decide (t<P.types.size))=true) (C:Chg [] W r):
  s.post enc P f a d b false W args (.bool true) r:=by
 have g:=i.lt;have m:=i;obtain ⟨p,q,D,y,rfl,E,F⟩:=i;rw [v] at y;obtain ⟨rfl,rfl⟩:=trodVars_none y;have z:=C.below;refine ⟨ds,[],p++ [],[],p,[],m,?_,?_,?_,z.frame _,fun h=>by cases h⟩
 ·rw [j,k];exact trodAll_mk1 (shut_bool l true)
 ·rw [j];exact qv7 A z B D (fun x n=>g x (by simpa using n)) (fun x n=>by simpa using g x (by simpa using n))
 ·rw [j,v];rfl
end
end Go.V
