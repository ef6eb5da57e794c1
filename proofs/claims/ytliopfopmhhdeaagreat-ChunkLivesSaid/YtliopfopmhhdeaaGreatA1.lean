import Derived.Orders
import Derived.Deep.Quiet
import Derived.KernelRfl
import Derived.Below
import Derived.WalkKit
import Derived.Recover
import Derived.MapKept
import Derived.ProofKit
import Derived.OpenShut
import Derived.Carry
import Derived.JoinedCond
import Derived.Deep.Slices
set_option linter.defProp false
namespace Go.V
open Go.RowKit
abbrev X0:= @Option.some.injEq
abbrev X1:= @Nat.eq_of_beq_eq_true
abbrev X2:= @List.getElem?_eq_some_iff
abbrev X3:= @Bool.and_eq_true
abbrev X4:= @List.mem_append
abbrev X5:= @Option.some.inj
abbrev X6:= @List.mem_of_getElem?
abbrev X7:= @Prod.mk.injEq
abbrev X8:= @List.getElem?_append_left
abbrev X9:= @List.length_append
abbrev Y0:= @List.getElem?_eq_getElem
abbrev Y1:= @Nat.le_of_ble_eq_true
abbrev Y2:= @List.getD_eq_getElem?_getD
abbrev Y3:= @Array.getElem?_eq_some_iff
abbrev Y4:= @List.getElem?_cons_zero
abbrev Y5:= @List.getElem?_eq_none
abbrev Y6:= @List.length_take
abbrev Y7:= @Array.getD_eq_getD_getElem?
abbrev Y8:= @List.all_eq_true
abbrev Y9:= @List.mem_iff_getElem?
abbrev Z0:= @List.mem_cons
abbrev Z1:= @Int.toNat_natCast
abbrev Z2:= @List.getElem?_append_right
abbrev Z3:= @List.getElem?_take
abbrev Z4:= @List.mem_cons_of_mem
abbrev Z5:= @List.getElem?_set_ne
abbrev Z6:= @Array.getElem?_eq_getElem
abbrev Z7:= @List.take_append_of_le_length
abbrev Z8:= @Option.map_some
abbrev Z9:= @List.length_replicate
abbrev Q0:= @List.getElem?_set_self
abbrev Q1:= @List.length_set
abbrev Q2:= @List.append_assoc
abbrev Q4:= @List.take_of_length_le
abbrev Q5:= @List.mem_singleton
abbrev Q6:= @List.getElem?_drop
abbrev Q7:= @List.length_drop
abbrev Q8:= @List.take_append_drop
abbrev Q9:= @Nat.mul_le_mul_right
abbrev W3:= @List.mem_filter
abbrev W4:= @List.getElem?_map
abbrev W5:= @Nat.ble_eq_true_of_le
abbrev W6:= @decide_eq_true
abbrev W7:= @decide_eq_false
abbrev W8:= @Nat.le_refl
abbrev W9:= @Nat.le_trans
abbrev U0:= @Nat.zero_add
abbrev U1:= @List.map_cons
abbrev U2:= @List.mem_cons_self
abbrev U3:= @List.mem_map
abbrev U4:= @Nat.zero_le
abbrev U5:= @List.length_cons
abbrev U6:= @Bool.not_true
abbrev U7:= @List.length_map
abbrev U8:= @Nat.blt_eq
abbrev U9:= @List.mem_range
abbrev V0:= @Nat.lt_or_ge
abbrev V1:= @Nat.add_assoc
abbrev V2:= @Option.getD_some
abbrev V3:= @Nat.lt_of_lt_of_le
abbrev V4:= @Bool.not_eq_true'
abbrev V5:= @List.flatMap_cons
abbrev V6:= @Nat.add_mul
abbrev V7:= @Nat.min_eq_left
abbrev V8:= @List.mem_flatMap
abbrev V9:= @Nat.succ_mul
abbrev J0:= @List.map_append
abbrev J1:= @List.all_cons
abbrev J2:= @List.flatMap_append
abbrev J3:= @Bool.or_eq_true
abbrev J4:= @List.append_nil
abbrev J5:= @Nat.sub_zero
abbrev J6:= @Nat.add_comm
abbrev J7:= @Nat.beq_refl
abbrev J8:= @Nat.add_zero
abbrev J9:= @Array.length_toList
abbrev M0:= @List.mem_or_eq_of_mem_set
abbrev M1:= @Nat.zero_mul
abbrev M2:= @Nat.lt_trichotomy
abbrev M3:= @Bool.not_false
abbrev M4:= @List.drop_eq_nil_of_le
abbrev M5:= @List.drop_eq_getElem_cons
abbrev M6:= @Array.toList_map
abbrev M7:= @Nat.eq_zero_or_pos
abbrev M8:= @List.cons_append
abbrev M9:= @List.nil_append
abbrev N0:= @List.mem_of_mem_take
abbrev N1:= @Nat.add_sub_cancel_left
abbrev N2:= @List.drop_zero
abbrev N3:= @Nat.sub_self
abbrev N4:= @List.reverse_cons
abbrev N5:= @Option.getD_none
abbrev N6:= @Option.isSome_iff_exists
abbrev N7:= @Bool.and_self
abbrev N8:= @Bool.false_or
abbrev N9:= @List.contains_iff_mem
abbrev T0:= @List.pairwise_cons
abbrev T1:= @List.mem_filterMap
abbrev T2:= @List.take_length
abbrev T3:= @List.set_getElem_self
abbrev T4:= @List.eq_nil_of_length_eq_zero
abbrev T5:= @Array.toList_range
abbrev T6:= @Nat.mod_eq_of_lt
abbrev T7:= @List.length_nil
abbrev T8:= @List.not_mem_nil
abbrev T9:= @List.take_left
abbrev R0:= @List.contains_eq_mem
abbrev R1:= @Option.bind_some
abbrev R2:= @List.size_toArray
abbrev R3:= @List.append_eq_nil_iff
abbrev R4:= @List.eq_of_mem_replicate
abbrev R5:= @List.length_eq_zero_iff
abbrev R6:= @Bool.false_eq_true
abbrev R7:= @Bool.true_eq_false
abbrev R8:= @List.drop_of_length_le
abbrev R9:= @List.ext_getElem?
abbrev S7:= @List.length_eraseIdx_of_lt
abbrev S8:= @Array.toList_setIfInBounds
abbrev S9:= @List.take_succ_eq_append_getElem
abbrev PF:=List (Nat×Value)
def PF.get:PF->Nat->Option Value
 | [],_=>none
 |(j,v)::r,i=>match Nat.beq j i with|true=>some v|false=>PF.get r i
def PF.keep (F:PF):List Nat->PF
 | []=> []
 |i::r=>match F.get i with|some v=>(i,v)::F.keep r|none=>F.keep r
def upd (F:PF) (dst:Option Tmp) (v:Value):PF:=match dst with|some d=>(d,v)::F|none=>F
def ev (F:PF):Operand->Option Value
 | .tmp t=>F.get t
 | .const v=>some v
 | .global g=>some (.pointer (some ⟨g,0,none⟩))
 | .func f=>some (.func (.func f) #[] #[])
def evD (F:PF) (x:Operand):Value:=(ev F x).getD undef
structure Fr (n:Nat) (ds:List Deferred) (F:PF) (a:Act):Prop where
 size:a.tmps.size=n
 defers:a.defers=ds
 val: ∀i v,F.get i=some v->a.tmps.getD i undef=v/\i<n
def PF.get_keep (F:PF) (i:Nat) (v:Value): ∀l:List Nat,(F.keep l).get i=some v->F.get i=some v
 | [],h=>by simp [PF.keep,PF.get] at h
 |j::r,h=>by
  unfold PF.keep at h;split at h
  ·rename_i u hu;simp only [PF.get] at h;split at h
   ·rename_i hb;have:=X1 hb;subst this;rw [hu];exact h
   ·exact PF.get_keep F i v r h
  ·exact PF.get_keep F i v r h
def Fr.keep {n:Nat} {ds:List Deferred} {F F':PF} {a:Act} (h:Fr n ds F a) (l:List Nat) (hk:F.keep l=F'):Fr n ds F' a:=
 ⟨h.size,h.defers,fun i v hv=>h.val i v (PF.get_keep F i v l (by rw [hk];exact hv))⟩
def Fr.eval {n:Nat} {ds:List Deferred} {F:PF} {a:Act} (h:Fr n ds F a) {x:Operand} {v:Value} (hx:ev F x=some v):a.eval x=v:=by
 cases x with
 |tmp t=>exact (h.val t v hx).1
 |const u=>simpa [ev,Act.eval] using hx
 |global g=>simpa [ev,Act.eval] using hx
 |func f=>simpa [ev,Act.eval] using hx
def zh5 (n:Nat):Option Tmp->Bool|some d=>Nat.blt d n|none=>true
def Fr.upd {n:Nat} {ds:List Deferred} {F:PF} {a:Act} (h:Fr n ds F a) {dst:Option Tmp} (hd:zh5 n dst=true) (v:Value):Fr n ds (upd F dst v) (a.put dst v):=by
 cases dst with
 |none=>exact h
 |some d=>
  have hdn:d<n:=by simpa [zh5,U8] using hd
  refine ⟨by simp [Act.put,h.size],by simp [Act.put,h.defers],?_⟩;intro i u hu;simp only [Go.V.upd,PF.get] at hu;split at hu
  ·rename_i hb;have:=X1 hb;subst this;simp only [X0] at hu;subst hu;refine ⟨?_,hdn⟩;simp only [Act.put];rw [Y7,Array.getElem?_setIfInBounds_self_of_lt (by rw [h.size];exact hdn)];rfl
  ·rename_i hb;have hne:d≠i:=fun e=>by subst e;simp at hb
   have:=h.val i u hu;refine ⟨?_,this.2⟩;simp only [Act.put];rw [Y7,Array.getElem?_setIfInBounds_ne hne,<-Array.getD_eq_getD_getElem?];exact this.1
def yb9 (ops:Array Oper) (F:PF) (j:Nat):Option (Option Bool):=
 match (ops[j]?).bind (·.dst) with
 |some d=>match F.get d with|some (.bool b)=>some (some b)|some (.tuple _)=>some none|_=>none
 |none=>none
def jk7 {ops:Array Oper} {F:PF} {j:Nat} {b:Option Bool} {n:Nat} {ds:List Deferred} {a:Act} (h:Fr n ds F a) (hg:yb9 ops F j=some b):yielded ops a.tmps j=b:=by
 unfold yb9 at hg;unfold yielded;split at hg
 ·rename_i d hd;rw [hd];have key: ∀v,F.get d=some v->a.tmps[d]?=some v:=by
   intro v hv;have:=h.val d _ hv;have hlt:d<a.tmps.size:=by rw [h.size];exact this.2
   have e:=this.1;rw [Y7,Z6 hlt] at e;rw [Z6 hlt];simpa using e
  split at hg
  ·rename_i c hc;simp only [R1,key _ hc];simpa using hg
  ·rename_i c hc;simp only [R1,key _ hc];simpa using hg
  ·cases hg
 ·cases hg
def za6 (o:Oper):Bool:=match o.op with| .select ..=>false|_=>true
def zz9 (F:PF) (o:Oper):Bool:=o.op.operands.toList.all fun x=>(ev F x).isSome
def zx4 (ops:Array Oper) (F:PF) (o:Oper):Option Bool:=
 match o.guard with
 |none=>some true
 |some (j,b)=>(yb9 ops F j).map fun c=>match c,b with|some true,true=>true|some false,false=>true|_,_=>false
def zx5 {ops:Array Oper} {F:PF} {o:Oper} {b:Bool} {n:Nat} {ds:List Deferred} {a:Act} (h:Fr n ds F a) (hg:zx4 ops F o=some b):Region.wanted o (yielded ops a.tmps)=b:=by
 unfold zx4 at hg;unfold Region.wanted;split at hg
 ·rename_i hn;rw [hn];simpa using hg
 ·rename_i j c hn;rw [hn];cases hv:yb9 ops F j with
  |none=>rw [hv] at hg;cases hg
  |some d=>
   rw [hv] at hg;simp only [Z8,X0] at hg;simp only [jk7 h hv];subst hg;rcases d with _|d
   ·cases c<;>rfl
   ·cases d<;>cases c<;>rfl
def dec (ops:Array Oper) (k n:Nat) (F:PF):Option Oper:=
 match ops[k]? with
 |none=>none
 |some o=>
  match zx4 ops F o with
  |some true=>match (zh5 n o.dst&&(za6 o&&zz9 F o)) with|true=>some o|false=>none
  |_=>none
def zj4 {ops:Array Oper} {k n:Nat} {F:PF} {o:Oper} (h:dec ops k n F=some o):
  ops[k]?=some o/\zh5 n o.dst=true/\(∀cs b,o.op≠.select cs b)/\(∀x∈o.op.operands,(ev F x).isSome=true)/\
  ∀ {ds:List Deferred} {a:Act},Fr n ds F a->Region.wanted o (yielded ops a.tmps)=true:=by
 unfold dec at h;split at h
 ·cases h
 ·rename_i o' ho;split at h
  ·rename_i hw;split at h
   ·rename_i hb;simp only [X0] at h;subst h;simp only [X3] at hb;refine ⟨ho,hb.1,?_,?_,fun hfr=>zx5 hfr hw⟩
    ·intro cs b e;have:=hb.2.1;simp [za6,e] at this
    ·intro x hx;have:=hb.2.2;unfold zz9 at this;rw [Y8] at this;exact this x (Array.mem_toList_iff.2 hx)
   ·cases h
  ·cases h
def ju4 {n:Nat} {ds:List Deferred} {F:PF} {a:Act} {o:Oper} (h:Fr n ds F a) (hs: ∀cs b,o.op≠.select cs b) (hp: ∀x∈o.op.operands,(ev F x).isSome=true):
  execOp a.eval o=execOp (evD F) o:=
 execOp_congr o hs fun x hx=>by
  obtain ⟨v,hv⟩:=N6.1 (hp x hx);rw [h.eval hv];simp [evD,hv]
def step1 (P:Program) (ops:Array Oper) (k n:Nat) (F:PF) (w:World):Option (PF×World):=
 match ops[k]? with
 |none=>none
 |some o=>
  match zx4 ops F o with
  |some true=>
   match (zh5 n o.dst&&(za6 o&&zz9 F o)) with
   |true=>
    match (execOp (evD F) o).run P w with
    | .ok (.value v) w'=>some (upd F o.dst v,w')
    | .ok .skip w'=>some (upd F o.dst undef,w')
    |_=>none
   |false=>none
  |some false=>match zh5 n o.dst with|true=>some (upd F o.dst undef,w)|false=>none
  |none=>none
def evK (P:Program) (ops:Array Oper) (n:Nat):Nat->Nat->PF->World->Option (PF×World)
 |0,_,F,w=>some (F,w)
 |m+1,k,F,w=>match step1 P ops k n F w with|some (F',w')=>evK P ops n m (k+1) F' w'|none=>none
def WR (P:Program) (ops:Array Oper) (Q:Exit->Act->World->Prop) (k n:Nat) (ds:List Deferred) (F:PF) (w:World):Prop:=
 ∀a,Fr n ds F a->wpList P ops Q (ops.toList.drop k) a w
def CW (P:Program) (c:Code) (Q:Exit->Act->World->Prop) (n:Nat) (ds:List Deferred) (F:PF) (w:World):Prop:=
 ∀a,Fr n ds F a->c.wp P Q a w
section
variable {P:Program} {ops:Array Oper} {Q:Exit->Act->World->Prop} {k n:Nat} {ds:List Deferred} {F F':PF} {w w':World}
def zg4 {o:Oper} (h:ops[k]?=some o):ops.toList.drop k=o::ops.toList.drop (k+1):=by
 have hlt:k<ops.toList.length:=by
  have:=(Y3.1 h).1;simpa using this
 rw [M5 hlt];congr 1;have:=(Y3.1 h).2;simpa using this
def WR.step {o:Oper} (hd:dec ops k n F=some o)
  (h: ∀a,Fr n ds F a->execOp a.eval o=execOp (evD F) o->o.wp P a w (wpList P ops Q (ops.toList.drop (k+1))) Q):WR P ops Q k n ds F w:=by
 intro a ha;obtain ⟨ho,_,hs,hp,hw⟩:=zj4 hd;rw [zg4 ho];unfold wpList;rw [if_pos (hw ha)];exact .inl (h a ha (ju4 ha hs hp))
def WR.val {o:Oper} {v:Value} (hd:dec ops k n F=some o) (hr:(execOp (evD F) o).run P w=.ok (.value v) w')
  (K:WR P ops Q (k+1) n ds (upd F o.dst v) w'):WR P ops Q k n ds F w:=
 .step hd fun a ha he=>by
  unfold Oper.wp;rw [he,hr];exact K _ (ha.upd (zj4 hd).2.1 v)
def WR.skip {o:Oper} (hd:dec ops k n F=some o) (hr:(execOp (evD F) o).run P w=.ok .skip w')
  (K:WR P ops Q (k+1) n ds (upd F o.dst undef) w'):WR P ops Q k n ds F w:=
 .step hd fun a ha he=>by
  unfold Oper.wp;rw [he,hr];exact K _ (ha.upd (zj4 hd).2.1 undef)
def WR.enter {o:Oper} {f:FuncId} {args:Array Value} {R:Ending->World->Prop} (hd:dec ops k n F=some o) (hr:(execOp (evD F) o).run P w=.ok (.enter f args) w')
  (hc:Calls P f args w' R) (K: ∀v w'',R (.returned v) w''->WR P ops Q (k+1) n ds (upd F o.dst v) w'')
  (hp: ∀ch w'',R (.panicked ch) w''-> ∀a,Fr n ds F a->Q (.panic ch) a w'') (ho: ∀w'',R .outgrown w''->LetsOut Q):WR P ops Q k n ds F w:=
 .step hd fun a ha he=>by
  unfold Oper.wp;rw [he,hr];refine hc.mono fun e w'' hR=>?_;cases e with
  |returned v=>exact K v w'' hR _ (ha.upd (zj4 hd).2.1 v)
  |panicked ch=>exact hp ch w'' hR a ha
  |outgrown=>exact ho w'' hR
def WR.throw {o:Oper} {v:Value} (hd:dec ops k n F=some o) (hr:(execOp (evD F) o).run P w=.halt (.panic v) w')
  (K: ∀a,Fr n ds F a->Q (.panic [{v,recovered:=false}]) a w'):WR P ops Q k n ds F w:=
 .step hd fun a ha he=>by
  unfold Oper.wp;rw [he,hr];exact K a ha
def qr3 (h:step1 P ops k n F w=some (F',w')) (K:WR P ops Q (k+1) n ds F' w'):WR P ops Q k n ds F w:=by
 unfold step1 at h;split at h
 ·cases h
 ·rename_i o ho;split at h
  ·rename_i hw;split at h
   ·rename_i hb;have hd:dec ops k n F=some o:=by unfold dec;simp only [ho,hw,hb]
    split at h
    ·rename_i v w₁ hr;simp only [X0,X7] at h;obtain ⟨rfl,rfl⟩:=h;exact .val hd hr K
    ·rename_i w₁ hr;simp only [X0,X7] at h;obtain ⟨rfl,rfl⟩:=h;exact .skip hd hr K
    ·cases h
   ·cases h
  ·rename_i hw;split at h
   ·rename_i hb;simp only [X0,X7] at h;obtain ⟨rfl,rfl⟩:=h;intro a ha;rw [zg4 ho];unfold wpList;rw [if_neg (by rw [zx5 ha hw];simp)];exact K _ (ha.upd hb undef)
   ·cases h
  ·cases h
def WR.evs: ∀(m k:Nat) (F:PF) (w:World),evK P ops n m k F w=some (F',w')->WR P ops Q (k+m) n ds F' w'->WR P ops Q k n ds F w
 |0,_,_,_,h,K=>by
  simp only [evK,X0,X7] at h;obtain ⟨rfl,rfl⟩:=h;exact K
 |m+1,k,F,w,h,K=>by
  unfold evK at h;split at h
  ·rename_i F₁ w₁ h1;exact qr3 h1 (WR.evs m (k+1) F₁ w₁ h (by rw [V1,J6 1 m];exact K))
  ·cases h
def WR.keep (l:List Nat) (h:F.keep l=F') (K:WR P ops Q k n ds F' w):WR P ops Q k n ds F w:=fun a ha=>K a (ha.keep l h)
def WR.batch (m:Nat) (F':PF) (h:(match evK P ops n m k F w with|some (G,w₁)=>some (G.keep (F'.map Prod.fst),w₁)|none=>none)=some (F',w)) (K:WR P ops Q (k+m) n ds F' w):WR P ops Q k n ds F w:=by
 split at h
 ·rename_i G w₁ hG;simp only [X0,X7] at h;obtain ⟨h1,rfl⟩:=h;exact .evs m k F _ hG (.keep _ h1 K)
 ·cases h
def WR.fin (hk:Nat.ble ops.size k=true) (K: ∀a,Fr n ds F a->Q .normal a w):WR P ops Q k n ds F w:=fun a ha=>by
 rw [M4 (by simpa using Y1 hk)];exact K a ha
def CW.region {id:Nat} (h:WR P ops Q 0 n ds F w):CW P (.region id ops false) Q n ds F w:=fun a ha=>wp_region_list (by simpa using h a ha)
def CW.seq {x y:Code} (h: ∀K:Act->World->Prop,(∀a w,y.wp P Q a w->K a w)->CW P x (Exit.then K Q) n ds F w):CW P (.seq x y) Q n ds F w:=
 fun a ha=>wp_seq_k fun K hK=>h K hK a ha
def go {y:Code} {K:Act->World->Prop} (hK: ∀a w,y.wp P Q a w->K a w) (h:CW P y Q n ds F w): ∀a,Fr n ds F a->K a w:=fun a ha=>hK a w (h a ha)
def CW.keep {c:Code} (l:List Nat) (h:F.keep l=F') (K:CW P c Q n ds F' w):CW P c Q n ds F w:=fun a ha=>K a (ha.keep l h)
def CW.skip (K: ∀a,Fr n ds F a->Q .normal a w):CW P .skip Q n ds F w:=fun a ha=>wp_skip (K a ha)
def CW.ret (K: ∀a,Fr n ds F a->Q .ret a w):CW P .ret Q n ds F w:=fun a ha=>wp_ret (K a ha)
def CW.exit {id:Nat} (K: ∀a,Fr n ds F a->Q (.exit id) a w):CW P (.exit id) Q n ds F w:=fun a ha=>wp_exit (K a ha)
def CW.block {id:Nat} {c:Code} (h:CW P c (Exit.inBlock id Q) n ds F w):CW P (.block id c) Q n ds F w:=fun a ha=>wp_block (h a ha)
def CW.yes {c:Operand} {x y:Code} (hc:ev F c=some (.bool true)) (h:CW P x Q n ds F w):CW P (.cond c x y) Q n ds F w:=fun a ha=>wp_cond_true (ha.eval hc) (h a ha)
def CW.no {c:Operand} {x y:Code} (hc:ev F c=some (.bool false)) (h:CW P y Q n ds F w):CW P (.cond c x y) Q n ds F w:=fun a ha=>wp_cond_false (ha.eval hc) (h a ha)
def CW.cond {c:Operand} {x y:Code} (t:Bool) (hc:ev F c=some (.bool t)) (ht:t=true->CW P x Q n ds F w) (hf:t=false->CW P y Q n ds F w):CW P (.cond c x y) Q n ds F w:=
 fun a ha=>wp_cond_split (ha.eval hc) (fun h=>ht h a ha) (fun h=>hf h a ha)
def kx4 {σ:Type} (n:Nat) (ds:List Deferred) (I:σ->World->Prop) (FF:σ->PF) (μ:σ->Nat) (Q:Exit->Act->World->Prop) (m:Nat):Exit->Act->World->Prop
 | .normal,a,w=> ∃s,I s w/\μ s<m/\Fr n ds (FF s) a
 |e,a,w=>Q e a w
def CW.loop {σ:Type} {c:Code} (I:σ->World->Prop) (FF:σ->PF) (μ:σ->Nat) (s:σ) (h0:I s w) (l:List Nat) (hF:F.keep l=FF s)
  (round: ∀s w,I s w->CW P c (kx4 n ds I FF μ Q (μ s)) n ds (FF s) w):CW P (.loop c) Q n ds F w:=by
 intro a ha
 classical
 have hmeas: ∀a w,(∃s,I s w/\Fr n ds (FF s) a)-> ∃m,(∃s,I s w/\Fr n ds (FF s) a/\μ s=m)/\ ∀s,I s w->Fr n ds (FF s) a->m<=μ s:=by
  intro a w ⟨s,hs,hf⟩;have key: ∀m,(∃s,I s w/\Fr n ds (FF s) a/\μ s=m)-> ∃m,(∃s,I s w/\Fr n ds (FF s) a/\μ s=m)/\ ∀s,I s w->Fr n ds (FF s) a->m<=μ s:=by
   intro m;induction m using Nat.strongRecOn with
   |_ m ih=>
    intro hm;by_cases hex: ∃s,I s w/\Fr n ds (FF s) a/\μ s<m
    ·obtain ⟨s',h1,h2,h3⟩:=hex;exact ih (μ s') h3 ⟨s',h1,h2,rfl⟩
    ·exact ⟨m,hm,fun s' h1 h2=>Nat.le_of_not_lt fun h3=>hex ⟨s',h1,h2,h3⟩⟩
  exact key (μ s) ⟨s,hs,hf,rfl⟩
 refine wp_loop (fun a w=> ∃s,I s w/\Fr n ds (FF s) a) (fun a w=>if h: ∃s,I s w/\Fr n ds (FF s) a then Classical.choose (hmeas a w h) else 0) ⟨s,h0,ha.keep l hF⟩ ?_;intro a w hI;have hc:=Classical.choose_spec (hmeas a w hI);obtain ⟨⟨s,hs,hf,hm⟩,_⟩:=hc;simp only [dif_pos hI];rw [<-hm];refine wp_mono (round s w hs a hf) fun e a' w' hq=>?_;cases e with
 |normal=>
  obtain ⟨s',h1,h2,h3⟩:=hq;have hI': ∃s,I s w'/\Fr n ds (FF s) a':=⟨s',h1,h3⟩;refine ⟨hI',?_⟩;simp only [dif_pos hI'];exact Nat.lt_of_le_of_lt ((Classical.choose_spec (hmeas a' w' hI')).2 s' h1 h3) h2
 |exit id=>exact hq
 |goto l=>exact hq
 |ret=>exact hq
 |panic ch=>exact hq
 |outgrown=>exact hq
end
section
variable {P:Program} {n:Nat} {F:PF} {w:World}
def jk0 (l:List Value):Nat->PF
 |i=>match l with| []=> []|v::r=>(i,v)::jk0 r (i+1)
def yh7 (l:List Value): ∀(i j:Nat) (v:Value),(jk0 l i).get j=some v->i<=j/\l[j-i]?=some v:=by
 induction l with
 |nil=>intro i j v h;simp [jk0,PF.get] at h
 |cons u r ih=>
  intro i j v h;simp only [jk0,PF.get] at h;split at h
  ·rename_i hb;have:=X1 hb;subst this;simpa using h
  ·rename_i hb;have hne:i≠j:=fun e=>by subst e;simp at hb
   obtain ⟨h1,h2⟩:=ih (i+1) j v h;refine ⟨by omega,?_⟩;rw [show j-i=(j-(i+1))+1 by omega];simpa using h2
def ze5 {f:FuncId} {fn:Func} {c:Code} {args:Array Value} {R:Ending->World->Prop} (hf:P.funcs[f]?=some fn) (hb:fn.body=some c) (hn:fn.ntmps=n) (hs:Nat.ble args.size n=true)
  (l:List Nat) (hF:(jk0 args.toList 0).keep l=F) (h:CW P c (bodyPost P fn R) n [] F w):Calls P f args w R:=by
 have hsz:args.size<=n:=Y1 hs;refine calls_of_wp hf hb (h _ (Fr.keep ⟨?_,rfl,?_⟩ l hF))
 ·simp [hn];omega
 ·intro i v hv;obtain ⟨_,h2⟩:=yh7 args.toList 0 i v hv;simp only [J5,Array.getElem?_toList] at h2;have hi:=(Y3.1 h2).1;refine ⟨?_,by omega⟩;rw [Y7,Array.getElem?_append_left hi,h2];rfl
def vn2 (F:PF):List ResultVar->Option (List Value)
 | []=>some []
 | .tmp t::r=>match F.get t,vn2 F r with|some v,some l=>some (v::l)|_,_=>none
 | .cell _ _::_=>none
def ki5 (fn:Func) (F:PF):Option Value:=match vn2 F fn.results.toList with|some [v]=>some v|some l=>some (.tuple l.toArray)|none=>none
def qk8 {ds:List Deferred} {a:Act} (ha:Fr n ds F a) (f:ResultVar->Sem Value) (hf: ∀t,f (.tmp t)=Pure.pure (a.tmps.getD t undef)): ∀(l:List ResultVar) (vs:List Value),vn2 F l=some vs->
  (l.mapM f).run P w=.ok vs w
 | [],vs,h=>by simp [vn2] at h;subst h;rfl
 | .tmp t::r,vs,h=>by
  unfold vn2 at h;split at h
  ·rename_i v l hv hl;simp only [X0] at h;subst h;have e:=(ha.val t v hv).1;have ih:=qk8 ha f hf r l hl;simp only [List.mapM_cons,Sem.run_bind,Sem.run_pure,Result.andThen_ok,ih,e,hf]
  ·cases h
 | .cell c t::r,vs,h=>by simp [vn2] at h
def yc6 {ds:List Deferred} {a:Act} (ha:Fr n ds F a) {fn:Func} {f:ResultVar->Sem Value} (hf: ∀t,f (.tmp t)=Pure.pure (a.tmps.getD t undef)) {vs:List Value} (h:vn2 F fn.results.toList=some vs):
  (fn.results.mapM f).run P w=.ok vs.toArray w:=by
 have:=qk8 (P:=P) (w:=w) ha f hf fn.results.toList vs h;rw [Array.mapM_eq_mapM_toList];simp only [Sem.run_map,this,Result.andThen_ok]
def qk9 {fn:Func} {ds:List Deferred} {a:Act} (ha:Fr n ds F a) {v:Value} (h:ki5 fn F=some v):(results fn a.tmps).run P w=.ok v w:=by
 unfold ki5 at h;split at h
 ·rename_i u hl;simp only [X0] at h;subst h;unfold results;rw [Sem.run_bind,yc6 ha (fun t=>rfl) hl];rfl
 ·rename_i l hne hl;simp only [X0] at h;subst h;unfold results;rw [Sem.run_bind,yc6 ha (fun t=>rfl) hl];have:l.toArray.size≠1:=by
   intro e
   match l,e with
   | [u],_=>exact hne u rfl
  simp only [Result.andThen_ok,this,dite_false];rfl
 ·cases h
def qq8 {fn:Func} {R:Ending->World->Prop} (v:Value) (h:ki5 fn F=some v) (hR:R (.returned v) w): ∀a,Fr n [] F a->bodyPost P fn R .ret a w:=
 fun _ ha=>⟨ha.defers,v,qk9 ha h,hR⟩
def gc3 {fn:Func} {R:Ending->World->Prop} (v:Value) (h:ki5 fn F=some v) (hR:R (.returned v) w): ∀a,Fr n [] F a->bodyPost P fn R .normal a w:=
 fun _ ha=>⟨ha.defers,v,qk9 ha h,hR⟩
end
end Go.V
namespace Go.V
open Go.RowKit
structure Chg (S:List Nat) (w w':World):Prop where
 os:w'.os=w.os
 tape:w'.tape=w.tape
 output:w'.output=w.output
 size:w.heap.size<=w'.heap.size
 block: ∀k,k<w.heap.size->k∉S->w'.heap[k]?=w.heap[k]?
def Chg.refl (S:List Nat) (w:World):Chg S w w:=⟨rfl,rfl,rfl,W8 _,fun _ _ _=>rfl⟩
def Chg.step {S T:List Nat} {w0 w w':World} (h:Chg S w0 w) (h':Chg T w w') (hT: ∀t∈T,t∈S\/w0.heap.size<=t):Chg S w0 w':=
 ⟨h'.os.trans h.os,h'.tape.trans h.tape,h'.output.trans h.output,W9 h.size h'.size,fun k hk hS=>
  (h'.block k (V3 hk h.size) fun hm=>by rcases hT k hm with h1|h1;exact hS h1;omega).trans (h.block k hk hS)⟩
def Chg.pure {S:List Nat} {w0 w w':World} (h:Chg S w0 w) (h':Chg [] w w'):Chg S w0 w':=h.step h' (by simp)
def Chg.weak {S T:List Nat} {w w':World} (h:Chg T w w') (hT: ∀t∈T,t∈S):Chg S w w':=
 ⟨h.os,h.tape,h.output,h.size,fun k hk hS=>h.block k hk fun hm=>hS (hT k hm)⟩
def Chg.drew (w:World):Chg [] w {w with drawn:=w.drawn+1}:=⟨rfl,rfl,rfl,W8 _,fun _ _ _=>rfl⟩
def Chg.below {w w':World} (h:Chg [] w w'):Below w.heap.size w w':=⟨h.os,h.tape,h.output,h.size,fun k hk=>h.block k hk (by simp)⟩
def Chg.ofBelow {w w':World} (h:Below w.heap.size w w'):Chg [] w w':=⟨h.os,h.tape,h.output,h.size,fun k hk _=>h.block k hk⟩
def Chg.alloc (w:World) (o:Obj):Chg [] w (w.alloc o):=⟨rfl,rfl,rfl,by simp,fun k hk _=>Below.heap_alloc w o k hk⟩
def Blk (w:World) (g:Nat) (c:Array Value) (e:TypeId):Prop:=w.heap[g]?=some (.cells c e (0,0))
def Blk.lt {w:World} {g:Nat} {c:Array Value} {e:TypeId} (h:Blk w g c e):g<w.heap.size:=(Y3.1 h).1
def Blk.chg {S:List Nat} {w w':World} {g:Nat} {c:Array Value} {e:TypeId} (h:Blk w g c e) (hc:Chg S w w') (hg:g∉S):Blk w' g c e:=(hc.block g h.lt hg).trans h
def Blk.pure {w w':World} {g:Nat} {c:Array Value} {e:TypeId} (h:Blk w g c e) (hc:Chg [] w w'):Blk w' g c e:=h.chg hc (by simp)
def Chg.step1 {S:List Nat} {g:Nat} {w0 w w':World} (h:Chg S w0 w) (h':Chg [g] w w') (hg:w0.heap.size<=g):Chg S w0 w':=h.step h' (by intro t ht;simp only [Z0,T8,or_false] at ht;subst ht;exact .inr hg)
structure New (w w':World) (g:Nat) (c:Array Value) (e:TypeId):Prop where
 blk:Blk w' g c e
 chg:Chg [] w w'
 fresh:w.heap.size<=g
def New.alloc (w:World) (c:Array Value) (e:TypeId):New w (w.alloc (.cells c e)) w.heap.size c e:=⟨heap_alloc_new w _,Chg.alloc w _,W8 _⟩
def bk:Option Addr->Nat|some a=>a.block|none=>0
def of:Option Addr->Nat|some a=>a.off|none=>0
def Rg (w:World) (ad:Option Addr) (cs:List Value):Prop:=
 ∀j u,cs[j]?=some u->ad=some ⟨bk ad,of ad,none⟩/\w.cell? ⟨bk ad,of ad+j,none⟩=some u
def Rg.nil (w:World) (ad:Option Addr):Rg w ad []:=fun j u h=>by simp at h
def Rg.chg {S:List Nat} {w w':World} {ad:Option Addr} {cs:List Value} (h:Rg w ad cs) (hc:Chg S w w') (hb:bk ad∉S\/cs= []):Rg w' ad cs:=by
 intro j u hu;obtain ⟨h1,h2⟩:=h j u hu;refine ⟨h1,?_⟩;rcases hb with hb|hb
 ·exact (World.cell?_of_block (hc.block _ (World.block_lt_of_cell? w _ h2) hb)).trans h2
 ·subst hb;simp at hu
def Rg.pure {w w':World} {ad:Option Addr} {cs:List Value} (h:Rg w ad cs) (hc:Chg [] w w'):Rg w' ad cs:=h.chg hc (.inl (by simp))
def Rg.lt {w:World} {ad:Option Addr} {cs:List Value} (h:Rg w ad cs) (hn:cs≠ []):bk ad<w.heap.size:=by
 cases cs with
 |nil=>exact absurd rfl hn
 |cons u r=>exact World.block_lt_of_cell? w _ (h 0 u rfl).2
def Rg.blk {w:World} {g off:Nat} {c:Array Value} {e:TypeId} (h:Blk w g c e) (cs:List Value) (hcs: ∀j u,cs[j]?=some u->c[off+j]?=some u):Rg w (some ⟨g,off,none⟩) cs:=by
 intro j u hu;refine ⟨rfl,?_⟩;have:=cell_of_row w g (off+j) c e (0,0) h;show w.cell? ⟨g,off+j,none⟩=some u;rw [this];exact hcs j u hu
def Rg.sub {w:World} {ad:Option Addr} {cs:List Value} (h:Rg w ad cs) (l m:Nat) (ad':Option Addr) (had:ad=some ⟨bk ad,of ad,none⟩->ad'=some ⟨bk ad,of ad+l,none⟩):Rg w ad' ((cs.drop l).take m):=by
 intro j u hu;rw [Z3] at hu;split at hu
 ·rw [Q6] at hu;obtain ⟨h1,h2⟩:=h (l+j) u hu;have e:=had h1;subst e;exact ⟨rfl,by simpa [bk,of,V1] using h2⟩
 ·cases hu
def Own (w:World) (B:Nat) (e:TypeId) (sz:Nat) (ad:Option Addr) (n cap:Nat) (cs:List Value):Prop:=
 cs.length=n*sz/\((Value.slice ad n cap=.slice none 0 0/\n=0)\/ ∃(g cap':Nat) (cur:Array Value),Value.slice ad n cap=.slice (some ⟨g,0,none⟩) n cap'/\B<=g/\w.heap[g]?=some (.cells cur e (0,0))/\n<=cap'/\cap'<=maxLen/\cap'*sz<=cur.size/\cur.toList.take (n*sz)=cs)
def Own.of {w:World} {B:Nat} {e:TypeId} {sz:Nat} {ad:Option Addr} {n cap:Nat} {cs:List Value} (h:w.ownsRow B e sz (.slice ad n cap) n cs):Own w B e sz ad n cap cs:=by
 obtain ⟨h1,h2|⟨g,cap',cur,h3,h4,h5,h6,h7,h8,h9⟩⟩:=h
 ·exact ⟨h1,.inl h2⟩
 ·exact ⟨h1,.inr ⟨g,cap',cur,h3,h4,h5,h6,h7,Nat.le_of_eq h8.symm,h9⟩⟩
def Own.len {w:World} {B:Nat} {e:TypeId} {sz:Nat} {ad:Option Addr} {n cap:Nat} {cs:List Value} (h:Own w B e sz ad n cap cs):cs.length=n*sz:=h.1
def Own.cases {w:World} {B:Nat} {e:TypeId} {sz:Nat} {ad:Option Addr} {n cap:Nat} {cs:List Value} (h:Own w B e sz ad n cap cs):
  (ad=none/\n=0/\cap=0/\cs= [])\/ ∃c,ad=some ⟨bk ad,0,none⟩/\B<=bk ad/\Blk w (bk ad) c e/\n<=cap/\cap<=maxLen/\cap*sz<=c.size/\c.toList.take (n*sz)=cs:=by
 obtain ⟨h1,h2⟩:=h;rcases h2 with ⟨h2,h3⟩|⟨g,cap',cur,hv,hb,hg,hn,hm,hs,ht⟩
 ·simp only [Value.slice.injEq] at h2;obtain ⟨rfl,rfl,rfl⟩:=h2;exact .inl ⟨rfl,rfl,rfl,T4 (by simpa using h1)⟩
 ·simp only [Value.slice.injEq,true_and] at hv;obtain ⟨rfl,rfl⟩:=hv;exact .inr ⟨cur,rfl,hb,hg,hn,hm,hs,ht⟩
def Own.rg {w:World} {B:Nat} {e:TypeId} {sz:Nat} {ad:Option Addr} {n cap:Nat} {cs:List Value} (h:Own w B e sz ad n cap cs):Rg w ad cs:=by
 rcases h.cases with ⟨_,_,_,rfl⟩|⟨c,had,_,hb,_,_,_,ht⟩
 ·exact Rg.nil _ _
 ·rw [had];refine Rg.blk hb cs fun j u hu=>?_;rw [<-ht,Z3] at hu;split at hu
  ·simpa using hu
  ·cases hu
def Own.chg {S:List Nat} {w w':World} {B:Nat} {e:TypeId} {sz:Nat} {ad:Option Addr} {n cap:Nat} {cs:List Value} (h:Own w B e sz ad n cap cs) (hc:Chg S w w') (hb:bk ad∉S\/ad=none):Own w' B e sz ad n cap cs:=by
 obtain ⟨h1,h2⟩:=h;refine ⟨h1,?_⟩;rcases h2 with h2|⟨g,cap',cur,hv,hB,hg,r⟩
 ·exact .inl h2
 ·refine .inr ⟨g,cap',cur,hv,hB,?_,r⟩;simp only [Value.slice.injEq,true_and] at hv;rcases hb with hb|hb
  ·rw [hv.1] at hb;exact (hc.block g (Y3.1 hg).1 hb).trans hg
  ·rw [hb] at hv;simp at hv
def Own.pure {w w':World} {B:Nat} {e:TypeId} {sz:Nat} {ad:Option Addr} {n cap:Nat} {cs:List Value} (h:Own w B e sz ad n cap cs) (hc:Chg [] w w'):Own w' B e sz ad n cap cs:=h.chg hc (.inl (by simp))
def Own.nil (w:World) (B:Nat) (e:TypeId) (sz:Nat):Own w B e sz none 0 0 []:=.of (World.ownsRow_nil w B e sz)
def Own.le {w:World} {B:Nat} {e:TypeId} {sz:Nat} {ad:Option Addr} {n cap:Nat} {cs:List Value} (h:Own w B e sz ad n cap cs):n<=cap/\cap<=maxLen:=by
 rcases h.cases with ⟨_,rfl,rfl,_⟩|⟨c,_,_,_,h1,h2,_⟩
 ·exact ⟨W8 _,U4 _⟩
 ·exact ⟨h1,h2⟩
def Own.ge {w:World} {B:Nat} {e:TypeId} {sz:Nat} {ad:Option Addr} {n cap:Nat} {cs:List Value} (h:Own w B e sz ad n cap cs):ad=none\/(B<=bk ad/\bk ad<w.heap.size):=by
 rcases h.cases with ⟨h1,_⟩|⟨c,_,h1,h2,_⟩
 ·exact .inl h1
 ·exact .inr ⟨h1,h2.lt⟩
def ldv (P:Program) (t:TypeId) (c:Array Value) (o:Nat):Option Value:=
 match P.info? t,P.underlying t with
 |some i,some (.struct _)|some i,some (.array _ _)=>match Nat.ble (o+i.size) c.size with|true=>some (.agg (c.extract o (o+i.size)))|false=>none
 |some _,some _=>c[o]?
 |_,_=>none
def zj2 (P:Program) (t:TypeId):Bool:=match P.underlying t with|some (.struct _)|some (.array _ _)=>false|some _=>true|none=>false
def ya1:TypeDesc->Bool| .struct _=>true| .array _ _=>true|_=>false
def zu8 {P:Program} {t:TypeId} {d:TypeDesc} (h:P.underlying t=some d) (w:World):(isAgg t).run P w=.ok (ya1 d) w:=by
 unfold isAgg;rw [Sem.run_bind];have:(underlying t).run P w=.ok d w:=by simp [underlying,h]
 rw [this];cases d<;>rfl
def zf0 {P:Program} {t:TypeId} (h:zj2 P t=true) {a:Addr} {w:World} {v:Value} (hv:w.cell? a=some v):(loadVar t a).run P w=.ok v w:=by
 unfold zj2 at h;cases hd:P.underlying t with
 |none=>rw [hd] at h;cases h
 |some d=>
  rw [hd] at h;unfold loadVar;rw [Sem.run_bind,zu8 hd];cases d<;>first|(cases h;done)|simp [ya1,load,Sem.run,hv]
def jk2 (w:World) (g:Nat) (c:Array Value) (e:TypeId) (fr:Nat×Nat) (hb:w.heap[g]?=some (.cells c e fr)) (o n:Nat) (hn:o+n<=c.size) (P:Program):
  (loadCells ⟨g,o,none⟩ n).run P w=.ok (c.extract o (o+n)) w:=by
 have:=run_loadCells_list (P:=P) (w:=w) ⟨g,o,none⟩ (c.extract o (o+n)).toList (fun j v hj=>by
  have hadd:(⟨g,o,none⟩:Addr).add j=⟨g,o+j,none⟩:=by unfold Addr.add;split<;>simp_all
  rw [hadd,cell_of_row w g (o+j) c e fr hb];simp only [Array.getElem?_toList,Array.getElem?_extract] at hj;split at hj
  ·exact hj
  ·cases hj)
 have hl:(c.extract o (o+n)).toList.length=n:=by simp;omega
 rw [hl] at this;rw [this]
def zs4 {P:Program} {t:TypeId} {w:World} {g o:Nat} {c:Array Value} {e:TypeId} {fr:Nat×Nat} {v:Value} (hb:w.heap[g]?=some (.cells c e fr)) (h:ldv P t c o=some v):
  (loadVar t ⟨g,o,none⟩).run P w=.ok v w:=by
 unfold ldv at h;have agg: ∀(i:TypeInfo) (d:TypeDesc),P.info? t=some i->P.underlying t=some d->ya1 d=true->
   (match Nat.ble (o+i.size) c.size with|true=>some (Value.agg (c.extract o (o+i.size)))|false=>none)=some v->(loadVar t ⟨g,o,none⟩).run P w=.ok v w:=by
  intro i d hi hd hag hv;split at hv
  ·rename_i hle;simp only [X0] at hv;subst hv;have hle':=Y1 hle;unfold loadVar;rw [Sem.run_bind,zu8 hd,hag];have hs:(sizeOf t).run P w=.ok i.size w:=by simp [sizeOf,typeInfo,hi]
   simp only [Result.andThen_ok,if_true,Sem.run_bind,hs,jk2 w g c e fr hb o i.size hle' P,Sem.run_pure]
  ·cases hv
 split at h
 ·rename_i i _ hi hd;exact agg i _ hi hd rfl h
 ·rename_i i _ _ hi hd;exact agg i _ hi hd rfl h
 ·rename_i i d hn1 hn2 hi hd;refine zf0 ?_ (by rw [cell_of_row w g o c e fr hb];exact h);unfold zj2;rw [hd];cases d<;>first|rfl|(exact absurd rfl (hn1 _))|(exact absurd rfl (hn2 _ _))|skip
  all_goals simp_all
 ·cases h
def zz4 (c:Array Value) (o:Nat):List Value->Array Value
 | []=>c
 |v::r=>zz4 (c.setIfInBounds o v) (o+1) r
def stv (P:Program) (t:TypeId) (c:Array Value) (o:Nat) (v:Value):Option (Array Value):=
 match P.info? t with
 |some i=>match (Nat.beq v.cells.size i.size&&(Nat.ble (o+i.size) c.size&&v.cells.toList.all Value.oneCell')) with|true=>some (zz4 c o v.cells.toList)|false=>none
 |none=>none
def zi3 (P:Program) (e:TypeId) (g:Nat): ∀(vs:List Value) (o i:Nat) (c:Array Value) (w:World),Blk w g c e->o+i+vs.length<=c.size->(∀v∈vs,v.oneCell'=true)->
  ∃w',(storeCells ⟨g,o,none⟩ vs i).run P w=.ok () w'/\Blk w' g (zz4 c (o+i) vs) e/\Chg [g] w w'
 | [],o,i,c,w,hb,_,_=>⟨w,rfl,hb,Chg.refl _ _⟩
 |v::r,o,i,c,w,hb,hl,h1=>by
  simp only [U5] at hl;have hadd:(⟨g,o,none⟩:Addr).add i=⟨g,o+i,none⟩:=by unfold Addr.add;split<;>simp_all
  have hcell:w.cell? ⟨g,o+i,none⟩=some c[o+i]:=by
   rw [cell_of_row w g (o+i) c e (0,0) hb,Z6 (by omega)]
  have hfz:=frozen_of_row w g (o+i) c e hb;have hst:(store ((⟨g,o,none⟩:Addr).add i) v).run P w=.ok () (w.setCell ⟨g,o+i,none⟩ v):=by
   rw [hadd];have:=run_store P w ⟨g,o+i,none⟩ v .plain (h1 v (by simp));rw [this];simp [hcell,hfz]
  have hb':Blk (w.setCell ⟨g,o+i,none⟩ v) g (c.setIfInBounds (o+i) v) e:=heap_setCell_same w g (o+i) c e v hb;obtain ⟨w',h2,h3,h4⟩:=zi3 P e g r o (i+1) _ _ hb' (by simp;omega) (fun u hu=>h1 u (by simp [hu]));refine ⟨w',?_,h3,?_⟩
  ·unfold storeCells;rw [Sem.run_bind,hst];exact h2
  ·have hc1:Chg [g] w (w.setCell ⟨g,o+i,none⟩ v):=⟨rfl,rfl,rfl,by simp,fun k _ hk=>heap_setCell_other w _ k v (by simpa using hk)⟩;exact hc1.step h4 (by simp)
def yv2 {P:Program} {t:TypeId} {w:World} {g o:Nat} {c c':Array Value} {e:TypeId} {v:Value} (hb:Blk w g c e) (h:stv P t c o v=some c'):
  ∃w',(storeVar t ⟨g,o,none⟩ v).run P w=.ok () w'/\Blk w' g c' e/\Chg [g] w w':=by
 unfold stv at h;split at h
 ·rename_i i hi;split at h
  ·rename_i hok;simp only [X0] at h;subst h;simp only [X3] at hok;have hsz:v.cells.size=i.size:=X1 hok.1;have hle:=Y1 hok.2.1;have hone: ∀u∈v.cells.toList,u.oneCell'=true:=by
    have:=hok.2.2;rw [Y8] at this;exact this
   obtain ⟨w',h1,h2,h3⟩:=zi3 P e g v.cells.toList o 0 c w hb (by simp [hsz];omega) hone;refine ⟨w',?_,h2,h3⟩;have hs:(sizeOf t).run P w=.ok i.size w:=by simp [sizeOf,typeInfo,hi]
   unfold storeVar;simp only [Sem.run_bind,hs,Result.andThen_ok,hsz,ne_eq,not_true_eq_false,if_false,h1]
  ·cases h
 ·cases h
section
variable {P:Program} {ops:Array Oper} {Q:Exit->Act->World->Prop} {k n:Nat} {ds:List Deferred} {F:PF} {w:World}
def jy4 (ops:Array Oper) (k n:Nat) (F:PF):Option (Option Tmp×TypeId×Value):=
 match dec ops k n F with|some ⟨dst,.box e x,_,_,_,_⟩=>some (dst,e,evD F x)|_=>none
def WR.box {dst:Option Tmp} {e:TypeId} {v:Value} (hd:jy4 ops k n F=some (dst,e,v)) (c:Array Value) (hc:v.cells=c)
  (K: ∀g w',New w w' g c e->WR P ops Q (k+1) n ds (upd F dst (.pointer (some ⟨g,0,none⟩))) w'):WR P ops Q k n ds F w:=by
 unfold jy4 at hd;split at hd
 ·rename_i d e' x ty pos af gd hdec;simp only [X0,X7] at hd;obtain ⟨rfl,rfl,rfl⟩:=hd;subst hc;exact .val hdec (v:=.pointer (some ⟨w.heap.size,0,none⟩)) (w':=w.alloc (.cells (evD F x).cells e')) rfl (K _ _ (New.alloc w _ _))
 ·cases hd
def yr4 (ops:Array Oper) (k n:Nat) (F:PF):Option (Option Tmp×TypeId):=
 match dec ops k n F with|some ⟨dst,.alloc e,_,_,_,_⟩=>some (dst,e)|_=>none
def qb2 (P:Program) (e:TypeId):Option (Array Value):=match P.info? e with|some i=>(match i.zero with|some z=>some z.cells|none=>none)|none=>none
def ja3 {e:TypeId} {c:Array Value} (h:qb2 P e=some c): ∃i z,P.info? e=some i/\i.zero=some z/\z.cells=c:=by
 unfold qb2 at h;split at h
 ·rename_i i hi;split at h
  ·rename_i z hz;exact ⟨i,z,hi,hz,by simpa using h⟩
  ·cases h
 ·cases h
def WR.alloc {dst:Option Tmp} {e:TypeId} (hd:yr4 ops k n F=some (dst,e)) (c:Array Value) (hc:qb2 P e=some c)
  (K: ∀g w',New w w' g c e->WR P ops Q (k+1) n ds (upd F dst (.pointer (some ⟨g,0,none⟩))) w'):WR P ops Q k n ds F w:=by
 unfold yr4 at hd;split at hd
 ·rename_i d e' ty pos af gd hdec;simp only [X0,X7] at hd;obtain ⟨rfl,rfl⟩:=hd;obtain ⟨i,z,hi,hz,rfl⟩:=ja3 hc;refine .val hdec (v:=.pointer (some ⟨w.heap.size,0,none⟩)) (w':=w.alloc (.cells z.cells e')) ?_ (K _ _ (New.alloc w _ _));simp [execOp,Instr.alloc,zeroValue,typeInfo,hi,hz,newVar,newRow]
 ·cases hd
def zn0 (ops:Array Oper) (k n:Nat) (F:PF):Option (Option Tmp×TypeId×Value):=
 match dec ops k n F with|some ⟨dst,.load t x,_,_,_,_⟩=>some (dst,t,evD F x)|_=>none
def zi8 {dst:Option Tmp} {t:TypeId} {p:Value} (hd:zn0 ops k n F=some (dst,t,p)): ∃o,dec ops k n F=some o/\o.dst=dst/\
  execOp (evD F) o=(do pure (.value (<-Instr.loadAt t p)):Sem Next):=by
 unfold zn0 at hd;split at hd
 ·rename_i d e' x ty pos af gd hdec;simp only [X0,X7] at hd;obtain ⟨rfl,rfl,rfl⟩:=hd;exact ⟨_,hdec,rfl,rfl⟩
 ·cases hd
def WR.load {dst:Option Tmp} {t:TypeId} {g o:Nat} {c:Array Value} {e:TypeId} (hb:Blk w g c e) (hd:zn0 ops k n F=some (dst,t,.pointer (some ⟨g,o,none⟩))) (v:Value) (hv:ldv P t c o=some v)
  (K:WR P ops Q (k+1) n ds (upd F dst v) w):WR P ops Q k n ds F w:=by
 obtain ⟨op,hdec,rfl,he⟩:=zi8 hd;refine .val hdec (v:=v) (w':=w) ?_ K;rw [he];simp [Instr.loadAt,Instr.sureAddr,zs4 hb hv]
def WR.load1 {dst:Option Tmp} {t:TypeId} {a:Addr} (hd:zn0 ops k n F=some (dst,t,.pointer (some a))) (hs:zj2 P t=true) (v:Value) (hv:w.cell? a=some v)
  (K:WR P ops Q (k+1) n ds (upd F dst v) w):WR P ops Q k n ds F w:=by
 obtain ⟨op,hdec,rfl,he⟩:=zi8 hd;refine .val hdec (v:=v) (w':=w) ?_ K;rw [he];simp [Instr.loadAt,Instr.sureAddr,zf0 hs hv]
def zx7 (ops:Array Oper) (k n:Nat) (F:PF):Option (TypeId×Value×Value):=
 match dec ops k n F with|some ⟨none,.store t a x,_,_,_,_⟩=>some (t,evD F a,evD F x)|_=>none
def WR.store {t:TypeId} {g o:Nat} {c:Array Value} {e:TypeId} {v:Value} (hb:Blk w g c e) (hd:zx7 ops k n F=some (t,.pointer (some ⟨g,o,none⟩),v)) (c':Array Value) (hv:stv P t c o v=some c')
  (K: ∀w',Blk w' g c' e->Chg [g] w w'->WR P ops Q (k+1) n ds F w'):WR P ops Q k n ds F w:=by
 unfold zx7 at hd;split at hd
 ·rename_i t' a x ty pos af gd hdec;simp only [X0,X7] at hd;obtain ⟨rfl,ha,rfl⟩:=hd;obtain ⟨w',h1,h2,h3⟩:=yv2 (P:=P) hb hv;refine .skip hdec (w':=w') ?_ (K w' h2 h3);simp [execOp,Instr.storeAt,Instr.sureAddr,ha,h1]
 ·cases hd
def zo8 (ops:Array Oper) (k n:Nat) (F:PF):Option (Option Tmp×TypeId×Value×Value):=
 match dec ops k n F with|some ⟨dst,.indexAddr t x i,_,_,_,_⟩=>some (dst,t,evD F x,evD F i)|_=>none
def zk5 (P:Program) (t:TypeId):Option Nat:=match P.underlying t with|some (.slice e)=>(P.info? e).map (·.size)|_=>none
def WR.index {dst:Option Tmp} {t:TypeId} {ad:Option Addr} {m cap:Nat} {kk:IntKind} {i:Int} {cs:List Value} (hr:Rg w ad cs) (hd:zo8 ops k n F=some (dst,t,.slice ad m cap,.int kk i)) (sz:Nat) (hsz:zk5 P t=some sz)
  (h0:0<=i) (hi:i<m) (hne:cs≠ []) (j:Nat) (hj:j=i.toNat*sz)
  (K:WR P ops Q (k+1) n ds (upd F dst (.pointer (some ⟨bk ad,of ad+j,none⟩))) w):WR P ops Q k n ds F w:=by
 subst hj;unfold zo8 at hd;split at hd
 ·rename_i d t' x ix ty pos af gd hdec;simp only [X0,X7] at hd;obtain ⟨rfl,rfl,hx,hix⟩:=hd;obtain ⟨b,o,rfl⟩: ∃b o,ad=some ⟨b,o,none⟩:=by
   cases cs with
   |nil=>exact absurd rfl hne
   |cons u r=>exact ⟨_,_,(hr 0 u rfl).1⟩
  unfold zk5 at hsz;split at hsz
  ·rename_i e hu;cases hinf:P.info? e with
   |none=>rw [hinf] at hsz;cases hsz
   |some inf=>
    rw [hinf] at hsz;simp only [Z8,X0] at hsz;refine .val hdec (v:=.pointer (some ⟨b,o+i.toNat*sz,none⟩)) (w':=w) ?_ K;have hs:(sizeOf e).run P w=.ok inf.size w:=by simp [sizeOf,typeInfo,hinf]
    have hul:(underlying t').run P w=.ok (.slice e) w:=by simp [underlying,hu]
    have hadd:(⟨b,o,none⟩:Addr).add (i.toNat*inf.size)=⟨b,o+i.toNat*inf.size,none⟩:=by unfold Addr.add;split<;>simp_all
    simp only [execOp,hx,hix];simp [Instr.indexAt,asIntOf,hul,h0,hi,hs,<-hsz,hadd]
  ·cases hsz
 ·cases hd
def Ret (S:List Nat) (w:World) (R:Value->World->Prop):Ending->World->Prop
 | .returned v,w'=>Chg S w w'/\R v w'
 |_,_=>False
def zp6 (w:World) (v:Value):Ending->World->Prop:=Ret [] w fun u _=>u=v
def zt7 (P:Program) (ops:Array Oper) (k n:Nat) (F:PF) (w:World):Option (Option Tmp×Result Next):=
 match dec ops k n F with|some o=>some (o.dst,(execOp (evD F) o).run P w)|none=>none
def zm6 {w:World} {dst:Option Tmp} {r:Result Next} (h:zt7 P ops k n F w=some (dst,r)): ∃o,dec ops k n F=some o/\o.dst=dst/\(execOp (evD F) o).run P w=r:=by
 unfold zt7 at h;split at h
 ·rename_i o ho;simp only [X0,X7] at h;exact ⟨o,ho,h.1,h.2⟩
 ·cases h
def WR.call {dst:Option Tmp} {f:FuncId} {args:Array Value} {S:List Nat} {R:Value->World->Prop} (hr:zt7 P ops k n F w=some (dst,.ok (.enter f args) w)) (hc:Calls P f args w (Ret S w R))
  (K: ∀v w',Chg S w w'->R v w'->WR P ops Q (k+1) n ds (upd F dst v) w'):WR P ops Q k n ds F w:=by
 obtain ⟨o,hd,rfl,hrun⟩:=zm6 hr;exact .enter hd hrun hc (fun v w' hR=>K v w' hR.1 hR.2) (fun _ _ h=>h.elim) (fun _ h=>h.elim)
def WR.valR {dst:Option Tmp} {v:Value} {w':World} (hr:zt7 P ops k n F w=some (dst,.ok (.value v) w')) (K:WR P ops Q (k+1) n ds (upd F dst v) w'):WR P ops Q k n ds F w:=by
 obtain ⟨o,hd,rfl,hrun⟩:=zm6 hr;exact .val hd hrun K
def WR.eqF {F':PF} (h:F=F') (K:WR P ops Q k n ds F' w):WR P ops Q k n ds F w:=h▸K
def WQ (P:Program) (ops:Array Oper) (C:World->Prop) (Qf:Act->Prop) (k n:Nat) (ds:List Deferred) (F:PF):Prop:=
 ∀a,Fr n ds F a->wpQuiet P ops C Qf (ops.toList.drop k) a
def CW.regionQ {id:Nat} (hm:P.follows .mixedOrders=true) (hB:Region.lexB .any ops=true)
  (h:WQ P ops (fun w'=>Chg [] w w') (fun a'=> ∀w',Chg [] w w'->Q .normal a' w') 0 n ds F):CW P (.region id ops true) Q n ds F w:=
 fun a ha=>wp_region_quiet (C:=fun w'=>Chg [] w w') hm hB (Chg.drew w) (by simpa using h a ha)
variable {C:World->Prop} {Qf:Act->Prop}
def WQ.step {o:Oper} {v:Value} (hd:dec ops k n F=some o) (h: ∀w,C w->Oper.quietUpon P C w v ((execOp (evD F) o).run P w))
  (K:WQ P ops C Qf (k+1) n ds (upd F o.dst v)):WQ P ops C Qf k n ds F:=by
 intro a ha;obtain ⟨ho,hdst,hs,hp,hw⟩:=zj4 hd;rw [zg4 ho];unfold wpQuiet;rw [if_pos (hw ha)];refine ⟨v,fun w hC=>?_,K _ (ha.upd hdst v)⟩;unfold Oper.quietAt;rw [ju4 ha hs hp];exact h w hC
def WQ.val {dst:Option Tmp} (v:Value) (hr: ∀w,zt7 P ops k n F w=some (dst,.ok (.value v) w)) (K:WQ P ops C Qf (k+1) n ds (upd F dst v)):WQ P ops C Qf k n ds F:=by
 obtain ⟨o,hd,rfl,_⟩:=zm6 (hr default);refine .step hd (fun w _=>?_) K;obtain ⟨o',hd',_,hrun⟩:=zm6 (hr w);rw [hd] at hd';cases hd';rw [hrun];exact ⟨rfl,rfl⟩
def WQ.pass {o:Oper} (ho:ops[k]?=some o) (hw:zx4 ops F o=some false) (hd:zh5 n o.dst=true) (K:WQ P ops C Qf (k+1) n ds (upd F o.dst undef)):WQ P ops C Qf k n ds F:=by
 intro a ha;rw [zg4 ho];unfold wpQuiet;rw [if_neg (by rw [zx5 ha hw];simp)];exact K _ (ha.upd hd undef)
def yn0 (ops:Array Oper) (k n:Nat) (F:PF):Option (Option Tmp):=
 match ops[k]? with
 |some o=>(match zx4 ops F o with|some false=>(match zh5 n o.dst with|true=>some o.dst|false=>none)|_=>none)
 |none=>none
def WQ.pass1 {dst:Option Tmp} (h:yn0 ops k n F=some dst) (K:WQ P ops C Qf (k+1) n ds (upd F dst undef)):WQ P ops C Qf k n ds F:=by
 unfold yn0 at h;split at h
 ·rename_i o ho;split at h
  ·rename_i hw;split at h
   ·rename_i hd;simp only [X0] at h;subst h;exact .pass ho hw hd K
   ·cases h
  ·cases h
 ·cases h
def WQ.call {dst:Option Tmp} {f:FuncId} {args:Array Value} (v:Value) (hr: ∀w,zt7 P ops k n F w=some (dst,.ok (.enter f args) w)) (hC: ∀w w',C w->Chg [] w w'->C w')
  (hc: ∀w,C w->Calls P f args w (zp6 w v)) (K:WQ P ops C Qf (k+1) n ds (upd F dst v)):WQ P ops C Qf k n ds F:=by
 obtain ⟨o,hd,rfl,_⟩:=zm6 (hr default);refine .step hd (fun w hw=>?_) K;obtain ⟨o',hd',_,hrun⟩:=zm6 (hr w);rw [hd] at hd';cases hd';rw [hrun];refine ⟨rfl,(hc w hw).mono fun e w' h=>?_⟩;cases e with
 |returned u=>obtain ⟨h1,h2⟩:=h;exact ⟨by rw [h2],hC w w' hw h1⟩
 |panicked ch=>exact h.elim
 |outgrown=>exact h.elim
def WQ.load1 {dst:Option Tmp} {t:TypeId} {a:Addr} (hd:zn0 ops k n F=some (dst,t,.pointer (some a))) (hs:zj2 P t=true) (v:Value) (hv: ∀w,C w->w.cell? a=some v)
  (K:WQ P ops C Qf (k+1) n ds (upd F dst v)):WQ P ops C Qf k n ds F:=by
 obtain ⟨op,hdec,rfl,he⟩:=zi8 hd;refine .step hdec (fun w hw=>?_) K;rw [he];simp [Instr.loadAt,Instr.sureAddr,zf0 hs (hv w hw),Oper.quietUpon]
def yd0 {dst:Option Tmp} {t:TypeId} {b o:Nat} {m cap:Nat} {kk:IntKind} {i:Int} {sz:Nat} (hd:zo8 ops k n F=some (dst,t,.slice (some ⟨b,o,none⟩) m cap,.int kk i)) (hsz:zk5 P t=some sz)
  (h0:0<=i) (hi:i<m): ∃op,dec ops k n F=some op/\op.dst=dst/\ ∀w,(execOp (evD F) op).run P w=.ok (.value (.pointer (some ⟨b,o+i.toNat*sz,none⟩))) w:=by
 unfold zo8 at hd;split at hd
 ·rename_i d t' x ix ty pos af gd hdec;simp only [X0,X7] at hd;obtain ⟨rfl,rfl,hx,hix⟩:=hd;unfold zk5 at hsz;split at hsz
  ·rename_i e hu;cases hinf:P.info? e with
   |none=>rw [hinf] at hsz;cases hsz
   |some inf=>
    rw [hinf] at hsz;simp only [Z8,X0] at hsz;refine ⟨_,hdec,rfl,fun w=>?_⟩;have hs:(sizeOf e).run P w=.ok inf.size w:=by simp [sizeOf,typeInfo,hinf]
    have hul:(underlying t').run P w=.ok (.slice e) w:=by simp [underlying,hu]
    have hadd:(⟨b,o,none⟩:Addr).add (i.toNat*inf.size)=⟨b,o+i.toNat*inf.size,none⟩:=by unfold Addr.add;split<;>simp_all
    simp only [execOp,hx,hix];simp [Instr.indexAt,asIntOf,hul,h0,hi,hs,<-hsz,hadd]
  ·cases hsz
 ·cases hd
def WQ.index {dst:Option Tmp} {t:TypeId} {ad:Option Addr} {m cap:Nat} {kk:IntKind} {i:Int} {cs:List Value} {w0:World} (hr:Rg w0 ad cs) (hd:zo8 ops k n F=some (dst,t,.slice ad m cap,.int kk i)) (sz:Nat) (hsz:zk5 P t=some sz)
  (h0:0<=i) (hi:i<m) (hne:cs≠ []) (j:Nat) (hj:j=i.toNat*sz)
  (K:WQ P ops C Qf (k+1) n ds (upd F dst (.pointer (some ⟨bk ad,of ad+j,none⟩)))):WQ P ops C Qf k n ds F:=by
 subst hj;obtain ⟨b,o,rfl⟩: ∃b o,ad=some ⟨b,o,none⟩:=by
  cases cs with
  |nil=>exact absurd rfl hne
  |cons u r=>exact ⟨_,_,(hr 0 u rfl).1⟩
 obtain ⟨op,hdec,rfl,hrun⟩:=yd0 hd hsz h0 hi;exact .step hdec (fun w _=>by rw [hrun];exact ⟨rfl,rfl⟩) K
def WQ.keep {F':PF} (l:List Nat) (h:F.keep l=F') (K:WQ P ops C Qf k n ds F'):WQ P ops C Qf k n ds F:=fun a ha=>K a (ha.keep l h)
def WQ.eqF {F':PF} (h:F=F') (K:WQ P ops C Qf k n ds F'):WQ P ops C Qf k n ds F:=h▸K
def WQ.fin (hk:Nat.ble ops.size k=true) (K: ∀w',Chg [] w w'-> ∀a,Fr n ds F a->Q .normal a w'):WQ P ops C (fun a'=> ∀w',Chg [] w w'->Q .normal a' w') k n ds F:=fun a ha=>by
 rw [M4 (by simpa using Y1 hk)];exact fun w' h=>K w' h a ha
end
end Go.V
namespace Go.V
open Go.RowKit
def zb2 (ad:Option Addr):List Nat:=match ad with|some a=> [a.block]|none=> []
def Own.nil0 {w:World} {B:Nat} {e:TypeId} {sz:Nat} {ad:Option Addr} {n cap:Nat} {cs:List Value} (h:Own w B e sz ad n cap cs) (had:ad=none):n=0/\cap=0:=by
 rcases h.cases with ⟨_,h1,h2,_⟩|⟨c,h1,_⟩
 ·exact ⟨h1,h2⟩
 ·rw [had] at h1;cases h1
def Apart (a b:Option Addr):Prop:=a=none\/b=none\/bk a≠bk b
def Apart.symm {a b:Option Addr} (h:Apart a b):Apart b a:=by rcases h with h|h|h;exact .inr (.inl h);exact .inl h;exact .inr (.inr (Ne.symm h))
def Apart.off {a b:Option Addr} (h:Apart a b):bk a∉zb2 b\/a=none:=by
 rcases h with h|h|h
 ·exact .inr h
 ·subst h;exact .inl (by simp [zb2])
 ·left;cases b with
  |none=>simp [zb2]
  |some b=>simpa [zb2,bk] using h
section
variable {P:Program} {ops:Array Oper} {Q:Exit->Act->World->Prop} {k n:Nat} {ds:List Deferred} {F:PF} {w:World}
def zl5 (P:Program) (t:TypeId):Option (TypeId×Nat×Nat×Array Value):=
 match P.underlying t with
 |some (.slice e)=>(match P.info? e with|some i=>(match i.zero with|some z=>(match Nat.beq z.cells.size i.size with|true=>some (e,i.size,i.bytes,z.cells)|false=>none)|none=>none)|none=>none)
 |_=>none
def zb4 {t e:TypeId} {sz by_:Nat} {zc:Array Value} (h:zl5 P t=some (e,sz,by_,zc)):
  ∃i z,P.underlying t=some (.slice e)/\P.info? e=some i/\i.zero=some z/\i.size=sz/\i.bytes=by_/\z.cells=zc/\zc.size=sz:=by
 unfold zl5 at h;split at h
 ·rename_i e' hu;split at h
  ·rename_i i hi;split at h
   ·rename_i z hz;split at h
    ·rename_i hb;simp only [X0,X7] at h;obtain ⟨rfl,rfl,rfl,rfl⟩:=h;exact ⟨i,z,hu,hi,hz,rfl,rfl,rfl,X1 hb⟩
    ·cases h
   ·cases h
  ·cases h
 ·cases h
def yu0 (ops:Array Oper) (k n:Nat) (F:PF):Option (Option Tmp×TypeId×Value×Value):=
 match dec ops k n F with|some ⟨dst,.makeSlice t l c,_,_,_,_⟩=>some (dst,t,evD F l,evD F c)|_=>none
def WR.make {dst:Option Tmp} {t e:TypeId} {kl kc:IntKind} {l c:Int} {sz by_:Nat} {zc:Array Value} (hd:yu0 ops k n F=some (dst,t,.int kl l,.int kc c)) (hi:zl5 P t=some (e,sz,by_,zc)) (m m':Nat) (hm:l=(m:Int)) (hm':c=(m':Int)) (hle:m<=m')
  (hbytes:by_*m'<=281474976710656) (h63:m'<=9223372036854775807)
  (K: ∀g w',New w w' g (madeCells zc (m'*sz)) e->WR P ops Q (k+1) n ds (upd F dst (.slice (some ⟨g,0,none⟩) m m')) w'):WR P ops Q k n ds F w:=by
 subst hm hm';unfold yu0 at hd;split at hd
 ·rename_i d t' lx cx ty pos af gd hdec;simp only [X0,X7] at hd;obtain ⟨rfl,rfl,hl,hc⟩:=hd;obtain ⟨i,z,hu,hin,hz,rfl,rfl,rfl,hzs⟩:=zb4 hi;have hb':(i.bytes:Int)*(m':Int)<=281474976710656:=by
   have h:((i.bytes*m':Nat):Int)<=281474976710656:=by omega
   rwa [Int.natCast_mul] at h
  have hr:=run_make (P:=P) w t' e i z hu hin hz kl kc m m' (by omega) (by omega) hb' (by omega);simp only [Z1] at hr;refine .val hdec (v:=.slice (some ⟨w.heap.size,0,none⟩) m m') (w':=w.alloc (.cells (madeCells z.cells (m'*i.size)) e)) ?_ (K _ _ (New.alloc w _ _));simp [execOp,hl,hc,hr]
 ·cases hd
def Own.made {w w':World} {g:Nat} {zc:Array Value} {e:TypeId} {sz m m':Nat} (h:New w w' g (madeCells zc (m'*sz)) e) (hle:m<=m') (h63:m'<=9223372036854775807):
  Own w' w.heap.size e sz (some ⟨g,0,none⟩) m m' ((madeCells zc (m'*sz)).toList.take (m*sz)):=by
 refine ⟨?_,.inr ⟨g,m',madeCells zc (m'*sz),rfl,h.fresh,h.blk,hle,by unfold maxLen;omega,by simp [size_madeCells],rfl⟩⟩;have:m*sz<=m'*sz:=Q9 _ hle;rw [Y6,J9,size_madeCells,V7 this]
def kl8 (z:Value) (m m':Nat) (h:m<=m'):(madeCells #[z] (m'*1)).toList.take (m*1)=List.replicate m z:=by
 rw [Nat.mul_one,Nat.mul_one,toList_madeCells_one,List.take_replicate,V7 h]
def jb1 (ops:Array Oper) (k n:Nat) (F:PF):Option (Option Tmp×TypeId×Value×Value):=
 match dec ops k n F with
 |some ⟨dst,.call {callee:=.builtin .append,args:=a,argTypes:=ats},_,_,_,_⟩=>
  (match a.toList,ats.toList with| [s,x],[t,t']=>(match Nat.beq t t' with|true=>some (dst,t,evD F s,evD F x)|false=>none)|_,_=>none)
 |_=>none
def yy3 {dst:Option Tmp} {t:TypeId} {s x:Value} (h:jb1 ops k n F=some (dst,t,s,x)):
  ∃o,dec ops k n F=some o/\o.dst=dst/\ ∀w,(execOp (evD F) o).run P w=((Builtin.append_ #[t,t] o.type #[s,x]).run P w).andThen fun v w'=>.ok (.value v) w':=by
 unfold jb1 at h;split at h
 ·rename_i d a ats ty pos af gd hdec;split at h
  ·rename_i s' x' t1 t2 ha hat;split at h
   ·rename_i hb;have:=X1 hb;subst this;simp only [X0,X7] at h;obtain ⟨rfl,rfl,rfl,rfl⟩:=h;refine ⟨_,hdec,rfl,fun w=>?_⟩;have ea:a= #[s',x']:=by rw [<-Array.toArray_toList (xs:=a),ha]
    have eat:ats= #[t1,t1]:=by rw [<-Array.toArray_toList (xs:=ats),hat]
    subst ea eat;simp [execOp,resolve,invoke,builtin]
   ·cases h
  ·cases h
 ·cases h
def WR.append {dst:Option Tmp} {t e:TypeId} {sz by_:Nat} {zc:Array Value} {B:Nat} {ad xd:Option Addr} {m cap xm xcap:Nat} {cs news:List Value} (ho:Own w B e sz ad m cap cs) (hx:Rg w xd news)
  (hd:jb1 ops k n F=some (dst,t,.slice ad m cap,.slice xd xm xcap)) (hi:zl5 P t=some (e,sz,by_,zc)) (hl:news.length=xm*sz) (hsz:0<sz) (h1: ∀u∈news,u.oneCell'=true) (hB:B<=w.heap.size)
  (h63:m+xm<=9223372036854775807) (hby:(m+xm)*by_<=140737488355328) (hnil:xd=none->xm=0/\xcap=0)
  (K: ∀ad' cap' w',Own w' B e sz ad' (m+xm) cap' (cs++news)->Chg (zb2 ad) w w'->(ad'=ad\/w.heap.size<=bk ad')->WR P ops Q (k+1) n ds (upd F dst (.slice ad' (m+xm) cap')) w'):WR P ops Q k n ds F w:=by
 obtain ⟨o,hdec,rfl,hrun⟩:=yy3 hd;obtain ⟨i,z,hu,hin,hz,rfl,rfl,rfl,hzs⟩:=zb4 hi;have hmc:=ho.le;have addE: ∀(b off j:Nat),(⟨b,off,none⟩:Addr).add j=⟨b,off+j,none⟩:=fun b off j=>by unfold Addr.add;split<;>simp_all
 by_cases hx0:xm=0
 ·
  subst hx0;have hn:news= []:=T4 (by simpa using hl);subst hn;have hr:(Builtin.append_ #[t,t] o.type #[.slice ad m cap,.slice xd 0 xcap]).run P w=.ok (.slice ad m cap) w:=by
   cases ad with
   |none=>
    cases xd with
    |none=>simp [Builtin.append_,run_underlying hu,sizeOf,typeInfo,hin,Builtin.lenOf,Builtin.firstCells,hmc.1]
    |some a=>simp [Builtin.append_,run_underlying hu,sizeOf,typeInfo,hin,Builtin.lenOf,Builtin.firstCells,loadCells,loadCellsFrom,hmc.1]
   |some g=>
    cases xd with
    |none=>simp [Builtin.append_,run_underlying hu,sizeOf,typeInfo,hin,Builtin.lenOf,Builtin.firstCells,storeCells,hmc.1]
    |some a=>simp [Builtin.append_,run_underlying hu,sizeOf,typeInfo,hin,Builtin.lenOf,Builtin.firstCells,loadCells,loadCellsFrom,storeCells,hmc.1]
  exact .val hdec (v:=.slice ad (m+0) cap) (w':=w) (by rw [hrun,hr];rfl) (K ad cap w (by simpa using ho) (Chg.refl _ _) (.inl rfl))
 ·have hxm:0<xm:=by omega
  have hne:news≠ []:=by
   intro e;rw [e] at hl;have:=Nat.mul_pos hxm hsz;simp at hl;omega
  obtain ⟨b,off,rfl⟩: ∃b off,xd=some ⟨b,off,none⟩:=by
   cases news with
   |nil=>exact absurd rfl hne
   |cons u r=>exact ⟨_,_,(hx 0 u rfl).1⟩
  have hnews: ∀j v,news[j]?=some v->w.cell? ((⟨b,off,none⟩:Addr).add j)=some v:=fun j v hj=>by rw [addE];exact (hx j v hj).2
  have hlen:(cs++news).length=(m+xm)*i.size:=by rw [X9,ho.len,hl,V6]
  have grown: ∀(old:Nat),Own (w.drew.alloc (.cells (cs.toArray++news.toArray++Builtin.zeroCells z.cells (grownCap w (m+xm) old e-(m+xm))) e)) B e i.size (some ⟨w.heap.size,0,none⟩) (m+xm) (grownCap w (m+xm) old e) (cs++news):=by
   intro old;have hge:=grownCap_ge w (m+xm) old e;have hcm:grownCap w (m+xm) old e<=maxLen:=grownCap_le_maxLen w (m+xm) old e (by unfold maxLen;omega);refine ⟨hlen,.inr ⟨w.heap.size,_,_,rfl,hB,heap_alloc_new w.drew _,hge,hcm,?_,?_⟩⟩
   ·have hs:cs.length+news.length=(m+xm)*i.size:=by rw [<-List.length_append];exact hlen
    have:(m+xm)*i.size+(grownCap w (m+xm) old e-(m+xm))*i.size=grownCap w (m+xm) old e*i.size:=by rw [<-Nat.add_mul];congr 1;omega
    simp only [Array.size_append,R2,size_zeroCells,hzs];omega
   ·simp only [Array.toList_append,Q2];rw [<-List.append_assoc,<-hlen];exact T9
  have hgc: ∀(old:Nat) (S:List Nat),Chg S w (w.drew.alloc (.cells (cs.toArray++news.toArray++Builtin.zeroCells z.cells (grownCap w (m+xm) old e-(m+xm))) e)):=
   fun old S=>⟨rfl,rfl,rfl,by simp,fun k hk _=>Below.heap_alloc w.drew _ k hk⟩
  rcases ho.cases with ⟨rfl,rfl,rfl,rfl⟩|⟨c',had,hBb,hbl,hmc',hcm',hcs,htk⟩
  ·have hr:=run_append_nil (P:=P) w t o.type e i z hu hin hz ⟨b,off,none⟩ xm xcap news hl hnews (by omega) (by omega) (by have hb:=hby;simp only [U0] at hb;omega);have hg:=grown 0;have hc:=hgc 0 (zb2 none);simp only [U0,M9,Array.empty_append] at hg hc hr;refine .val hdec (v:=.slice (some ⟨w.heap.size,0,none⟩) (0+xm) (grownCap w xm 0 e)) (by rw [hrun,hr,U0];rfl) (K _ _ _ (by simpa using hg) hc (.inr (W8 _)))
  ·obtain ⟨g,rfl⟩: ∃g,ad=some ⟨g,0,none⟩:=⟨_,had⟩;by_cases hroom:m+xm<=cap
   ·have hfit:m*i.size+news.length<=c'.size:=by rw [hl,<-Nat.add_mul];exact W9 (Q9 _ hroom) hcs
    have hr:=run_append_room (P:=P) w t o.type e i hu hin g m cap c' hbl ⟨b,off,none⟩ xm xcap news hl hnews h1 hroom hfit;refine .val hdec (v:=.slice (some ⟨g,0,none⟩) (m+xm) cap) (by rw [hrun,hr];rfl) (K (some ⟨g,0,none⟩) cap _ ?_ ?_ (.inl rfl))
    ·refine ⟨hlen,.inr ⟨g,cap,_,rfl,hBb,setRow_heap w g c' _ e _ hbl,hroom,hcm',?_,?_⟩⟩
     ·simp only [R2,X9,Y6,Q7,J9];omega
     ·rw [htk,<-hlen];exact T9
    ·exact ⟨rfl,rfl,rfl,by simp,fun k _ hk=>setRow_other w g k _ (fun e=>hk (by simp [zb2,e]))⟩
   ·have holds: ∀j v,cs[j]?=some v->w.cell? ((⟨g,0,none⟩:Addr).add j)=some v:=fun j v hj=>by rw [addE];exact (ho.rg j v hj).2
    have hr:=run_append_grow (P:=P) w t o.type e i z hu hin hz ⟨g,0,none⟩ m cap cs ho.len holds ⟨b,off,none⟩ xm xcap news hl hnews (by omega) (by omega) (growslice_fits (by omega) hby);exact .val hdec (v:=.slice (some ⟨w.heap.size,0,none⟩) (m+xm) (grownCap w (m+xm) cap e)) (by rw [hrun,hr];rfl) (K _ _ _ (grown cap) (hgc cap _) (.inr (W8 _)))
def zv9 (P:Program) (t:TypeId) (len:Nat) (parts:List (Nat×Value)):Option (TypeId×Array Value):=
 match P.underlying t with
 |some (.slice e)=>(match P.info? e with
  |some i=>(match Nat.ble (len*i.size) 16777216 with
   |true=>(match (match Nat.beq (len*i.size) 0 with|true=>some #[]|false=>(match i.zero with|some z=>some z.cells|none=>none)) with
    |some zero=>(match Instr.fill (fun j=>some (j*i.size,i.size)) ((Array.range (len*i.size)).map (zero[· %zero.size]!)) parts with|some cells=>some (e,cells)|none=>none)
    |none=>none)
   |false=>none)
  |none=>none)
 |_=>none
def vj9 (P:Program) (ops:Array Oper) (k n:Nat) (F:PF):Option (Option Tmp×Nat×TypeId×Array Value):=
 match dec ops k n F with
 |some ⟨dst,.buildSlice t len parts,_,_,_,_⟩=>(match zv9 P t len (parts.map fun (i,x)=>(i,evD F x)).toList with|some (e,c)=>some (dst,len,e,c)|none=>none)
 |_=>none
def WR.bslice {dst:Option Tmp} {len:Nat} {e:TypeId} (c:Array Value) (hd:vj9 P ops k n F=some (dst,len,e,c))
  (K: ∀g w',New w w' g c e->WR P ops Q (k+1) n ds (upd F dst (.slice (some ⟨g,0,none⟩) len len)) w'):WR P ops Q k n ds F w:=by
 unfold vj9 at hd;split at hd
 ·rename_i d t l parts ty pos af gd hdec;split at hd
  ·rename_i e' c' hb;simp only [X0,X7] at hd;obtain ⟨rfl,rfl,rfl,rfl⟩:=hd;refine .val hdec (v:=.slice (some ⟨w.heap.size,0,none⟩) l l) (w':=w.alloc (.cells c' e')) ?_ (K _ _ (New.alloc w _ _));unfold zv9 at hb;split at hb
   ·rename_i e1 hu;split at hb
    ·rename_i i hi;split at hb
     ·rename_i hle;have hle':=Y1 hle;split at hb
      ·rename_i zero hz;split at hb
       ·rename_i cells hfill;simp only [X0,X7] at hb;obtain ⟨rfl,rfl⟩:=hb;have hs:(sizeOf e1).run P w=.ok i.size w:=by simp [sizeOf,typeInfo,hi]
        have hn: ¬(16777216<l*i.size):=by omega
        have hul:(underlying t).run P w=.ok (.slice e1) w:=by simp [underlying,hu]
        simp only [execOp,Instr.buildSlice,Sem.run_bind,hul,Result.andThen_ok,hs];simp only [Nat.reducePow,gt_iff_lt,hn,if_false];by_cases h0:l*i.size=0
        ·have hz0:zero= #[]:=by
          split at hz
          ·simpa using hz.symm
          ·rename_i hb0;simp [h0] at hb0
         subst hz0;simp only [h0,if_true,Sem.run_bind,Sem.run_pure,Result.andThen_ok] at hfill⊢;simp only [hfill];simp [newRow]
        ·obtain ⟨z,hzz,hzc⟩: ∃z,i.zero=some z/\z.cells=zero:=by
          split at hz
          ·rename_i hb0;exact absurd (X1 hb0) h0
          ·split at hz
           ·rename_i z hzz;exact ⟨z,hzz,by simpa using hz⟩
           ·cases hz
         have hzv:(zeroValue e1).run P w=.ok z w:=by simp [zeroValue,typeInfo,hi,hzz]
         subst hzc;simp only [h0,if_false,Sem.run_bind,Sem.run_pure,hzv,Result.andThen_ok];simp only [hfill];simp [newRow]
       ·cases hb
      ·cases hb
     ·cases hb
    ·cases hb
   ·cases hb
  ·cases hd
 ·cases hd
def zo9 (ops:Array Oper) (k n:Nat) (F:PF):Option (Option Tmp×TypeId×Value×Option Value×Option Value):=
 match dec ops k n F with|some ⟨dst,.slice t x lo hi none,_,_,_,_⟩=>some (dst,t,evD F x,lo.map (evD F),hi.map (evD F))|_=>none
def zl4 {dst:Option Tmp} {t:TypeId} {x:Value} {lo hi:Option Value} (h:zo9 ops k n F=some (dst,t,x,lo,hi)):
  ∃o,dec ops k n F=some o/\o.dst=dst/\execOp (evD F) o=(do pure (.value (<-Instr.sliceAt t x lo hi none)):Sem Next):=by
 unfold zo9 at h;split at h
 ·rename_i d t' x' l' h' ty pos af gd hdec;simp only [X0,X7] at h;obtain ⟨rfl,rfl,rfl,rfl,rfl⟩:=h;exact ⟨_,hdec,rfl,rfl⟩
 ·cases h
def zt0 {t e:TypeId} (h:P.underlying t=some (.slice e)):P.underlying t=some (.slice (P.elem t)):=by
 have:P.elem t=e:=by simp [Program.elem,h]
 rw [this];exact h
def WR.sliceL {dst:Option Tmp} {t e:TypeId} {ad:Option Addr} {m cap:Nat} {kl:IntKind} {l:Int} {sz by_:Nat} {zc:Array Value} (hd:zo9 ops k n F=some (dst,t,.slice ad m cap,some (.int kl l),none)) (hi:zl5 P t=some (e,sz,by_,zc)) (i:Nat) (hl:l=(i:Int)) (hle:i<=m)
  (K: ∀ad',(ad'=if cap=i then ad else ad.map (·.add (i*sz)))->WR P ops Q (k+1) n ds (upd F dst (.slice ad' (m-i) (cap-i))) w):WR P ops Q k n ds F w:=by
 subst hl;obtain ⟨o,hdec,rfl,he⟩:=zl4 hd;obtain ⟨inf,z,hu,hin,_,hsz,_⟩:=zb4 hi;have hel:P.elem t=e:=by simp [Program.elem,hu]
 refine .val hdec (v:=.slice (if cap=i then ad else ad.map (·.add (i*sz))) (m-i) (cap-i)) (w':=w) ?_ (K _ rfl);have hs:(sizeOf e).run P w=.ok sz w:=by simp [sizeOf,typeInfo,hin,hsz]
 rw [he,Sem.run_bind,run_sliceAt_slice w t _ _ _ _ (zt0 hu),run_slice_l w t ad m cap (zt0 hu) kl i (by omega) (by omega),hel,hs];simp only [Result.andThen_ok,sliced,Z1];rfl
def yt2 (P:Program) (t:TypeId):Option Nat:=(P.info? t).map (·.size)
def yv1 {t:TypeId} {g o:Nat} {c:Array Value} {e:TypeId} {v:Value} (hb:Blk w g c e) (hs:yt2 P t=some 1) (h1:v.oneCell'=true) (hvc:v.cells= #[v]) (ho:o<c.size):
  (storeVar t ⟨g,o,none⟩ v).run P w=.ok () (w.setCell ⟨g,o,none⟩ v):=by
 have hs':(sizeOf t).run P w=.ok 1 w:=by
  unfold yt2 at hs;cases hin:P.info? t with
  |none=>rw [hin] at hs;cases hs
  |some inf=>rw [hin] at hs;simp at hs;simp [sizeOf,typeInfo,hin,hs]
 have hcell:w.cell? ⟨g,o,none⟩=some c[o]:=by rw [cell_of_row w g o c e (0,0) hb,Z6 ho]
 have hst:=run_store P w ⟨g,o,none⟩ v .plain h1;unfold storeVar;simp only [hvc,Sem.run_bind,hs',Result.andThen_ok];simp only [R2,U5,T7,U0,ne_eq,not_true_eq_false,if_false];simp only [storeCells,Sem.run_bind,Addr.add,if_true];rw [hst];simp [hcell,frozen_of_row w g o c e hb]
def WR.storeB {t:TypeId} {g o:Nat} {c:Array Value} {e:TypeId} {v:Value} (hb:Blk w g c e) (hd:zx7 ops k n F=some (t,.pointer (some ⟨g,o,none⟩),v)) (hs:yt2 P t=some 1) (h1:v.oneCell'=true) (hvc:v.cells= #[v]) (ho:o<c.size)
  (K: ∀w',Blk w' g (c.setIfInBounds o v) e->Chg [g] w w'->WR P ops Q (k+1) n ds F w'):WR P ops Q k n ds F w:=by
 unfold zx7 at hd;split at hd
 ·rename_i t' a x ty pos af gd hdec;simp only [X0,X7] at hd;obtain ⟨rfl,ha,rfl⟩:=hd;refine .skip hdec (w':=w.setCell ⟨g,o,none⟩ (evD F x)) ?_ (K _ (heap_setCell_same w g o c e _ hb) ⟨rfl,rfl,rfl,by simp,fun k _ hk=>heap_setCell_other w _ k _ (by simpa using hk)⟩);simp [execOp,Instr.storeAt,Instr.sureAddr,ha,yv1 hb hs h1 hvc ho]
 ·cases hd
def WR.storeE {t:TypeId} {B:Nat} {e:TypeId} {ad:Option Addr} {m cap:Nat} {cs:List Value} {j:Nat} {v:Value} (ho:Own w B e 1 ad m cap cs) (hd:zx7 ops k n F=some (t,.pointer (some ⟨bk ad,of ad+j,none⟩),v)) (hs:yt2 P t=some 1) (h1:v.oneCell'=true) (hvc:v.cells= #[v]) (hj:j<m)
  (K: ∀w',Own w' B e 1 ad m cap (cs.set j v)->Chg (zb2 ad) w w'->WR P ops Q (k+1) n ds F w'):WR P ops Q k n ds F w:=by
 rcases ho.cases with ⟨_,h0,_⟩|⟨c,had,hB,hb,hmc,hcm,hcs,htk⟩
 ·omega
 ·obtain ⟨g,rfl⟩: ∃g,ad=some ⟨g,0,none⟩:=⟨_,had⟩;simp only [bk,of,U0] at hd hb;refine .storeB hb hd hs h1 hvc (by omega) fun w' hb' hc=>K w' ?_ hc;refine ⟨by simpa using ho.1,.inr ⟨g,cap,_,rfl,hB,hb',hmc,hcm,by simpa using hcs,?_⟩⟩;rw [S8,<-htk,List.take_set]
def qg9: ∀(vs:List Value) (o:Nat) (c:Array Value),o+vs.length<=c.size->(zz4 c o vs).toList=c.toList.take o++vs++c.toList.drop (o+vs.length)
 | [],o,c,_=>by simp [zz4]
 |v::r,o,c,h=>by
  simp only [U5] at h;unfold zz4;rw [qg9 r (o+1) _ (by simp;omega)];simp only [S8,U5];have hlt:o<c.toList.length:=by simp;omega
  rw [List.take_set,List.drop_set_of_lt (by omega),S9 hlt];rw [show o+1+r.length=o+(r.length+1) by omega];have hlen:(c.toList.take o).length=o:=by rw [Y6];omega
  have:(c.toList.take o++ [c.toList[o]]).set o v=c.toList.take o++ [v]:=by
   rw [List.set_append_right _ _ (by omega),hlen,N3];rfl
  rw [this];simp
def Blk.rg {w:World} {g:Nat} {c:Array Value} {e:TypeId} (h:Blk w g c e) (cs:List Value) (hcs:c.toList=cs):Rg w (some ⟨g,0,none⟩) cs:=
 Rg.blk h cs fun j u hu=>by rw [<-hcs] at hu;simpa using hu
def Own.ofBlk {w:World} {g:Nat} {c:Array Value} {e B n cap sz:Nat} (h:Blk w g c e) (hB:B<=g) (hn:n<=cap) (hm:cap<=9223372036854775807) (hc:cap*sz<=c.size) (cs:List Value) (hcs:c.toList.take (n*sz)=cs):Own w B e sz (some ⟨g,0,none⟩) n cap cs:=by
 subst hcs;refine ⟨?_,.inr ⟨g,cap,c,rfl,hB,h,hn,by unfold maxLen;omega,hc,rfl⟩⟩;have:n*sz<=cap*sz:=Q9 _ hn;rw [Y6,J9,V7 (W9 this hc)]
end
end Go.V
namespace Go.V
open Go.RowKit
section
variable {P:Program} {ops:Array Oper} {Q:Exit->Act->World->Prop} {k n:Nat} {ds:List Deferred} {F:PF} {w:World}
end
end Go.V
namespace Go.V
open Go.RowKit
section
variable {P:Program} {ops:Array Oper} {Q:Exit->Act->World->Prop} {n:Nat} {ds:List Deferred} {F:PF} {w:World}
def WR.pass1 {k:Nat} {dst:Option Tmp} (h:yn0 ops k n F=some dst) (K:WR P ops Q (k+1) n ds (upd F dst undef) w):WR P ops Q k n ds F w:=by
 unfold yn0 at h;split at h
 ·rename_i o ho;split at h
  ·rename_i hw;split at h
   ·rename_i hd;simp only [X0] at h;subst h;intro a ha;rw [zg4 ho];unfold wpList;rw [if_neg (by rw [zx5 ha hw];simp)];exact K _ (ha.upd hd undef)
   ·cases h
  ·cases h
 ·cases h
def zf2 (ops:Array Oper) (i:Nat):List Nat:=match ops[i]? with|some o=>(o.after.toList.filter fun e=>Region.binds .any e).map (·.on)|none=> []
def ko5 (acc:List Nat):List Nat->List Nat| []=>acc|x::r=>ko5 (match acc.contains x with|true=>acc|false=>x::acc) r
def yn8 (ops:Array Oper):Nat->List (List Nat)
 |0=> []
 |n+1=>yn8 ops n++ [ko5 [] (zf2 ops n++(zf2 ops n).flatMap fun k=>(yn8 ops n).getD k [])]
def qr6 (ops:Array Oper) (m:Nat):Bool:=(List.range' m (ops.size-m)).all fun j=>(List.range j).all fun i=>((yn8 ops ops.size).getD j []).contains i
def zo0 (ops:Array Oper) (u:Nat->Value):Nat->Nat->PF
 |_,0=> []
 |i,m+1=>match (ops[i]?).bind (·.dst) with|some d=>(d,u i)::zo0 ops u (i+1) m|none=>zo0 ops u (i+1) m
def ym5 (ops:Array Oper) (m:Nat):List Nat:=(List.range m).filterMap fun i=>(ops[i]?).bind (·.dst)
def ze6:List Nat->Bool| []=>true|a::r=> !r.contains a&&ze6 r
def zk9 (ops:Array Oper):Bool:=(List.range ops.size).all fun i=>(zf2 ops i).all fun j=>Nat.blt j i
def zh0 (ops:Array Oper) (m:Nat):Bool:=(List.range m).all fun i=>match ops[i]? with|some o=>(match o.guard with|some (g,_)=>Nat.blt g i|none=>true)|none=>true
def zs9 {u:Nat->Value} {s:Nat} {x:Value}: ∀(m i:Nat),(zo0 ops u i m).get s=some x-> ∃j,i<=j/\j<i+m/\(ops[j]?).bind (·.dst)=some s/\x=u j
 |0,i,h=>by simp [zo0,PF.get] at h
 |m+1,i,h=>by
  unfold zo0 at h;split at h
  ·rename_i d hd;simp only [PF.get] at h;split at h
   ·rename_i hb;have:=X1 hb;subst this;exact ⟨i,W8 _,by omega,hd,by simpa using h.symm⟩
   ·obtain ⟨j,h1,h2,h3⟩:=zs9 m (i+1) h;exact ⟨j,by omega,by omega,h3⟩
  ·obtain ⟨j,h1,h2,h3⟩:=zs9 m (i+1) h;exact ⟨j,by omega,by omega,h3⟩
def zw4 (A B:PF) (s:Nat):(A++B).get s=match A.get s with|some v=>some v|none=>PF.get B s:=by
 induction A with
 |nil=>simp [PF.get]
 |cons p r ih=>
  obtain ⟨j,v⟩:=p;simp only [M8,PF.get];split<;>simp_all
def Nd (Q:Exit->Act->World->Prop) (n:Nat) (ds:List Deferred) (S:List Nat) (F:PF) (dst:Option Tmp) (w:World) (R:Value->World->Prop):Exit->Act->World->Prop
 | .normal,a,w'=>Chg S w w'/\ ∃v,Fr n ds (upd F dst v) a/\R v w'
 |e,a,w'=>Q e a w'
def ze0 (ops:Array Oper) (i:Nat):Option Tmp:=(ops[i]?).bind (·.dst)
inductive Tp (ops:Array Oper):Nat->Nat->Prop
 |one {i j:Nat} (h:(zf2 ops i).contains j=true):Tp ops i j
 |step {i k j:Nat} (h:(zf2 ops i).contains k=true) (t:Tp ops k j):Tp ops i j
def Tp.done {listed:Array Bool} (hcl: ∀j i,listed.getD j false=true->(zf2 ops j).contains i=true->listed.getD i false=true) {i j:Nat} (t:Tp ops i j) (hi:listed.getD i false=true):listed.getD j false=true:=by
 induction t with
 |one h=>exact hcl _ _ hi h
 |step h _ ih=>exact ih (hcl _ _ hi h)
def ql6 {x:Nat}: ∀ {l acc:List Nat},x∈ko5 acc l->x∈acc\/x∈l
 | [],_,h=>.inl h
 |y::r,acc,h=>by
  unfold ko5 at h;rcases ql6 h with h|h
  ·split at h
   ·exact .inl h
   ·rcases Z0.1 h with rfl|h
    ·exact .inr (U2 ..)
    ·exact .inl h
  ·exact .inr (Z4 _ h)
def yh8 (ops:Array Oper): ∀n,(yn8 ops n).length=n
 |0=>rfl
 |n+1=>by rw [yn8,X9,yh8 ops n];rfl
def zn5: ∀(n j i:Nat),i∈(yn8 ops n).getD j []->Tp ops j i
 |0,j,i,h=>by simp [yn8] at h
 |n+1,j,i,h=>by
  rw [yn8,Y2] at h;rcases M2 j n with hj|rfl|hj
  ·rw [X8 (by rw [yh8];exact hj),<-List.getD_eq_getElem?_getD] at h;exact zn5 n j i h
  ·rw [Z2 (by rw [yh8];exact W8 _),yh8,N3] at h;simp only [Y4,V2] at h;rcases ql6 h with h|h
   ·cases h
   ·rcases X4.1 h with h|h
    ·exact .one (by simpa using h)
    ·obtain ⟨k,hk,h⟩:=V8.1 h;exact .step (by simpa using hk) (zn5 j k i h)
  ·rw [Y5 (by simp [yh8];omega)] at h;simp at h
def Tp.lt (hb:zk9 ops=true) {i j:Nat} (t:Tp ops i j) (hi:i<ops.size):j<i:=by
 have one: ∀a b,a<ops.size->(zf2 ops a).contains b=true->b<a:=by
  intro a b ha h;unfold zk9 at hb;rw [Y8] at hb;have:=hb a (U9.2 ha);rw [Y8] at this;simpa [U8] using this b (by simpa using h)
 induction t with
 |one h=>exact one _ _ hi h
 |step h _ ih=>have h1:=one _ _ hi h;have:=ih (by omega);omega
def prj:Option Nat->Value->Value
 |none,v=>v
 |some c,.tuple a=>a.getD c undef
 |some _,_=>undef
def cL (CL:List (Nat×Nat)) (i:Nat):List Nat:=(CL.filter fun p=>p.1==i).map (·.2)
def kp8 {CL:List (Nat×Nat)} {i:Nat}: ∀t∈cL CL i,t∈CL.map (·.2):=by
 intro t ht;unfold cL at ht;rw [U3] at ht⊢;obtain ⟨p,hp,he⟩:=ht;exact ⟨p,(W3.1 hp).1,he⟩
def Ob (P:Program) (ops:Array Oper) (Q:Exit->Act->World->Prop) (n:Nat) (ds:List Deferred) (m:Nat) (B:PF) (W:World->Prop) (R:Nat->Value->World->Prop) (E:Nat->World->Value->Prop) (AL:List (Nat×Nat×Option Nat)) (CL:List (Nat×Nat)) (Pr:Nat->World->Prop) (i:Nat):Prop:=
 ∀(u:Nat->Value) (w:World),W w->(∀j,j=i\/Tp ops j i->Pr j w)->(∀j,Tp ops i j->R j (u j) w)->(∀p∈AL,Tp ops i p.1->u p.1=prj p.2.2 (u p.2.1))->WR P (ops.extract 0 (i+1)) (Nd Q n ds (cL CL i) (zo0 ops u 0 m++B) (ze0 ops i) w (fun v w'=>(E i w v/\ ∀p∈AL,p.1=i->v=prj p.2.2 (u p.2.1))/\R i v w')) i n ds (zo0 ops u 0 m++B) w
def Obs (P:Program) (ops:Array Oper) (Q:Exit->Act->World->Prop) (n:Nat) (ds:List Deferred) (m:Nat) (B:PF) (W:World->Prop) (R:Nat->Value->World->Prop) (E:Nat->World->Value->Prop) (AL:List (Nat×Nat×Option Nat)) (CL:List (Nat×Nat)) (Pr:Nat->World->Prop):Nat->Nat->Prop
 |_,0=>True
 |i,f+1=>Ob P ops Q n ds m B W R E AL CL Pr i/\Obs P ops Q n ds m B W R E AL CL Pr (i+1) f
def qy7 {m:Nat} {B:PF} {W:World->Prop} {R:Nat->Value->World->Prop} {E:Nat->World->Value->Prop} {AL:List (Nat×Nat×Option Nat)} {CL:List (Nat×Nat)} {Pr:Nat->World->Prop}: ∀(f i:Nat),Obs P ops Q n ds m B W R E AL CL Pr i f-> ∀j,i<=j->j<i+f->Ob P ops Q n ds m B W R E AL CL Pr j
 |0,i,_,j,h1,h2=>by omega
 |f+1,i,h,j,h1,h2=>by
  by_cases hj:j=i
  ·subst hj;exact h.1
  ·exact qy7 f (i+1) h.2 j (by omega) (by omega)
def yx7 {md:Region.Mode} (I:Array Bool->Act->World->Prop)
  (step: ∀listed a w i,I listed a w->i∈Region.ready md ops listed->wpOp P ops Q i (I (listed.setIfInBounds i true)) a w)
  (fin: ∀listed a w,I listed a w->Region.ready md ops listed= []->Q .normal a w):
  ∀(fuel:Nat) (listed:Array Bool) (a:Act) (w:World),(listed.size=ops.size/\(listed.toList.filter (· ==false)).length<=fuel)->I listed a w->wpAny P md ops Q fuel listed a w
 |0,listed,a,w,hl,hI=>by
  have hr:Region.ready md ops listed= []:=by
   unfold Region.ready;rw [List.filter_eq_nil_iff];intro i hi;have hlt:i<listed.size:=by rw [hl.1];simpa using hi
   have:listed[i]=true:=by
    cases hb:listed[i] with
    |true=>rfl
    |false=>
     have:listed[i]∈listed.toList.filter (· ==false):=by
      rw [W3];exact ⟨by simp,by simp [hb]⟩
     have h0:=List.length_pos_of_mem this;omega
   simp [this,hlt]
  exact ⟨hr,fin listed a w hI hr⟩
 |fuel+1,listed,a,w,hl,hI=>by
  refine ⟨fun hr=>fin listed a w hI hr,fun i hi=>wpOp_mono (fun a' w' hI'=>yx7 I step fin fuel _ a' w' ?_ hI') (step listed a w i hI hi)⟩;have hmem:i<ops.size/\listed.getD i true=false:=by
   unfold Region.ready at hi;rw [W3] at hi;refine ⟨by simpa using hi.1,?_⟩;have:=hi.2;rw [X3] at this;simpa using this.1
  refine ⟨by simpa using hl.1,?_⟩;have hlt:i<listed.size:=by rw [hl.1];exact hmem.1
  have hfalse:listed[i]=false:=by
   have:=hmem.2;simpa [hlt] using this
  have key: ∀(l:List Bool) (i:Nat) (h:i<l.length),l[i]=false->((l.set i true).filter (· ==false)).length+1=(l.filter (· ==false)).length:=by
   intro l;induction l with
   |nil=>intro i h;simp at h
   |cons b r ih=>
    intro i h hb;cases i with
    |zero=>simp at hb;subst hb;simp
    |succ i=>
     have:=ih i (by simpa using h) (by simpa using hb);cases b<;>simp_all<;>omega
  have:=key listed.toList i (by simpa using hlt) (by simpa using hfalse);have e:(listed.setIfInBounds i true).toList=listed.toList.set i true:=by simp
  rw [e];omega
def CW.regionN {id:Nat} (m:Nat) (CL:List (Nat×Nat)) (Pr:Nat->World->Prop) (hPr0: ∀j,Pr j {w with drawn:=w.drawn+1}) (hPr: ∀i j w w',i≠j->Pr j w->Chg (cL CL i) w w'->Pr j w') (W:World->Prop) (R:Nat->Value->World->Prop) (E:Nat->World->Value->Prop) (AL:List (Nat×Nat×Option Nat)) (hAL:(AL.all fun p=>(zf2 ops p.1).contains p.2.1)=true) (D:Nat->Nat->Value->Value->Prop) (hD: ∀i j wq wq' v x,i≠j->E i wq v->R i v wq'->R j x wq->D i j v x/\D j i x v) (hm:P.follows .mixedOrders=true) (hsuf:(Nat.ble m ops.size&&(qr6 ops m&&(ze6 (ym5 ops m)&&(zk9 ops&&zh0 ops m))))=true)
  (hd:(ym5 ops m).all (fun d=>Nat.blt d n)=true) (hW0:W {w with drawn:=w.drawn+1}) (hW: ∀i w w',W w->Chg (cL CL i) w w'->W w') (hR: ∀i j v w w',i≠j->R j v w->Chg (cL CL i) w w'->R j v w')
  (ob:Obs P ops Q n ds m F W R E AL CL Pr 0 m)
  (K: ∀u w,W w->(∀j,j<m->R j (u j) w)->(∀j k,j<m->k<m->j≠k->D j k (u j) (u k))->(∀p∈AL,p.1<m->u p.1=prj p.2.2 (u p.2.1))->WR P ops Q m n ds (zo0 ops u 0 m++F) w):CW P (.region id ops true) Q n ds F w:=by
 intro a ha;simp only [X3] at hsuf;obtain ⟨hmle,hsuf,hdis,hback,hgb⟩:=hsuf;have hmle:=Y1 hmle;have hdn: ∀i d,i<m->(ops[i]?).bind (·.dst)=some d->d<n:=by
  intro i d hi hb;rw [Y8] at hd;have:=hd d (by unfold ym5;rw [T1];exact ⟨i,U9.2 hi,hb⟩);simpa [U8] using this
 have huniq: ∀i j d,i<m->j<m->(ops[i]?).bind (·.dst)=some d->(ops[j]?).bind (·.dst)=some d->i=j:=by
  have key: ∀(l:List Nat),ze6 (l.filterMap fun i=>(ops[i]?).bind (·.dst))=true->l.Nodup-> ∀i j d,i∈l->j∈l->(ops[i]?).bind (·.dst)=some d->(ops[j]?).bind (·.dst)=some d->i=j:=by
   intro l;induction l with
   |nil=>intro _ _ i j d hi;simp at hi
   |cons x r ih=>
    intro hdi hn i j d hi hj h1 h2;rw [List.nodup_cons] at hn;have hmem: ∀y e,y∈r->(ops[y]?).bind (·.dst)=some e->e∈r.filterMap fun i=>(ops[i]?).bind (·.dst):=fun y e hy he=>T1.2 ⟨y,hy,he⟩;have hrest:ze6 (r.filterMap fun i=>(ops[i]?).bind (·.dst))=true:=by
     rw [List.filterMap_cons] at hdi;split at hdi
     ·exact hdi
     ·simp only [ze6,X3] at hdi;exact hdi.2
    have hfirst: ∀e,(ops[x]?).bind (·.dst)=some e->e∉r.filterMap fun i=>(ops[i]?).bind (·.dst):=by
     intro e hx hm;rw [List.filterMap_cons] at hdi;split at hdi
     ·rename_i hn0;rw [hx] at hn0;cases hn0
     ·rename_i e' he';rw [hx] at he';cases he';simp only [ze6,X3,V4,R0,decide_eq_false_iff_not] at hdi;exact hdi.1 hm
    rcases Z0.1 hi with rfl|hi'
    ·rcases Z0.1 hj with rfl|hj'
     ·rfl
     ·exact absurd (hmem j d hj' h2) (hfirst d h1)
    ·rcases Z0.1 hj with rfl|hj'
     ·exact absurd (hmem i d hi' h1) (hfirst d h2)
     ·exact ih hrest hn.2 i j d hi' hj' h1 h2
  intro i j d hi hj;exact key (List.range m) hdis List.nodup_range i j d (U9.2 hi) (U9.2 hj)
 let I:Array Bool->Act->World->Prop:=fun listed a w=>listed.size=ops.size/\
  (((∀j,m<=j->listed.getD j true=false\/ops.size<=j)/\W w/\ ∃u,Fr n ds (zo0 ops u 0 m++F) a/\(∀j,j<m->listed.getD j false=true->R j (u j) w)/\(∀j k,j<m->k<m->j≠k->listed.getD j false=true->listed.getD k false=true->D j k (u j) (u k))/\(∀p∈AL,p.1<m->listed.getD p.1 false=true->listed.getD p.2.1 false=true/\u p.1=prj p.2.2 (u p.2.1))/\(∀j i,listed.getD j false=true->(zf2 ops j).contains i=true->listed.getD i false=true)/\(∀j,listed.getD j false=false->Pr j w))\/
   (∃k,m<k/\k<=ops.size/\(∀j,j<k->listed.getD j false=true)/\(∀j,k<=j->listed.getD j true=false\/ops.size<=j)/\wpList P ops Q (ops.toList.drop k) a w))
 have sufd: ∀j,m<=j->j<ops.size-> ∀i,i<j->Tp ops j i:=by
  intro j h1 h2 i hi;unfold qr6 at hsuf;rw [Y8] at hsuf;have:=hsuf j (by rw [List.mem_range'_1];omega);rw [Y8] at this;exact zn5 ops.size _ i (by simpa using this i (U9.2 hi))
 have readyd: ∀(listed:Array Bool) i,i∈Region.ready .any ops listed->i<ops.size/\listed.getD i true=false/\ ∀j,(zf2 ops i).contains j=true->listed.getD j false=true:=by
  intro listed i hi;unfold Region.ready at hi;rw [W3] at hi;have hlt:i<ops.size:=by simpa using hi.1
  have h2:=hi.2;rw [X3] at h2;refine ⟨hlt,by simpa using h2.1,fun j hj=>?_⟩;unfold zf2 at hj;rw [Z6 hlt] at hj h2;simp only [R0,decide_eq_true_eq,U3,W3] at hj;obtain ⟨e,⟨he,hb⟩,rfl⟩:=hj;have h3:=h2.2;simp only [Z8,V2,Array.all_eq_true'] at h3;have:=h3 e (by simpa using he);rw [hb] at this;simpa using this
 have readyI: ∀(listed:Array Bool) i,i<ops.size->listed.getD i true=false->(∀j,(zf2 ops i).contains j=true->listed.getD j false=true)->i∈Region.ready .any ops listed:=by
  intro listed i hlt h1 h2;unfold Region.ready;rw [W3];refine ⟨by simpa using hlt,?_⟩;rw [Z6 hlt,h1];simp only [M3,Bool.true_and,Z8,V2,Array.all_eq_true'];intro e he;cases hb:Region.binds .any e with
  |false=>rfl
  |true=>
   have:=h2 e.on (by
    unfold zf2;rw [Z6 hlt];simp only [R0,decide_eq_true_eq,U3,W3];exact ⟨e,⟨by simpa using he,hb⟩,rfl⟩)
   rw [this];rfl
 refine wp_region_any hm (yx7 I ?_ ?_ ops.size _ a _ ⟨by simp,by simp⟩ ⟨by simp,.inl ⟨fun j hj=>?_,hW0,fun i=>a.tmps.getD ((ze0 ops i).getD 0) undef,⟨ha.size,ha.defers,?_⟩,fun j hj hl=>?_,fun j k hj hk hjk hl _=>?_,fun pr _ _ hl=>?_,fun j _ hl _=>?_,fun j _=>hPr0 j⟩⟩)
 ·
  intro listed a w i hI hi;obtain ⟨hilt,hil,hip⟩:=readyd listed i hi;obtain ⟨hls,hI⟩:=hI;have hset: ∀j d,(listed.setIfInBounds i true).getD j d=if j=i then true else listed.getD j d:=by
   intro j d;rw [Y7,Array.getElem?_setIfInBounds];split
   ·rename_i h;subst h;simp [hls,hilt]
   ·rename_i h;rw [if_neg (fun e=>h e.symm),<-Array.getD_eq_getD_getElem?]
  rcases hI with ⟨hsufI,hWw,u,hfr,hRs,hDs,hAs,hcl,hPs⟩|⟨k,hmk,hkn,hdone,hrest,hwl⟩
  ·by_cases him:i<m
   ·
    have hdone: ∀j,Tp ops i j->listed.getD j false=true:=by
     intro j t;cases t with
     |one h=>exact hip _ h
     |step h t=>exact t.done hcl (hip _ h)
    have hAm: ∀p∈AL,Tp ops i p.1->u p.1=prj p.2.2 (u p.2.1):=by
     intro p hp t;have hjl:=hdone p.1 t;have hjlt:p.1<ops.size:=by
      rcases V0 p.1 listed.size with h|h
      ·rw [<-hls];exact h
      ·rw [Y7,Array.getElem?_eq_none h] at hjl;cases hjl
     have hjm:p.1<m:=by
      rcases V0 p.1 m with h|h
      ·exact h
      ·rcases hsufI p.1 h with h'|h'
       ·rw [Y7] at h' hjl;rw [Z6 (by omega)] at h' hjl;simp at h' hjl;rw [h'] at hjl;cases hjl
       ·omega
     exact (hAs p hp hjm hjl).2
    have hOb:=qy7 m 0 ob i (U4 _) (by omega) u w hWw (fun j hj=>hPs j (by
     have hif:listed.getD i false=false:=by
      rw [Y7] at hil⊢;rw [Z6 (by omega)] at hil⊢;simpa using hil
     rcases hj with rfl|hj
     ·exact hif
     ·cases hlj:listed.getD j false with
      |false=>rfl
      |true=>rw [hj.done hcl hlj] at hif;cases hif)) (fun j hj=>by
     have hjl:=hdone j hj;have hjlt:j<ops.size:=by
      rcases V0 j listed.size with h|h
      ·rw [<-hls];exact h
      ·rw [Y7,Array.getElem?_eq_none h] at hjl;cases hjl
     have hjm:j<m:=by
      rcases V0 j m with h|h
      ·exact h
      ·rcases hsufI j h with h'|h'
       ·rw [Y7] at h' hjl;rw [Z6 (by omega)] at h' hjl;simp at h' hjl;rw [h'] at hjl;cases hjl
       ·omega
     exact hRs j hjm hjl) hAm
    have hw:=hOb a hfr;have hext:(ops.extract 0 (i+1)).toList.drop i= [ops[i]]:=by
     rw [Array.toList_extract];simp only [List.extract_eq_take_drop,J5,N2];rw [S9 (by simpa using hilt),List.drop_append];simp [V7 (Nat.le_of_lt hilt)]
    rw [hext] at hw;have hio:ops[i]?=some ops[i]:=Z6 hilt;have hyi: ∀(o:Oper),Region.wanted o (yielded (ops.extract 0 (i+1)) a.tmps)=Region.wanted o (yielded (ops.extract 0 (i+1)) a.tmps):=fun _=>rfl;have hdO:ze0 ops i=ops[i].dst:=by simp [ze0,hio]
    have leave: ∀a' w',Nd Q n ds (cL CL i) (zo0 ops u 0 m++F) (ze0 ops i) w (fun v w'=>(E i w v/\ ∀p∈AL,p.1=i->v=prj p.2.2 (u p.2.1))/\R i v w') .normal a' w'->I (listed.setIfInBounds i true) a' w':=by
     rintro a' w' ⟨hch,v,hf',⟨hEv,hAv⟩,hRv⟩
     refine ⟨by simpa using hls,.inl ⟨fun j hj=>?_,hW i w w' hWw hch,fun j=>if j=i then v else u j,⟨hf'.size,hf'.defers,?_⟩,fun j hj hl=>?_,fun j k hj hk hjk hl hl2=>?_,fun pr hp hpm hl=>?_,fun j i' hl hd'=>?_,fun j hl=>?_⟩⟩
     ·rw [hset];rw [if_neg (by omega)];exact hsufI j hj
     ·intro s x hx;rw [zw4] at hx;split at hx
      ·rename_i y hy;simp only [X0] at hx;subst hx;obtain ⟨j,h1,h2,h3,rfl⟩:=zs9 m 0 hy;by_cases hji:j=i
       ·subst hji;simp only [if_true];have:(upd (zo0 ops u 0 m++F) (ze0 ops j) v).get s=some v:=by
         unfold ze0;rw [h3];simp [upd,PF.get]
        exact hf'.val s v this
       ·rw [if_neg hji];have hne:ze0 ops i≠some s:=fun e=>hji (huniq j i s (by omega) him h3 e);have hj: ∀(m' k:Nat),k<=j->j<k+m'->m'+k<=m->(zo0 ops u k m').get s=some (u j):=by
         intro m';induction m' with
         |zero=>intro k h1 h2;omega
         |succ m' ih=>
          intro k h1 h2 h4;unfold zo0;by_cases hkj:k=j
          ·subst hkj;rw [h3];simp [PF.get]
          ·split
           ·rename_i d hd;simp only [PF.get];split
            ·rename_i hb;have:=X1 hb;subst this;exact absurd (huniq k j d (by omega) (by omega) hd h3) hkj
            ·exact ih (k+1) (by omega) (by omega) (by omega)
           ·exact ih (k+1) (by omega) (by omega) (by omega)
        refine hf'.val s (u j) ?_;have e1:(zo0 ops u 0 m++F).get s=some (u j):=by
         rw [zw4,hj m 0 (U4 _) (by omega) (by omega)]
        unfold upd;split
        ·rename_i d hd;simp only [PF.get];split
         ·rename_i hb;have:=X1 hb;subst this;exact absurd hd hne
         ·exact e1
        ·exact e1
      ·rename_i hy;have hnot: ∀j,j<m->(ops[j]?).bind (·.dst)≠some s:=by
        intro j hj hs;have hj': ∀(m' k:Nat),k<=j->j<k+m'->(zo0 ops (fun j=>if j=i then v else u j) k m').get s≠none:=by
         intro m';induction m' with
         |zero=>intro k h1 h2;omega
         |succ m' ih=>
          intro k h1 h2;unfold zo0;by_cases hkj:k=j
          ·subst hkj;rw [hs];simp [PF.get]
          ·split
           ·simp only [PF.get];split
            ·simp
            ·exact ih (k+1) (by omega) (by omega)
           ·exact ih (k+1) (by omega) (by omega)
        exact hj' m 0 (U4 _) (by omega) hy
       refine hf'.val s x ?_;have hne:ze0 ops i≠some s:=hnot i him;have e1:(zo0 ops u 0 m++F).get s=some x:=by
        rw [zw4];split
        ·rename_i z hz;obtain ⟨j,_,h2,h3,_⟩:=zs9 m 0 hz;exact absurd h3 (hnot j (by omega))
        ·exact hx
       unfold upd;split
       ·rename_i d hd;simp only [PF.get];split
        ·rename_i hb;have:=X1 hb;subst this;exact absurd hd hne
        ·exact e1
       ·exact e1
     ·rw [hset] at hl;by_cases hji:j=i
      ·subst hji;simpa using hRv
      ·rw [if_neg hji] at hl;simp only [if_neg hji];exact hR i j (u j) w w' (Ne.symm hji) (hRs j hj hl) hch
     ·rw [hset] at hl hl2;by_cases hji:j=i
      ·subst hji;rw [if_neg (fun e=>hjk e.symm)] at hl2;simp only [if_true,if_neg (fun e=>hjk (Eq.symm e): ¬k=j)];exact (hD j k w w' v (u k) hjk hEv hRv (hRs k hk hl2)).1
      ·rw [if_neg hji] at hl;by_cases hki:k=i
       ·subst hki;simp only [if_true,if_neg hji];exact (hD k j w w' v (u j) (Ne.symm hjk) hEv hRv (hRs j hj hl)).2
       ·rw [if_neg hki] at hl2;simp only [if_neg hji,if_neg hki];exact hDs j k hj hk hjk hl hl2
     ·have hdep:(zf2 ops pr.1).contains pr.2.1=true:=by rw [Y8] at hAL;exact hAL pr hp
      rw [hset] at hl;by_cases hpi:pr.1=i
      ·have hs2:listed.getD pr.2.1 false=true:=hip pr.2.1 (by rw [<-hpi];exact hdep);have hne: ¬pr.2.1=i:=by
        intro e;rw [e] at hs2;rw [Y7] at hs2 hil;rw [Z6 (by omega)] at hs2 hil;simp at hs2 hil;rw [hs2] at hil;cases hil
       rw [hset,if_neg hne];exact ⟨hs2,by simp only [hpi,if_true,if_neg hne];exact hAv pr hp hpi⟩
      ·rw [if_neg hpi] at hl;obtain ⟨hs2,he⟩:=hAs pr hp hpm hl;have hne: ¬pr.2.1=i:=by
        intro e;rw [e] at hs2;rw [Y7] at hs2 hil;rw [Z6 (by omega)] at hs2 hil;simp at hs2 hil;rw [hs2] at hil;cases hil
       rw [hset,if_neg hne];exact ⟨hs2,by simp only [if_neg hpi,if_neg hne];exact he⟩
     ·rw [hset] at hl⊢;by_cases hji:j=i
      ·split
       ·rfl
       ·exact hip i' (by rw [<-hji];exact hd')
      ·rw [if_neg hji] at hl;split
       ·rfl
       ·exact hcl j i' hl hd'
     ·rw [hset] at hl;by_cases hji:j=i
      ·rw [if_pos hji] at hl;cases hl
      ·rw [if_neg hji] at hl;exact hPr i j w w' (Ne.symm hji) (hPs j hl) hch
    have hwant:Region.wanted ops[i] (yielded (ops.extract 0 (i+1)) a.tmps)=Region.wanted ops[i] (yielded ops a.tmps):=by
     unfold Region.wanted;cases hg:ops[i].guard with
     |none=>rfl
     |some gb=>
      obtain ⟨g,b⟩:=gb;have hgi:g<i:=by
       unfold zh0 at hgb;rw [Y8] at hgb;have:=hgb i (U9.2 him);rw [hio] at this;simp only [hg] at this;simpa [U8] using this
      have:(ops.extract 0 (i+1))[g]?=ops[g]?:=by
       rw [Array.getElem?_extract];simp only [J5,U0];rw [if_pos (by omega)]
      simp only [yielded,this]
    unfold wpOp;rw [hio];simp only;unfold wpList at hw;have hnil: ∀a' w',wpList P (ops.extract 0 (i+1)) (Nd Q n ds (cL CL i) (zo0 ops u 0 m++F) (ze0 ops i) w (fun v w'=>(E i w v/\ ∀p∈AL,p.1=i->v=prj p.2.2 (u p.2.1))/\R i v w')) [] a' w'->I (listed.setIfInBounds i true) a' w':=fun a' w' h=>leave a' w' h;have qmono: ∀e a' w',e≠.normal->Nd Q n ds (cL CL i) (zo0 ops u 0 m++F) (ze0 ops i) w (fun v w'=>(E i w v/\ ∀p∈AL,p.1=i->v=prj p.2.2 (u p.2.1))/\R i v w') e a' w'->Q e a' w':=by
     intro e a' w' he h;cases e<;>first|exact absurd rfl he|exact h
    have opmono:ops[i].wp P a w (wpList P (ops.extract 0 (i+1)) (Nd Q n ds (cL CL i) (zo0 ops u 0 m++F) (ze0 ops i) w (fun v w'=>(E i w v/\ ∀p∈AL,p.1=i->v=prj p.2.2 (u p.2.1))/\R i v w')) []) (Nd Q n ds (cL CL i) (zo0 ops u 0 m++F) (ze0 ops i) w (fun v w'=>(E i w v/\ ∀p∈AL,p.1=i->v=prj p.2.2 (u p.2.1))/\R i v w'))->ops[i].wp P a w (I (listed.setIfInBounds i true)) Q:=by
     intro h;unfold Oper.wp at h⊢;generalize (execOp a.eval ops[i]).run P w=r at h⊢;unfold Oper.upon at h⊢;split at h
     ·exact hnil _ _ h
     ·exact hnil _ _ h
     ·exact hnil _ _ h
     ·refine h.mono fun e w' he=>?_;cases e with
      |returned v=>exact hnil _ _ he
      |panicked ch=>exact qmono _ _ _ (by simp) he
      |outgrown=>obtain ⟨a1,w1,h1⟩:=he;exact ⟨a1,w1,qmono _ _ _ (by simp) h1⟩
     ·exact h.mono fun v w' he=>hnil _ _ he
     ·exact qmono _ _ _ (by simp) h
     ·exact h.elim
    have outmono:LetsOut (Nd Q n ds (cL CL i) (zo0 ops u 0 m++F) (ze0 ops i) w (fun v w'=>(E i w v/\ ∀p∈AL,p.1=i->v=prj p.2.2 (u p.2.1))/\R i v w'))->LetsOut Q:=fun ⟨a1,w1,h1⟩=>⟨a1,w1,qmono _ _ _ (by simp) h1⟩;rw [hwant] at hw;split
    ·rename_i hwn;rw [if_pos hwn] at hw;rcases hw with hw|hw
     ·exact .inl (opmono hw)
     ·exact .inr ⟨hw.1,outmono hw.2⟩
    ·rename_i hwn;rw [if_neg hwn] at hw;exact hnil _ _ hw
   ·
    have him':m<=i:=by omega
    have hall: ∀j,j<i->listed.getD j false=true:=fun j hj=>by
     cases sufd i him' hilt j hj with
     |one h=>exact hip _ h
     |step h t=>exact t.done hcl (hip _ h)
    have hieq:i=m:=by
     rcases V0 m i with h|h
     ·exfalso;have h1:=hall m h;rcases hsufI m (W8 _) with h2|h2
      ·rw [Y7] at h1 h2;rw [Z6 (by omega)] at h1 h2;simp at h1 h2;rw [h1] at h2;cases h2
      ·omega
     ·omega
    subst hieq;have hK:=K u w hWw (fun j hj=>hRs j hj (hall j hj)) (fun j k hj hk hjk=>hDs j k hj hk hjk (hall j hj) (hall k hk)) (fun pr hp hpm=>(hAs pr hp hpm (hall pr.1 hpm)).2) a hfr;rw [zg4 (Z6 hilt)] at hK;have hwo:wpOp P ops Q i (wpList P ops Q (ops.toList.drop (i+1))) a w:=by
     unfold wpOp;rw [Z6 hilt];exact hK
    refine wpOp_mono (fun a' w' h=>⟨by simpa using hls,.inr ⟨i+1,by omega,by omega,fun j hj=>?_,fun j hj=>?_,h⟩⟩) hwo
    ·rw [hset];split
     ·rfl
     ·exact hall j (by omega)
    ·rw [hset,if_neg (by omega)];exact hsufI j (by omega)
  ·
   have hik:i=k:=by
    rcases M2 i k with h|h|h
    ·have h1:=hdone i h;rw [Y7] at h1 hil;rw [Z6 (by omega)] at h1 hil;simp at h1 hil;rw [h1] at hil;cases hil
    ·exact h
    ·exfalso;have h1:listed.getD k false=true:=by
      cases sufd i (by omega) hilt k h with
      |one h=>exact hip _ h
      | @step _ p _ h t=>
       have hp:=hip _ h;have hpi:p<i:=Tp.lt hback (.one h) hilt;have hpk:=Tp.lt hback t (by omega);rcases hrest p (by omega) with h2|h2
       ·rw [Y7] at hp h2;rw [Z6 (by omega)] at hp h2;simp at hp h2;rw [hp] at h2;cases h2
       ·omega
     rcases hrest k (W8 _) with h2|h2
     ·rw [Y7] at h1 h2;rw [Z6 (by omega)] at h1 h2;simp at h1 h2;rw [h1] at h2;cases h2
     ·omega
   subst hik;rw [zg4 (Z6 hilt)] at hwl;have hwo:wpOp P ops Q i (wpList P ops Q (ops.toList.drop (i+1))) a w:=by
    unfold wpOp;rw [Z6 hilt];exact hwl
   refine wpOp_mono (fun a' w' h=>⟨by simpa using hls,.inr ⟨i+1,by omega,by omega,fun j hj=>?_,fun j hj=>?_,h⟩⟩) hwo
   ·rw [hset];split
    ·rfl
    ·exact hdone j (by omega)
   ·rw [hset,if_neg (by omega)];exact hrest j (by omega)
 ·
  intro listed a w hI hr;obtain ⟨hls,hI⟩:=hI;have hall: ∀j,j<ops.size->listed.getD j true=true:=by
   intro j;induction j using Nat.strongRecOn with
   |_ j ih=>
    intro hj;cases hb:listed.getD j true with
    |true=>rfl
    |false=>
     exfalso;have hmem:=readyI listed j hj hb (fun i hi=>by
      have hij:i<j:=by
       unfold zk9 at hback;rw [Y8] at hback;have:=hback j (U9.2 hj);rw [Y8] at this;have:=this i (by simpa using hi);simpa [U8] using this
      have h1:=ih i hij (by omega);rw [Y7] at h1⊢;rw [Z6 (by omega)] at h1⊢;simpa using h1)
     rw [hr] at hmem;cases hmem
  rcases hI with ⟨hsufI,hWw,u,hfr,hRs,hDs,hAs,hcl,_⟩|⟨k,hmk,hkn,hdone,hrest,hwl⟩
  ·have hms:m=ops.size:=by
    rcases V0 m ops.size with h|h
    ·exfalso;rcases hsufI m (W8 _) with h2|h2
     ·rw [hall m h] at h2;cases h2
     ·omega
    ·omega
   have hall': ∀j,j<m->listed.getD j false=true:=by
    intro j hj;have h1:=hall j (by omega);rw [Y7] at h1⊢;rw [Z6 (by omega)] at h1⊢;simpa using h1
   have hK:=K u w hWw (fun j hj=>hRs j hj (hall' j hj)) (fun j k hj hk hjk=>hDs j k hj hk hjk (hall' j hj) (hall' k hk)) (fun pr hp hpm=>(hAs pr hp hpm (hall' pr.1 hpm)).2) a hfr;rw [M4 (by simp;omega)] at hK;exact hK
  ·have hks:k=ops.size:=by
    rcases V0 k ops.size with h|h
    ·exfalso;rcases hrest k (W8 _) with h2|h2
     ·rw [hall k h] at h2;cases h2
     ·omega
    ·omega
   rw [M4 (by simp;omega)] at hwl;exact hwl
 ·rcases V0 j ops.size with h|h
  ·left;rw [Y7];simp [h]
  ·exact .inr h
 ·intro s x hx;rw [zw4] at hx;split at hx
  ·rename_i y hy;simp only [X0] at hx;subst hx;obtain ⟨j,h1,h2,h3,rfl⟩:=zs9 m 0 hy;refine ⟨?_,hdn j s (by omega) h3⟩;simp [ze0,h3]
  ·exact ha.val s x hx
 ·exfalso;rw [Y7] at hl;rcases V0 j ops.size with h|h
  ·simp [h] at hl
  ·simp [Nat.not_lt.2 h] at hl
 ·exfalso;rw [Y7] at hl;rcases V0 j ops.size with h|h
  ·simp [h] at hl
  ·simp [Nat.not_lt.2 h] at hl
 ·exfalso;rw [Y7] at hl;rcases V0 pr.1 ops.size with h|h
  ·simp [h] at hl
  ·simp [Nat.not_lt.2 h] at hl
 ·exfalso;rw [Y7] at hl;rcases V0 j ops.size with h|h
  ·simp [h] at hl
  ·simp [Nat.not_lt.2 h] at hl
def adL:List Value->Option Addr| .slice ad _ _::_=>ad|_::r=>adL r| []=>none
def zs5:Value->Option Addr| .slice ad _ _=>ad| .pointer a=>a| .tuple a=>adL a.toList|_=>none
def ko9 {AL:List (Nat×Nat×Option Nat)} {i:Nat} {u:Nat->Value} {v:Value} (h:(AL.all fun p=>p.1 != i)=true): ∀p∈AL,p.1=i->v=prj p.2.2 (u p.2.1):=by
 intro p hp hi;rw [Y8] at h;have:=h p hp;rw [hi] at this;simp at this
def CW.regionF {id:Nat} (m:Nat) (CL:List (Nat×Nat)) (Pr:Nat->World->Prop) (hPr0: ∀j,Pr j {w with drawn:=w.drawn+1}) (hPr: ∀i j w w',i≠j->Pr j w->Chg (cL CL i) w w'->Pr j w') (FS:List Nat) (AL:List (Nat×Nat×Option Nat)) (hAL:(AL.all fun p=>(zf2 ops p.1).contains p.2.1)=true) (W:World->Prop) (R:Nat->Value->World->Prop) (hOld: ∀j x w,FS.contains j=true->R j x w->zs5 x=none\/bk (zs5 x)<w.heap.size) (hm:P.follows .mixedOrders=true) (hsuf:(Nat.ble m ops.size&&(qr6 ops m&&(ze6 (ym5 ops m)&&(zk9 ops&&zh0 ops m))))=true)
  (hd:(ym5 ops m).all (fun d=>Nat.blt d n)=true) (hW0:W {w with drawn:=w.drawn+1}) (hW: ∀i w w',W w->Chg (cL CL i) w w'->W w') (hR: ∀i j v w w',i≠j->R j v w->Chg (cL CL i) w w'->R j v w')
  (ob:Obs P ops Q n ds m F W R (fun i wq v=>FS.contains i=true->zs5 v=none\/wq.heap.size<=bk (zs5 v)) AL CL Pr 0 m)
  (K: ∀u w,W w->(∀j,j<m->R j (u j) w)->(∀j k,j<m->k<m->j≠k->FS.contains j=true->FS.contains k=true->Apart (zs5 (u j)) (zs5 (u k)))->(∀p∈AL,p.1<m->u p.1=prj p.2.2 (u p.2.1))->WR P ops Q m n ds (zo0 ops u 0 m++F) w):CW P (.region id ops true) Q n ds F w:=by
 refine CW.regionN m CL Pr hPr0 hPr W R (fun i wq v=>FS.contains i=true->zs5 v=none\/wq.heap.size<=bk (zs5 v)) AL hAL (fun j k u v=>FS.contains j=true->FS.contains k=true->Apart (zs5 u) (zs5 v)) ?_ hm hsuf hd hW0 hW hR ob K;intro i j wq wq' v x _ hE _ hx;have key:FS.contains i=true->FS.contains j=true->Apart (zs5 v) (zs5 x):=by
  intro h1 h2;rcases hE h1 with h|h
  ·exact .inl h
  ·rcases hOld j x wq h2 hx with h3|h3
   ·exact .inr (.inl h3)
   ·exact .inr (.inr (by omega))
 exact ⟨key,fun h1 h2=>(key h2 h1).symm⟩
def NdG (n:Nat) (ds:List Deferred) (S:List Nat) (F:PF) (dst:Option Tmp) (w:World) (R:Value->World->Prop):Exit->Act->World->Prop
 | .normal,a,w'=>Chg S w w'/\ ∃v,Fr n ds (upd F dst v) a/\R v w'
 |_,_,_=>False
def fxU (fx:List (Option Value)) (u:Nat->Value) (j:Nat):Value:=(fx.getD j none).getD (u j)
def RX (fx:List (Option Value)) (R:Nat->Value->World->Prop) (i:Nat) (v:Value) (w:World):Prop:=match fx.getD i none with|some x=>v=x|none=>R i v w
def zm7 (o:Oper):List Nat:=o.op.operands.toList.filterMap fun x=>match x with| .tmp t=>some t|_=>none
def zp2 (ops:Array Oper) (o:Oper):List Nat:=match o.guard with|some (g,_)=>(ze0 ops g).toList|none=> []
def vk0 (ops:Array Oper) (m:Nat):Bool:=(List.range m).all fun i=>match ops[i]? with
 |some o=>za6 o&&((zm7 o++zp2 ops o).all fun t=>(zf2 ops i).any (fun j=>Nat.blt j m&&ze0 ops j==some t)||(List.range m).all fun j=>ze0 ops j != some t)
 |none=>true
def ObG (P:Program) (ops:Array Oper) (n:Nat) (ds:List Deferred) (fx:List (Option Value)) (GF:(Nat->Value)->PF) (W:World->Prop) (R:Nat->Value->World->Prop) (E:Nat->World->Value->Prop) (AL:List (Nat×Nat×Option Nat)) (CL:List (Nat×Nat)) (Pr:Nat->World->Prop) (i:Nat):Prop:=
 ∀(u:Nat->Value) (w:World),W w->(∀j,j=i\/Tp ops j i->Pr j w)->(∀j,Tp ops i j->fx.getD j none=none->R j (u j) w)->(∀p∈AL,Tp ops i p.1->u p.1=prj p.2.2 (u p.2.1))->WR P (ops.extract 0 (i+1)) (NdG n ds (cL CL i) (GF u) (ze0 ops i) w (fun v w'=>(E i w v/\ ∀p∈AL,p.1=i->v=prj p.2.2 (u p.2.1))/\RX fx R i v w')) i n ds (GF u) w
def qt9 (P:Program) (ops:Array Oper) (n:Nat) (ds:List Deferred) (fx:List (Option Value)) (GF:(Nat->Value)->PF) (W:World->Prop) (R:Nat->Value->World->Prop) (E:Nat->World->Value->Prop) (AL:List (Nat×Nat×Option Nat)) (CL:List (Nat×Nat)) (Pr:Nat->World->Prop):Nat->Nat->Prop
 |_,0=>True
 |i,f+1=>ObG P ops n ds fx GF W R E AL CL Pr i/\qt9 P ops n ds fx GF W R E AL CL Pr (i+1) f
def ju1 {u:Nat->Value} {s m:Nat} (huniq: ∀i j d,i<m->j<m->(ops[i]?).bind (·.dst)=some d->(ops[j]?).bind (·.dst)=some d->i=j) {j:Nat} (hjm:j<m) (hs:(ops[j]?).bind (·.dst)=some s):(zo0 ops u 0 m).get s=some (u j):=by
 have hj: ∀(m' k:Nat),k<=j->j<k+m'->m'+k<=m->(zo0 ops u k m').get s=some (u j):=by
  intro m';induction m' with
  |zero=>intro k h1 h2;omega
  |succ m' ih=>
   intro k h1 h2 h4;unfold zo0;by_cases hkj:k=j
   ·subst hkj;rw [hs];simp [PF.get]
   ·split
    ·rename_i d hd;simp only [PF.get];split
     ·rename_i hb;have:=X1 hb;subst this;exact absurd (huniq k j d (by omega) (by omega) hd hs) hkj
     ·exact ih (k+1) (by omega) (by omega) (by omega)
    ·exact ih (k+1) (by omega) (by omega) (by omega)
 exact hj m 0 (U4 _) (by omega) (by omega)
def ym2 {m:Nat} (h:ze6 (ym5 ops m)=true): ∀i j d,i<m->j<m->(ops[i]?).bind (·.dst)=some d->(ops[j]?).bind (·.dst)=some d->i=j:=by
 have key: ∀(l:List Nat),ze6 (l.filterMap fun i=>(ops[i]?).bind (·.dst))=true->l.Nodup-> ∀i j d,i∈l->j∈l->(ops[i]?).bind (·.dst)=some d->(ops[j]?).bind (·.dst)=some d->i=j:=by
  intro l;induction l with
  |nil=>intro _ _ i j d hi;simp at hi
  |cons x r ih=>
   intro hdi hn i j d hi hj h1 h2;rw [List.nodup_cons] at hn;have hmem: ∀y e,y∈r->(ops[y]?).bind (·.dst)=some e->e∈r.filterMap fun i=>(ops[i]?).bind (·.dst):=fun y e hy he=>T1.2 ⟨y,hy,he⟩;have hrest:ze6 (r.filterMap fun i=>(ops[i]?).bind (·.dst))=true:=by
    rw [List.filterMap_cons] at hdi;split at hdi
    ·exact hdi
    ·simp only [ze6,X3] at hdi;exact hdi.2
   have hfirst: ∀e,(ops[x]?).bind (·.dst)=some e->e∉r.filterMap fun i=>(ops[i]?).bind (·.dst):=by
    intro e hx hm;rw [List.filterMap_cons] at hdi;split at hdi
    ·rename_i hn0;rw [hx] at hn0;cases hn0
    ·rename_i e' he';rw [hx] at he';cases he';simp only [ze6,X3,V4,R0,decide_eq_false_iff_not] at hdi;exact hdi.1 hm
   rcases Z0.1 hi with rfl|hi'
   ·rcases Z0.1 hj with rfl|hj'
    ·rfl
    ·exact absurd (hmem j d hj' h2) (hfirst d h1)
   ·rcases Z0.1 hj with rfl|hj'
    ·exact absurd (hmem i d hi' h1) (hfirst d h2)
    ·exact ih hrest hn.2 i j d hi' hj' h1 h2
 intro i j d hi hj;exact key (List.range m) h List.nodup_range i j d (U9.2 hi) (U9.2 hj)
def qs0 {o:Oper} {Q:Exit->Act->World->Prop} {a b:Act} {w:World} {ops:Array Oper} (hs: ∀cs b,o.op≠.select cs b) (he: ∀x∈o.op.operands,b.eval x=a.eval x) (hg:Region.wanted o (yielded ops b.tmps)=Region.wanted o (yielded ops a.tmps))
  {Q':Exit->Act->World->Prop} (hn: ∀v w',Q .normal (b.put o.dst v) w'->Q' .normal (a.put o.dst v) w') (hx: ∀e a' w',e≠.normal->Q e a' w'->False) (hdf: ∀(d:Deferred) w',Q .normal ({b with defers:=d::b.defers}.put o.dst undef) w'->Q' .normal ({a with defers:=d::a.defers}.put o.dst undef) w')
  (h:wpList P ops Q [o] b w):wpList P ops Q' [o] a w:=by
 unfold wpList at h⊢;rw [hg] at h;split
 ·rename_i hw;rw [if_pos hw] at h;have hop:execOp b.eval o=execOp a.eval o:=execOp_congr o hs he;rcases h with h|⟨h1,a1,w1,h2⟩
  ·left;unfold Oper.wp at h⊢;rw [hop] at h;generalize (execOp a.eval o).run P w=r at h⊢;unfold Oper.upon at h⊢;split at h
   ·exact hn _ _ h
   ·exact hn _ _ h
   ·exact hdf _ _ h
   ·refine h.mono fun e w' hq=>?_;cases e with
    |returned v=>exact hn _ _ hq
    |panicked ch=>exact (hx _ _ _ (by simp) hq).elim
    |outgrown=>obtain ⟨a1,w1,h1⟩:=hq;exact (hx _ _ _ (by simp) h1).elim
   ·exact h.mono fun v w' hq=>hn _ _ hq
   ·exact (hx _ _ _ (by simp) h).elim
   ·exact h.elim
  ·exact (hx _ _ _ (by simp) h2).elim
 ·rename_i hw;rw [if_neg hw] at h;exact hn _ _ h
def jb9 (F:PF) (a:Act):Act:= {a with tmps:=Array.ofFn (n:=a.tmps.size) fun s=>match F.get s with|some v=>v|none=>a.tmps[s]}
def qg5 (F:PF) (a:Act) (s:Nat):(jb9 F a).tmps.getD s undef=match F.get s with|some v=>if s<a.tmps.size then v else undef|none=>a.tmps.getD s undef:=by
 unfold jb9;rw [Y7];rcases V0 s a.tmps.size with h|h
 ·simp only [Array.getElem?_ofFn,h,dite_true,if_true,V2];split
  ·rfl
  ·rw [Y7,Z6 h];rfl
 ·have: ¬s<a.tmps.size:=by omega
  simp only [Array.getElem?_ofFn,this,dite_false,N5,if_false];split
  ·rfl
  ·rw [Y7,Array.getElem?_eq_none h];rfl
def kg4 {F:PF} {a:Act} (hs:a.tmps.size=n) (hd:a.defers=ds) (hF: ∀s v,F.get s=some v->s<n):Fr n ds F (jb9 F a):=by
 refine ⟨by simp [jb9,hs],hd,fun i v hv=>?_⟩;have hi:=hF i v hv;refine ⟨?_,hi⟩;rw [qg5,hv];simp [hs,hi]
def kg1 {m:Nat} {fx:List (Option Value)} {GF:(Nat->Value)->PF} {W:World->Prop} {R:Nat->Value->World->Prop} {E:Nat->World->Value->Prop} {AL:List (Nat×Nat×Option Nat)} {CL:List (Nat×Nat)} {Pr:Nat->World->Prop} (hmle:m<=ops.size)
  (hGF: ∀u,zo0 ops (fxU fx u) 0 m++F=GF u) (hdep:vk0 ops m=true) (hgb:zh0 ops m=true) (hdis:ze6 (ym5 ops m)=true) (hdn: ∀i d,i<m->(ops[i]?).bind (·.dst)=some d->d<n) {i:Nat} (him:i<m)
  (h:ObG P ops n ds fx GF W R E AL CL Pr i):Ob P ops Q n ds m F W (RX fx R) E AL CL Pr i:=by
 intro u w hW hPr hR hA a ha;have huniq:=ym2 hdis;have hio:ops[i]?=some ops[i]:=Z6 (by omega);have hdo:za6 ops[i]=true/\ ∀t∈zm7 ops[i]++zp2 ops ops[i],(zf2 ops i).any (fun j=>Nat.blt j m&&ze0 ops j==some t)=true\/((List.range m).all fun j=>ze0 ops j != some t)=true:=by
  unfold vk0 at hdep;rw [Y8] at hdep;have:=hdep i (U9.2 him);rw [hio] at this;simp only [X3] at this;refine ⟨this.1,fun t ht=>?_⟩;have h2:=this.2;rw [Y8] at h2;simpa [J3] using h2 t ht
 have hw:=h u w hW hPr (fun j hj hn=>by
  have:=hR j hj;unfold RX at this;rw [hn] at this;exact this) hA
 have hGlt: ∀s v,(GF u).get s=some v->s<n:=by
  intro s v hv;rw [<-hGF u,zw4] at hv;split at hv
  ·rename_i y hy;obtain ⟨j,_,h2,h3,_⟩:=zs9 m 0 hy;exact hdn j s (by omega) h3
  ·rename_i hy;have:(zo0 ops u 0 m++F).get s=some v:=by
    rw [zw4];split
    ·rename_i y2 hy2;obtain ⟨j,_,h2,h3,_⟩:=zs9 m 0 hy2;rw [ju1 huniq (by omega:j<m) h3] at hy;cases hy
    ·exact hv
   exact (ha.val s v this).2
 have hb:=kg4 (ds:=ds) ha.size ha.defers hGlt;have hsame: ∀t∈zm7 ops[i]++zp2 ops ops[i],(jb9 (GF u) a).tmps.getD t undef=a.tmps.getD t undef:=by
  intro t ht;rw [qg5];split
  ·rename_i v hv;have htn:t<a.tmps.size:=by rw [ha.size];exact hGlt t v hv
   rw [if_pos htn];rw [<-hGF u,zw4] at hv;have hfr: ∀x,(zo0 ops u 0 m++F).get t=some x->a.tmps.getD t undef=x:=fun x hx=>(ha.val t x hx).1;rcases hdo.2 t ht with hd|hd
   ·rw [List.any_eq_true] at hd;obtain ⟨j,hj,hjd⟩:=hd;simp only [X3,beq_iff_eq] at hjd;have hjm:j<m:=by simpa [U8] using hjd.1
    have hjs:(ops[j]?).bind (·.dst)=some t:=hjd.2;rw [ju1 huniq hjm hjs] at hv;simp only [X0] at hv;have hx:=hfr (u j) (by rw [zw4,ju1 huniq hjm hjs]);rw [hx,<-hv];unfold fxU;cases hf:fx.getD j none with
    |none=>rfl
    |some x=>
     have:=hR j (.one (by simpa using hj));unfold RX at this;rw [hf] at this;simp [this]
   ·have hno: ∀u',(zo0 ops u' 0 m).get t=none:=by
     intro u';cases hg:(zo0 ops u' 0 m).get t with
     |none=>rfl
     |some y=>
      obtain ⟨j,_,h2,h3,_⟩:=zs9 m 0 hg;rw [Y8] at hd;have:=hd j (U9.2 (by omega));simp only [ze0,h3,bne_self_eq_false] at this;cases this
    rw [hno] at hv;exact (hfr v (by rw [zw4,hno];exact hv)).symm
  ·rfl
 have hext:(ops.extract 0 (i+1)).toList.drop i= [ops[i]]:=by
  rw [Array.toList_extract];simp only [List.extract_eq_take_drop,J5,N2];rw [S9 (by simp;omega),List.drop_append];simp [V7 (Nat.le_of_lt (by omega:i<ops.size))]
 have hw:=hw _ hb;rw [hext] at hw⊢;have hsel: ∀cs b,ops[i].op≠.select cs b:=by
  intro cs b e;have:=hdo.1;simp [za6,e] at this
 have heval: ∀x∈ops[i].op.operands,(jb9 (GF u) a).eval x=a.eval x:=by
  intro x hx;cases x with
  |tmp t=>
   refine hsame t (List.mem_append_left _ ?_);unfold zm7;rw [T1];exact ⟨.tmp t,by simpa using hx,rfl⟩
  |const v=>rfl
  |global g=>rfl
  |func f=>rfl
 have hwant:Region.wanted ops[i] (yielded (ops.extract 0 (i+1)) (jb9 (GF u) a).tmps)=Region.wanted ops[i] (yielded (ops.extract 0 (i+1)) a.tmps):=by
  unfold Region.wanted;cases hg:ops[i].guard with
  |none=>rfl
  |some gb=>
   obtain ⟨g,b⟩:=gb;have hgi:g<i:=by
    unfold zh0 at hgb;rw [Y8] at hgb;have:=hgb i (U9.2 him);rw [hio] at this;simp only [hg] at this;simpa [U8] using this
   have hge:(ops.extract 0 (i+1))[g]?=ops[g]?:=by
    rw [Array.getElem?_extract];simp only [J5,U0];rw [if_pos (by omega)]
   have hy:yielded (ops.extract 0 (i+1)) (jb9 (GF u) a).tmps g=yielded (ops.extract 0 (i+1)) a.tmps g:=by
    unfold yielded;rw [hge];cases hd:(ops[g]?).bind (·.dst) with
    |none=>rfl
    |some d=>
     have h1:=hsame d (List.mem_append_right _ (by unfold zp2;rw [hg];simp [ze0,hd]));have hsz:(jb9 (GF u) a).tmps.size=a.tmps.size:=by simp [jb9]
     have h2:(jb9 (GF u) a).tmps[d]?=a.tmps[d]?:=by
      rcases V0 d a.tmps.size with h|h
      ·rw [Y7,Y7,Z6 (by omega),Z6 h] at h1;rw [Z6 (by omega),Z6 h];simpa using h1
      ·rw [Array.getElem?_eq_none (by omega),Array.getElem?_eq_none h]
     simp only [R1,h2]
   simp only [hy]
 have hdst:ze0 ops i=ops[i].dst:=by simp [ze0,hio]
 refine qs0 hsel heval hwant ?_ ?_ ?_ hw
 ·rintro v w' ⟨hch,v',hf,hq⟩
  have ha2:Fr n ds (upd (zo0 ops u 0 m++F) (ze0 ops i) v') (a.put ops[i].dst v):=by
   cases hd:ops[i].dst with
   |none=>rw [hdst,hd];exact ha
   |some d=>
    have hdn':d<n:=hdn i d him (by rw [hio];simpa using hd);have hvv:v=v':=by
     rw [hdst,hd] at hf;have:=(hf.val d v' (by simp [upd,PF.get])).1;simp only [Act.put] at this;rw [Y7,Array.getElem?_setIfInBounds_self_of_lt (by rw [hb.size];exact hdn')] at this;simpa using this
    subst hvv;rw [hdst,hd];exact ha.upd (by simp [zh5,U8,hdn']) v
  exact ⟨hch,v',ha2,hq⟩
 ·intro e a' w' he hq;cases e<;>first|exact absurd rfl he|exact hq.elim
 ·rintro d w' ⟨_,v',hf,_⟩
  have:=hf.defers;have h2:({jb9 (GF u) a with defers:=d::(jb9 (GF u) a).defers}.put ops[i].dst undef).defers=d::(jb9 (GF u) a).defers:=by
   cases ops[i].dst<;>rfl
  rw [h2] at this;have h3:(jb9 (GF u) a).defers=ds:=ha.defers;rw [h3] at this;exact absurd (congrArg List.length this) (by simp)
def CW.regionG {id:Nat} (m:Nat) (fx:List (Option Value)) (GF:(Nat->Value)->PF) (hGF: ∀u,zo0 ops (fxU fx u) 0 m++F=GF u) (hdep:vk0 ops m=true) (CL:List (Nat×Nat)) (Pr:Nat->World->Prop) (hPr0: ∀j,Pr j {w with drawn:=w.drawn+1}) (hPr: ∀i j w w',i≠j->Pr j w->Chg (cL CL i) w w'->Pr j w') (FS:List Nat) (AL:List (Nat×Nat×Option Nat)) (hAL:(AL.all fun p=>(zf2 ops p.1).contains p.2.1)=true) (W:World->Prop) (R:Nat->Value->World->Prop) (hOld: ∀j x w,FS.contains j=true->R j x w->zs5 x=none\/bk (zs5 x)<w.heap.size) (hFS:(FS.all fun j=>(fx.getD j none).isNone)=true) (hm:P.follows .mixedOrders=true) (hsuf:(Nat.ble m ops.size&&(qr6 ops m&&(ze6 (ym5 ops m)&&(zk9 ops&&zh0 ops m))))=true)
  (hd:(ym5 ops m).all (fun d=>Nat.blt d n)=true) (hW0:W {w with drawn:=w.drawn+1}) (hW: ∀i w w',W w->Chg (cL CL i) w w'->W w') (hR: ∀i j v w w',i≠j->R j v w->Chg (cL CL i) w w'->R j v w')
  (ob:qt9 P ops n ds fx GF W R (fun i wq v=>FS.contains i=true->zs5 v=none\/wq.heap.size<=bk (zs5 v)) AL CL Pr 0 m)
  (K: ∀u w,W w->(∀j,j<m->fx.getD j none=none->R j (u j) w)->(∀j k,j<m->k<m->j≠k->FS.contains j=true->FS.contains k=true->Apart (zs5 (u j)) (zs5 (u k)))->(∀p∈AL,p.1<m->u p.1=prj p.2.2 (u p.2.1))->WR P ops Q m n ds (GF u) w):CW P (.region id ops true) Q n ds F w:=by
 have hsuf':=hsuf;simp only [X3] at hsuf';obtain ⟨hmle,_,hdis,_,hgb⟩:=hsuf';have hmle:=Y1 hmle;have hdn: ∀i d,i<m->(ops[i]?).bind (·.dst)=some d->d<n:=by
  intro i d hi hb;rw [Y8] at hd;have:=hd d (by unfold ym5;rw [T1];exact ⟨i,U9.2 hi,hb⟩);simpa [U8] using this
 have hnone: ∀j,FS.contains j=true->fx.getD j none=none:=by
  intro j hj;rw [Y8] at hFS;simpa using hFS j (by simpa using hj)
 have conv: ∀(f i:Nat),i+f<=m->qt9 P ops n ds fx GF W R (fun i wq v=>FS.contains i=true->zs5 v=none\/wq.heap.size<=bk (zs5 v)) AL CL Pr i f->Obs P ops Q n ds m F W (RX fx R) (fun i wq v=>FS.contains i=true->zs5 v=none\/wq.heap.size<=bk (zs5 v)) AL CL Pr i f:=by
  intro f;induction f with
  |zero=>intro i _ _;trivial
  |succ f ih=>
   intro i hi h;exact ⟨kg1 hmle hGF hdep hgb hdis hdn (by omega) h.1,ih (i+1) (by omega) h.2⟩
 refine CW.regionF m CL Pr hPr0 hPr FS AL hAL W (RX fx R) ?_ hm hsuf hd hW0 hW ?_ (conv m 0 (by omega) ob) ?_
 ·intro j x w hj hx;unfold RX at hx;rw [hnone j hj] at hx;exact hOld j x w hj hx
 ·intro i j v w w' hij hv hc;unfold RX at hv⊢;split
  ·rename_i x hx;rw [hx] at hv;exact hv
  ·rename_i hx;rw [hx] at hv;exact hR i j v w w' hij hv hc
 ·intro u w hWw hr hap hal a ha;refine K u w hWw (fun j hj hn=>by have:=hr j hj;unfold RX at this;rw [hn] at this;exact this) hap hal a ?_;rw [<-hGF u];have: ∀(f i:Nat),i+f<=m->zo0 ops (fxU fx u) i f=zo0 ops u i f:=by
   intro f;induction f with
   |zero=>intro i _;rfl
   |succ f ih=>
    intro i hi;have he:fxU fx u i=u i:=by
     have:=hr i (by omega);unfold RX at this;unfold fxU;cases hf:fx.getD i none with
     |none=>rfl
     |some x=>rw [hf] at this;simp [this]
    unfold zo0;rw [ih (i+1) (by omega),he]
  rw [this m 0 (by omega)];exact ha
def zx0 {fx:List (Option Value)} {GF:(Nat->Value)->PF} {W:World->Prop} {R:Nat->Value->World->Prop} {FS:List Nat} {AL:List (Nat×Nat×Option Nat)} {CL:List (Nat×Nat)} {Pr:Nat->World->Prop}: ∀(k:Nat) (i f:Nat),
  (∀u w,(List.range' i k).map (fun j=>zt7 P (ops.extract 0 (j+1)) j n (GF u) w)=(List.range' i k).map (fun j=>some (ze0 ops j,.ok (.value ((fx.getD j none).getD undef)) w)))->
  ((List.range' i k).all fun j=>(fx.getD j none).isSome&&(!FS.contains j&&AL.all fun p=>p.1 != j))=true->
  qt9 P ops n ds fx GF W R (fun i wq v=>FS.contains i=true->zs5 v=none\/wq.heap.size<=bk (zs5 v)) AL CL Pr (i+k) f->qt9 P ops n ds fx GF W R (fun i wq v=>FS.contains i=true->zs5 v=none\/wq.heap.size<=bk (zs5 v)) AL CL Pr i (k+f)
 |0,i,f,_,_,h=>by simpa using h
 |k+1,i,f,he,hc,h=>by
  rw [Nat.add_right_comm k 1 f];simp only [List.range'_succ,U1,List.cons.injEq,J1,X3] at he hc;refine ⟨?_,zx0 k (i+1) f (fun u w=>(he u w).2) hc.2 (by rw [V1,J6 1 k];exact h)⟩;intro u w _ _ _ _;obtain ⟨⟨h1,h2,h3⟩,_⟩:=hc;obtain ⟨x,hx⟩:=N6.1 h1;have hr:=(he u w).1;rw [hx] at hr;refine WR.valR hr fun a ha=>?_;have hnil:(ops.extract 0 (i+1)).toList.drop (i+1)= []:=M4 (by simp;omega);rw [hnil];refine ⟨Chg.refl _ _,x,ha,⟨fun h=>?_,ko9 h3⟩,?_⟩
  ·simp only [V4] at h2;rw [h2] at h;cases h
  ·unfold RX;rw [hx]
end
end Go.V
namespace Go.V
open Go.RowKit
def ge5 {α β:Type} (a:α) (f:α->β):β:=f a
def gd2 {α β:Type} (o:Option α) (n:β) (f:α->β):β:=match o with|some x=>f x|none=>n
@[simp] theorem kx3 {α β : Type} (a : α) (f : α -> β) : ge5 a f = f a := rfl
@[simp] theorem kv3 {α β : Type} (n : β) (f : α -> β) : gd2 none n f = n := rfl
@[simp] theorem kv4 {α β : Type} (a : α) (n : β) (f : α -> β) : gd2 (some a) n f = f a := rfl
section
variable {P:Program} {w w':World} {α:Type} {f:FuncId} {args:Array Value}
end
def gc1 (k:IntKind) (x y:Int):Int:=k.wrap ((BitVec.ofInt k.bits x&&&BitVec.ofInt k.bits y).toNat:Int)
def bOr (k:IntKind) (x y:Int):Int:=k.wrap ((BitVec.ofInt k.bits x|||BitVec.ofInt k.bits y).toNat:Int)
def kj7 (k:IntKind) (x y:Int):Int:=k.wrap ((BitVec.ofInt k.bits x^^^BitVec.ofInt k.bits y).toNat:Int)
def qu4 (k:IntKind) (x y:Int):Int:=k.wrap ((BitVec.ofInt k.bits x&&& ~~~BitVec.ofInt k.bits y).toNat:Int)
def ge0 (k:IntKind) (x y:Int):Int:=k.wrap (x*2^(min y.toNat k.bits))
def ko1 (k:IntKind) (x y:Int):Int:=x.fdiv (2^(min y.toNat k.bits))
def jp1 (x y:Int):Int:=if y<x then y else x
def gc4 (x y:Int):Int:=if y>x then y else x
section
variable {P:Program} {ops:Array Oper} {k n:Nat} {F:PF} {dst:Option Tmp}
end
section
variable {P:Program}
def ys6 (P:Program) (t:TypeId) (cs:Array Value) (off:Nat):Option Value:=
 match P.underlying t with
 |some d=>(match ya1 d with|true=>(match P.info? t with|some i=>some (.agg (cs.extract off (off+i.size)))|none=>none)|false=>cs[off]?)
 |none=>none
def yk6 {t:TypeId} {cs:Array Value} {off:Nat} {v:Value} (h:ys6 P t cs off=some v) (w:World):(part t cs off).run P w=.ok v w:=by
 unfold ys6 at h;split at h
 ·rename_i d hd;unfold part;rw [Sem.run_bind,zu8 hd];split at h
  ·rename_i ha;rw [ha];split at h
   ·rename_i i hi;simp only [X0] at h;subst h;simp [sizeOf,typeInfo,hi]
   ·cases h
  ·rename_i ha;rw [ha];simp [h]
 ·cases h
def vm3 (P:Program) (rec:TypeId->Value->Value->Option Bool) (xs ys:Array Value):List Field->Option Bool
 | []=>some true
 | [f]=>match f.name== "_" with|true=>some true|false=>(match ys6 P f.type xs f.offset,ys6 P f.type ys f.offset with|some a,some b=>rec f.type a b|_,_=>none)
 |f::g::r=>match f.name== "_" with|true=>vm3 P rec xs ys (g::r)|false=>(match ys6 P f.type xs f.offset,ys6 P f.type ys f.offset with|some a,some b=>(match rec f.type a b,vm3 P rec xs ys (g::r) with|some p,some q=>some (p&&q)|_,_=>none)|_,_=>none)
def eqB (P:Program):Nat->TypeId->Value->Value->Option Bool
 |0,_,_,_=>none
 |d+1,t,x,y=>
  match P.underlying t,x,y with
  |some .bool,.bool a,.bool b=>some (a==b)
  |some (.int _),.int j a,.int j' b=>match decide (j=j') with|true=>some (a==b)|false=>none
  |some .string,.string a,.string b=>some (a==b)
  |some (.struct fs),.agg xs,.agg ys=>match P.stoodInHeld t with|true=>none|false=>vm3 P (eqB P d) xs ys fs.toList
  |_,_,_=>none
def jb2 (d:Nat) (xs ys:Array Value) (f:Field):Sem (ForInStep (Option Bool×Unit)):=
 if f.name≠ "_" then do
  let a<-part f.type xs f.offset
  let b<-part f.type ys f.offset
  let r<-Op.equalIn d f.type a b
  if (!r)=true then pure (ForInStep.done (some false,())) else pure (ForInStep.yield (none,()))
 else pure (ForInStep.yield (none,()))
def jh8 {xs ys:Array Value} {d:Nat} (hrec: ∀(t:TypeId) (x y:Value) (b:Bool),eqB P d t x y=some b-> ∀w:World,(Op.equalIn d t x y).run P w=.ok b w):
  ∀(fs:List Field) (b:Bool),vm3 P (eqB P d) xs ys fs=some b-> ∀w:World,
  (forIn (m:=Sem) fs ((none,()):Option Bool×Unit) (fun f _=>jb2 d xs ys f)).run P w=.ok (if b then (none,()) else (some false,())) w
 | [],b,h,w=>by
  simp only [vm3,X0] at h;subst h;rfl
 |f::r,b,h,w=>by
  have one: ∀(c:Bool),f.name≠ "_" ->(match ys6 P f.type xs f.offset,ys6 P f.type ys f.offset with|some a,some b=>eqB P d f.type a b|_,_=>none)=some c->
    (jb2 d xs ys f).run P w=.ok (if c then ForInStep.yield (none,()) else ForInStep.done (some false,())) w:=by
   intro c hn hc;split at hc
   ·rename_i x y hx hy;unfold jb2;rw [if_pos hn,Sem.run_bind,yk6 hx];simp only [Result.andThen_ok];rw [Sem.run_bind,yk6 hy];simp only [Result.andThen_ok];rw [Sem.run_bind,hrec _ _ _ _ hc];cases c<;>rfl
   ·cases hc
  have skip:f.name= "_" ->(jb2 d xs ys f).run P w=.ok (ForInStep.yield (none,())) w:=by
   intro hn;unfold jb2;rw [if_neg (by simpa using hn)];rfl
  rw [List.forIn_cons]
  match r,h with
  | [],h=>
   unfold vm3 at h;split at h
   ·rename_i hn;simp only [X0] at h;subst h;rw [Sem.run_bind,skip (by simpa using hn)];rfl
   ·rename_i hn;rw [Sem.run_bind,one b (by simpa using hn) h];cases b<;>rfl
  |g::r,h=>
   unfold vm3 at h;split at h
   ·rename_i hn;rw [Sem.run_bind,skip (by simpa using hn)];exact jh8 hrec (g::r) b h w
   ·rename_i hn;have hn':f.name≠ "_" :=by simpa using hn
    split at h
    ·rename_i x y hx hy;split at h
     ·rename_i p q hp hq;simp only [X0] at h;subst h;rw [Sem.run_bind,one p hn' (by rw [hx,hy];exact hp)];cases p
      ·rfl
      ·exact jh8 hrec (g::r) q hq w
     ·cases h
    ·cases h
def ju2: ∀(d:Nat) (t:TypeId) (x y:Value) (b:Bool),eqB P d t x y=some b-> ∀w:World,(Op.equalIn d t x y).run P w=.ok b w
 |0,_,_,_,_,h,_=>by simp [eqB] at h
 |d+1,t,x,y,b,h,w=>by
  unfold eqB at h;unfold Op.equalIn;split at h
  ·rename_i a c ht;simp only [X0] at h;subst h;simp [underlying,ht]
  ·rename_i kk j a j' c ht;split at h
   ·rename_i hj;simp only [X0] at h;subst h;have:j=j':=by simpa using hj
    subst this;simp [underlying,ht]
   ·cases h
  ·rename_i a c ht;simp only [X0] at h;subst h;simp [underlying,ht]
  ·rename_i fs xs ys ht;split at h
   ·cases h
   ·rename_i hst;have hu:(underlying t).run P w=.ok (.struct fs) w:=by simp [underlying,ht]
    rw [Sem.run_bind,hu];simp only [Result.andThen_ok];have hp:(program).run P w=.ok P w:=rfl;rw [Sem.run_bind,hp];simp only [Result.andThen_ok,hst];have key:=jh8 (P:=P) (d:=d) (xs:=xs) (ys:=ys) (ju2 d) fs.toList b h w;rw [<-Array.forIn_toList];simp only [R6,if_false];rw [Sem.run_bind];unfold jb2 at key;rw [key];cases b<;>rfl
  ·cases h
end
end Go.V
namespace Go.V
open Go.RowKit
def Mp (w:World) (g:Nat) (es:Array MapEntry) (c:Nat):Prop:=w.heap[g]?=some (.map es c)
def Mp.lt {w:World} {g:Nat} {es:Array MapEntry} {c:Nat} (h:Mp w g es c):g<w.heap.size:=(Y3.1 h).1
def Mp.chg {S:List Nat} {w w':World} {g:Nat} {es:Array MapEntry} {c:Nat} (h:Mp w g es c) (hc:Chg S w w') (hg:g∉S):Mp w' g es c:=(hc.block g h.lt hg).trans h
structure NewM (w w':World) (g:Nat) (es:Array MapEntry) (c:Nat):Prop where
 blk:Mp w' g es c
 chg:Chg [] w w'
 fresh:w.heap.size<=g
def yu7 (P:Program) (t:TypeId):Option (TypeId×TypeId×TypeDesc):=
 match P.underlying t with
 |some (.map kt et)=>(match P.underlying kt with|some d=>some (kt,et,d)|none=>none)
 |_=>none
def zc6 {P:Program} {t kt et:TypeId} {d:TypeDesc} (h:yu7 P t=some (kt,et,d)):P.underlying t=some (.map kt et)/\P.underlying kt=some d:=by
 unfold yu7 at h;split at h
 ·rename_i kt' et' hu;split at h
  ·rename_i d' hd;simp only [X0,X7] at h;obtain ⟨rfl,rfl,rfl⟩:=h;exact ⟨hu,hd⟩
  ·cases h
 ·cases h
section
variable {P:Program} {ops:Array Oper} {Q:Exit->Act->World->Prop} {k n:Nat} {ds:List Deferred} {F:PF} {w:World}
def zs8 (ops:Array Oper) (k n:Nat) (F:PF):Option (Option Tmp×TypeId):=
 match dec ops k n F with|some ⟨dst,.makeMap t none,_,_,_,_⟩=>some (dst,t)|_=>none
def WR.mkMap {dst:Option Tmp} {t:TypeId} (hd:zs8 ops k n F=some (dst,t))
  (K: ∀g w',NewM w w' g #[] 0->WR P ops Q (k+1) n ds (upd F dst (.map (some g))) w'):WR P ops Q k n ds F w:=by
 unfold zs8 at hd;split at hd
 ·rename_i d t' ty pos af gd hdec;simp only [X0,X7] at hd;obtain ⟨rfl,rfl⟩:=hd;refine .val hdec (v:=.map (some w.heap.size)) (w':=w.alloc (.map #[] 0)) ?_ (K _ _ ⟨(MapKept.heap_alloc w _).1,Chg.alloc w _,W8 _⟩);simp [execOp,Instr.makeMap]
 ·cases hd
def zn1 (ops:Array Oper) (k n:Nat) (F:PF):Option (Option Tmp×TypeId×Value×Value×Bool):=
 match dec ops k n F with|some ⟨dst,.lookup t m x co,_,_,_,_⟩=>some (dst,t,evD F m,evD F x,co)|_=>none
def lkV (z:Value):Bool->Option (Nat×Value)->Value
 |true,some (_,v)=>.tuple #[v,.bool true]
 |true,none=>.tuple #[z,.bool false]
 |false,some (_,v)=>v
 |false,none=>z
def yf2 {dst:Option Tmp} {t kt et:TypeId} {d:TypeDesc} {g c:Nat} {es:Array MapEntry} {x z:Value} {co:Bool} (hm:Mp w g es c) (hd:zn1 ops k n F=some (dst,t,.map (some g),x,co)) (hi:yu7 P t=some (kt,et,d)) (hk:MapKept.IsKey d x)
  (r:Option (Nat×Value)) (hf:Instr.findNow d x es.toList 0=some r) (hz:(P.info? et).bind (·.zero)=some z) (v:Value) (hv:lkV z co r=v):zt7 P ops k n F w=some (dst,.ok (.value v) w):=by
 obtain ⟨hu,hkd⟩:=zc6 hi;subst hv;unfold zn1 at hd;split at hd
 ·rename_i d' t' m' x' co' ty pos af gd hdec;simp only [X0,X7] at hd;obtain ⟨rfl,rfl,h1,h2,rfl⟩:=hd;unfold zt7;rw [hdec];have hb:w.heap[g]?=some (.map es c):=hm;have hzr:(zeroValue et).run P w=.ok z w:=by
   cases hin:P.info? et with
   |none=>rw [hin] at hz;cases hz
   |some i=>rw [hin] at hz;simp at hz;simp [zeroValue,typeInfo,hin,hz]
  cases r with
  |none=>cases co'<;>simp [execOp,h1,h2,Instr.lookup,run_underlying hu,MapKept.run_getObj_map hb,MapKept.run_checkKey hkd hk,MapKept.run_findKey hkd hf,Result.andThen,hzr,lkV]
  |some jv=>obtain ⟨j,v⟩:=jv;cases co'<;>simp [execOp,h1,h2,Instr.lookup,run_underlying hu,MapKept.run_getObj_map hb,MapKept.run_checkKey hkd hk,MapKept.run_findKey hkd hf,Result.andThen,lkV]
 ·cases hd
end
end Go.V
namespace Go.V
open Go.RowKit Go.ChangeShapes Go.WideShapes Go.ChangeAt Go.Deep
def qf5 {α β:Type} {f:α->Option β}: ∀ {xs:List α} {l:List β},xs.mapM f=some l->l.length=xs.length/\ ∀(k:Nat) (x:α),xs[k]?=some x->f x=l[k]?
 | [],l,h=>by
  simp at h;subst h;exact ⟨rfl,fun k x hx=>by simp at hx⟩
 |x::xs,l,h=>by
  rw [List.mapM_cons] at h;cases hx:f x with
  |none=>rw [hx] at h;simp at h
  |some y=>
   rw [hx] at h;cases hr:xs.mapM f with
   |none=>rw [hr] at h;simp at h
   |some r=>
    rw [hr] at h;simp only [Option.pure_def,Option.bind_eq_bind,R1,X0] at h;subst h;obtain ⟨h1,h2⟩:=qf5 hr;refine ⟨by simp [h1],fun k z hz=>?_⟩;cases k with
    |zero=>simp at hz;subst hz;simpa using hx
    |succ k=>simp at hz;simpa using h2 k z hz
def jo2 {w:World} {base:Nat} {a:Addr} {n:Nat} {cs:List Value} (h:w.cells? base a n=some cs):cs.length=n/\ ∀(k:Nat) (u:Value),cs[k]?=some u->w.cell? (a.add k)=some u:=by
 unfold World.cells? at h;split at h
 ·obtain ⟨h1,h2⟩:=qf5 h;refine ⟨by simpa using h1,fun k u hu=>?_⟩;have hk:k<n:=by
   have:=(X2.1 hu).1;rw [h1] at this;simpa using this
  rw [h2 k k (by simp [hk]),hu]
 ·cases h
section
variable {H:Type} {enc:TypeId×Value->H} {P:Program} {w:World} {t e:TypeId}
def retLaw {w w':World} {v:Value} {e:Ending} (h:zp6 w v e w'):e=.returned v/\Chg [] w w':=by
 cases e with
 |returned u=>obtain ⟨h1,h2⟩:=h;subst h2;exact ⟨rfl,h1⟩
 |panicked ch=>exact h.elim
 |outgrown=>exact h.elim
def qd4 (hl:laidOutB P=true) {W W':World} (hb:Below W.heap.size W W') {sp:Nat->Bool}: ∀ {ts:List TypeId} {vs:List Value} {ds:List (DataW H)} {ps:List MemPlace},(ts.all fun t=>P.readableRec t&&decide (t<P.types.size))=true->
  DataW.TrodAll enc P W 0 (fun _=>true) true ts vs ds ps->(∀x∈ps,x.block<W.heap.size)->(∀x∈ps,sp x.block=true)->DataW.TrodAll enc P W' 0 sp true ts vs ds ps
 | [],[],[],_,_,h,_,_=>h
 |t::ts,v::vs,d::ds,ps,hr,h,hlt,hsp=>by
  obtain ⟨p,q,h1,h2,rfl⟩:=h;simp only [J1,X3,decide_eq_true_eq] at hr;exact ⟨p,q,WideElems.Trod_stays hl hr.1.1 hr.1.2 h1 (fun x hx=>hb.same (hlt x (by simp [hx]))) (fun x hx=>hsp x (by simp [hx])),qd4 hl hb (by simpa using hr.2) h2 (fun x hx=>hlt x (by simp [hx])) (fun x hx=>hsp x (by simp [hx])),rfl⟩
 | [],_::_,_,_,_,h,_,_=>by simp [DataW.TrodAll] at h
 | [],[],_::_,_,_,h,_,_=>by simp [DataW.TrodAll] at h
 |_::_,[],_,_,_,h,_,_=>by simp [DataW.TrodAll] at h
 |_::_,_::_,[],_,_,h,_,_=>by simp [DataW.TrodAll] at h
def lawPost {f:Func} {s:ChangeSpec} {tb:TypeId} {apart fresh handsOn:Bool} {W W':World} {args:Array Value} {ds gs:List (DataW H)} {before:List MemPlace} (hl:laidOutB P=true)
  (hW:DataW.Whole enc P f.params.toList s.vars apart W args.toList ds gs before) (hv:s.vars= []) (hs:s.fn H (ds++gs)= {results:= [.lit (.bool true)],args:=ds,vars:= []})
  (hrt:f.resultTypes= #[tb]) (hbt:P.underlying tb=some .bool) (hr:(f.params.toList.all fun t=>P.readableRec t&&decide (t<P.types.size))=true) (hc:Chg [] W W'):
  s.post enc P f apart fresh handsOn false W args (.bool true) W':=by
 have hlt:=hW.lt;have hW0:=hW;obtain ⟨p,q,hA,hV,rfl,hfz,hnd⟩:=hW;rw [hv] at hV;obtain ⟨rfl,rfl⟩:=trodVars_none hV;have hb:=hc.below;refine ⟨ds,[],p++ [],[],p,[],hW0,?_,?_,?_,hb.frame _,fun h=>by cases h⟩
 ·rw [hs,hrt];exact trodAll_mk1 (shut_bool hbt true)
 ·rw [hs];exact qd4 hl hb hr hA (fun x hx=>hlt x (by simpa using hx)) (fun x hx=>by simpa using hlt x (by simpa using hx))
 ·rw [hs,hv];rfl
end
end Go.V
