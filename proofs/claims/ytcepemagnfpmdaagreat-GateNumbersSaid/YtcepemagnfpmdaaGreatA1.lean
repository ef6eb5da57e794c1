import Derived.Orders
import Derived.Deep.Quiet
import Derived.KernelRfl
import Derived.Below
import Derived.WalkKit
import Derived.Recover
import Derived.MapKept
import Derived.ProofKit
import Derived.OpenShut
import Derived.Carry
import Derived.JoinedCond
import Derived.Deep.Slices
set_option linter.defProp false
namespace Go.V
open Go.RowKit
abbrev X0:= @Option.some.injEq
abbrev X1:= @Nat.eq_of_beq_eq_true
abbrev X2:= @List.getElem?_eq_some_iff
abbrev X3:= @Bool.and_eq_true
abbrev X4:= @List.mem_append
abbrev X5:= @Option.some.inj
abbrev X6:= @List.mem_of_getElem?
abbrev X7:= @Prod.mk.injEq
abbrev X8:= @List.getElem?_append_left
abbrev X9:= @List.length_append
abbrev Y0:= @List.getElem?_eq_getElem
abbrev Y1:= @Nat.le_of_ble_eq_true
abbrev Y2:= @List.getD_eq_getElem?_getD
abbrev Y3:= @Array.getElem?_eq_some_iff
abbrev Y4:= @List.getElem?_cons_zero
abbrev Y5:= @List.getElem?_eq_none
abbrev Y6:= @List.length_take
abbrev Y7:= @Array.getD_eq_getD_getElem?
abbrev Y8:= @List.all_eq_true
abbrev Y9:= @List.mem_iff_getElem?
abbrev Z0:= @List.mem_cons
abbrev Z1:= @Int.toNat_natCast
abbrev Z2:= @List.getElem?_append_right
abbrev Z3:= @List.getElem?_take
abbrev Z4:= @List.mem_cons_of_mem
abbrev Z5:= @List.getElem?_set_ne
abbrev Z6:= @Array.getElem?_eq_getElem
abbrev Z7:= @List.take_append_of_le_length
abbrev Z8:= @Option.map_some
abbrev Z9:= @List.length_replicate
abbrev Q0:= @List.getElem?_set_self
abbrev Q1:= @List.length_set
abbrev Q2:= @List.append_assoc
abbrev Q3:= @List.take_of_length_le
abbrev Q4:= @List.mem_singleton
abbrev Q5:= @List.getElem?_drop
abbrev Q6:= @List.length_drop
abbrev Q7:= @List.take_append_drop
abbrev Q8:= @Nat.mul_le_mul_right
abbrev Q9:= @List.mem_filter
abbrev W0:= @List.getElem?_map
abbrev W2:= @Nat.ble_eq_true_of_le
abbrev W3:= @Nat.le_refl
abbrev W4:= @List.map_cons
abbrev W5:= @Nat.zero_add
abbrev W6:= @List.mem_map
abbrev W7:= @Nat.le_trans
abbrev W8:= @List.length_cons
abbrev W9:= @Nat.blt_eq
abbrev U0:= @List.all_cons
abbrev U1:= @Nat.add_assoc
abbrev U2:= @List.mem_cons_self
abbrev U3:= @Option.getD_some
abbrev U4:= @Bool.not_eq_true'
abbrev U5:= @List.length_map
abbrev U6:= @Nat.lt_of_lt_of_le
abbrev U7:= @Nat.succ_mul
abbrev U8:= @List.flatMap_cons
abbrev U9:= @Nat.add_mul
abbrev V0:= @List.map_append
abbrev V1:= @List.mem_flatMap
abbrev V2:= @List.mem_range
abbrev V3:= @Nat.min_eq_left
abbrev V4:= @Nat.beq_refl
abbrev V5:= @Nat.add_comm
abbrev V6:= @Nat.add_zero
abbrev V7:= @Bool.and_self
abbrev V8:= @List.drop_eq_getElem_cons
abbrev V9:= @Classical.choose_spec
abbrev J0:= @List.map_nil
abbrev J1:= @List.append_nil
abbrev J2:= @Nat.lt_trichotomy
abbrev J3:= @Bool.or_eq_true
abbrev J4:= @List.mem_of_mem_take
abbrev J5:= @List.cons_append
abbrev J6:= @Nat.add_sub_cancel_left
abbrev J7:= @List.mem_or_eq_of_mem_set
abbrev J8:= @Nat.zero_mul
abbrev J9:= @Nat.zero_le
abbrev K1:= @List.flatMap_append
abbrev K3:= @List.set_getElem_self
abbrev K4:= @List.not_mem_nil
abbrev K5:= @Array.toList_map
abbrev K6:= @List.contains_iff_mem
abbrev K7:= @List.take_length
abbrev K8:= @List.set_cons_zero
abbrev K9:= @List.reverse_cons
abbrev M0:= @List.eq_nil_of_length_eq_zero
abbrev M1:= @List.nil_append
abbrev M2:= @Nat.mod_eq_of_lt
abbrev M3:= @Array.length_toList
abbrev M4:= @Option.isSome_iff_exists
abbrev M5:= @List.drop_eq_nil_of_le
abbrev M6:= @Array.toList_range
abbrev M7:= @Nat.eq_zero_or_pos
abbrev M8:= @List.drop_of_length_le
abbrev M9:= @List.append_eq_nil_iff
abbrev N0:= @List.length_eraseIdx_of_lt
abbrev PF:=List (Nat×Value)
def PF.get:PF->Nat->Option Value
 | [],_=>none
 |(j,v)::r,i=>match Nat.beq j i with|true=>some v|false=>PF.get r i
def upd (F:PF) (dst:Option Tmp) (v:Value):PF:=match dst with|some d=>(d,v)::F|none=>F
def ev (F:PF):Operand->Option Value
 | .tmp t=>F.get t
 | .const v=>some v
 | .global g=>some (.pointer (some ⟨g,0,none⟩))
 | .func f=>some (.func (.func f) #[] #[])
def evD (F:PF) (x:Operand):Value:=(ev F x).getD undef
structure Fr (n:Nat) (ds:List Deferred) (F:PF) (a:Act):Prop where
 size:a.tmps.size=n
 defers:a.defers=ds
 val: ∀i v,F.get i=some v->a.tmps.getD i undef=v/\i<n
def Fr.eval {n:Nat} {ds:List Deferred} {F:PF} {a:Act} (h:Fr n ds F a) {x:Operand} {v:Value} (hx:ev F x=some v):a.eval x=v:=by
 cases x with
 |tmp t=>exact (h.val t v hx).1
 |const u=>simpa [ev,Act.eval] using hx
 |global g=>simpa [ev,Act.eval] using hx
 |func f=>simpa [ev,Act.eval] using hx
def zj7 (n:Nat):Option Tmp->Bool|some d=>Nat.blt d n|none=>true
def Fr.upd {n:Nat} {ds:List Deferred} {F:PF} {a:Act} (h:Fr n ds F a) {dst:Option Tmp} (hd:zj7 n dst=true) (v:Value):Fr n ds (upd F dst v) (a.put dst v):=by
 cases dst with
 |none=>exact h
 |some d=>
  have hdn:d<n:=by simpa [zj7,W9] using hd
  refine ⟨by simp [Act.put,h.size],by simp [Act.put,h.defers],?_⟩;intro i u hu;simp only [Go.V.upd,PF.get] at hu;split at hu
  ·rename_i hb;have:=X1 hb;subst this;simp only [X0] at hu;subst hu;refine ⟨?_,hdn⟩;simp only [Act.put];rw [Y7,Array.getElem?_setIfInBounds_self_of_lt (by rw [h.size];exact hdn)];rfl
  ·rename_i hb;have hne:d≠i:=fun e=>by subst e;simp at hb
   have:=h.val i u hu;refine ⟨?_,this.2⟩;simp only [Act.put];rw [Y7,Array.getElem?_setIfInBounds_ne hne,<-Array.getD_eq_getD_getElem?];exact this.1
def yb0 (ops:Array Oper) (F:PF) (j:Nat):Option (Option Bool):=
 match (ops[j]?).bind (·.dst) with
 |some d=>match F.get d with|some (.bool b)=>some (some b)|some (.tuple _)=>some none|_=>none
 |none=>none
def jj7 {ops:Array Oper} {F:PF} {j:Nat} {b:Option Bool} {n:Nat} {ds:List Deferred} {a:Act} (h:Fr n ds F a) (hg:yb0 ops F j=some b):yielded ops a.tmps j=b:=by
 unfold yb0 at hg;unfold yielded;split at hg
 ·rename_i d hd;rw [hd];have key: ∀v,F.get d=some v->a.tmps[d]?=some v:=by
   intro v hv;have:=h.val d _ hv;have hlt:d<a.tmps.size:=by rw [h.size];exact this.2
   have e:=this.1;rw [Y7,Z6 hlt] at e;rw [Z6 hlt];simpa using e
  split at hg
  ·rename_i c hc;simp only [Option.bind_some,key _ hc];simpa using hg
  ·rename_i c hc;simp only [Option.bind_some,key _ hc];simpa using hg
  ·cases hg
 ·cases hg
def zc8 (o:Oper):Bool:=match o.op with| .select ..=>false|_=>true
def ye3 (F:PF) (o:Oper):Bool:=o.op.operands.toList.all fun x=>(ev F x).isSome
def zv8 (ops:Array Oper) (F:PF) (o:Oper):Option Bool:=
 match o.guard with
 |none=>some true
 |some (j,b)=>(yb0 ops F j).map fun c=>match c,b with|some true,true=>true|some false,false=>true|_,_=>false
def yo5 {ops:Array Oper} {F:PF} {o:Oper} {b:Bool} {n:Nat} {ds:List Deferred} {a:Act} (h:Fr n ds F a) (hg:zv8 ops F o=some b):Region.wanted o (yielded ops a.tmps)=b:=by
 unfold zv8 at hg;unfold Region.wanted;split at hg
 ·rename_i hn;rw [hn];simpa using hg
 ·rename_i j c hn;rw [hn];cases hv:yb0 ops F j with
  |none=>rw [hv] at hg;cases hg
  |some d=>
   rw [hv] at hg;simp only [Z8,X0] at hg;simp only [jj7 h hv];subst hg;rcases d with _|d
   ·cases c<;>rfl
   ·cases d<;>cases c<;>rfl
def dec (ops:Array Oper) (k n:Nat) (F:PF):Option Oper:=
 match ops[k]? with
 |none=>none
 |some o=>
  match zv8 ops F o with
  |some true=>match (zj7 n o.dst&&(zc8 o&&ye3 F o)) with|true=>some o|false=>none
  |_=>none
def zl8 {ops:Array Oper} {k n:Nat} {F:PF} {o:Oper} (h:dec ops k n F=some o):
  ops[k]?=some o/\zj7 n o.dst=true/\(∀cs b,o.op≠.select cs b)/\(∀x∈o.op.operands,(ev F x).isSome=true)/\
  ∀ {ds:List Deferred} {a:Act},Fr n ds F a->Region.wanted o (yielded ops a.tmps)=true:=by
 unfold dec at h;split at h
 ·cases h
 ·rename_i o' ho;split at h
  ·rename_i hw;split at h
   ·rename_i hb;simp only [X0] at h;subst h;simp only [X3] at hb;refine ⟨ho,hb.1,?_,?_,fun hfr=>yo5 hfr hw⟩
    ·intro cs b e;have:=hb.2.1;simp [zc8,e] at this
    ·intro x hx;have:=hb.2.2;unfold ye3 at this;rw [Y8] at this;exact this x (Array.mem_toList_iff.2 hx)
   ·cases h
  ·cases h
def vb7 {n:Nat} {ds:List Deferred} {F:PF} {a:Act} {o:Oper} (h:Fr n ds F a) (hs: ∀cs b,o.op≠.select cs b) (hp: ∀x∈o.op.operands,(ev F x).isSome=true):
  execOp a.eval o=execOp (evD F) o:=
 execOp_congr o hs fun x hx=>by
  obtain ⟨v,hv⟩:=M4.1 (hp x hx);rw [h.eval hv];simp [evD,hv]
def WR (P:Program) (ops:Array Oper) (Q:Exit->Act->World->Prop) (k n:Nat) (ds:List Deferred) (F:PF) (w:World):Prop:=
 ∀a,Fr n ds F a->wpList P ops Q (ops.toList.drop k) a w
def CW (P:Program) (c:Code) (Q:Exit->Act->World->Prop) (n:Nat) (ds:List Deferred) (F:PF) (w:World):Prop:=
 ∀a,Fr n ds F a->c.wp P Q a w
section
variable {P:Program} {ops:Array Oper} {Q:Exit->Act->World->Prop} {k n:Nat} {ds:List Deferred} {F F':PF} {w w':World}
def zw8 {o:Oper} (h:ops[k]?=some o):ops.toList.drop k=o::ops.toList.drop (k+1):=by
 have hlt:k<ops.toList.length:=by
  have:=(Y3.1 h).1;simpa using this
 rw [V8 hlt];congr 1;have:=(Y3.1 h).2;simpa using this
def WR.step {o:Oper} (hd:dec ops k n F=some o)
  (h: ∀a,Fr n ds F a->execOp a.eval o=execOp (evD F) o->o.wp P a w (wpList P ops Q (ops.toList.drop (k+1))) Q):WR P ops Q k n ds F w:=by
 intro a ha;obtain ⟨ho,_,hs,hp,hw⟩:=zl8 hd;rw [zw8 ho];unfold wpList;rw [if_pos (hw ha)];exact .inl (h a ha (vb7 ha hs hp))
def WR.val {o:Oper} {v:Value} (hd:dec ops k n F=some o) (hr:(execOp (evD F) o).run P w=.ok (.value v) w')
  (K:WR P ops Q (k+1) n ds (upd F o.dst v) w'):WR P ops Q k n ds F w:=
 .step hd fun a ha he=>by
  unfold Oper.wp;rw [he,hr];exact K _ (ha.upd (zl8 hd).2.1 v)
def WR.skip {o:Oper} (hd:dec ops k n F=some o) (hr:(execOp (evD F) o).run P w=.ok .skip w')
  (K:WR P ops Q (k+1) n ds (upd F o.dst undef) w'):WR P ops Q k n ds F w:=
 .step hd fun a ha he=>by
  unfold Oper.wp;rw [he,hr];exact K _ (ha.upd (zl8 hd).2.1 undef)
def WR.enter {o:Oper} {f:FuncId} {args:Array Value} {R:Ending->World->Prop} (hd:dec ops k n F=some o) (hr:(execOp (evD F) o).run P w=.ok (.enter f args) w')
  (hc:Calls P f args w' R) (K: ∀v w'',R (.returned v) w''->WR P ops Q (k+1) n ds (upd F o.dst v) w'')
  (hp: ∀ch w'',R (.panicked ch) w''-> ∀a,Fr n ds F a->Q (.panic ch) a w'') (ho: ∀w'',R .outgrown w''->LetsOut Q):WR P ops Q k n ds F w:=
 .step hd fun a ha he=>by
  unfold Oper.wp;rw [he,hr];refine hc.mono fun e w'' hR=>?_;cases e with
  |returned v=>exact K v w'' hR _ (ha.upd (zl8 hd).2.1 v)
  |panicked ch=>exact hp ch w'' hR a ha
  |outgrown=>exact ho w'' hR
def WR.throw {o:Oper} {v:Value} (hd:dec ops k n F=some o) (hr:(execOp (evD F) o).run P w=.halt (.panic v) w')
  (K: ∀a,Fr n ds F a->Q (.panic [{v,recovered:=false}]) a w'):WR P ops Q k n ds F w:=
 .step hd fun a ha he=>by
  unfold Oper.wp;rw [he,hr];exact K a ha
def WR.fin (hk:Nat.ble ops.size k=true) (K: ∀a,Fr n ds F a->Q .normal a w):WR P ops Q k n ds F w:=fun a ha=>by
 rw [M5 (by simpa using Y1 hk)];exact K a ha
def CW.region {id:Nat} (h:WR P ops Q 0 n ds F w):CW P (.region id ops false) Q n ds F w:=fun a ha=>wp_region_list (by simpa using h a ha)
def CW.skip (K: ∀a,Fr n ds F a->Q .normal a w):CW P .skip Q n ds F w:=fun a ha=>wp_skip (K a ha)
def CW.ret (K: ∀a,Fr n ds F a->Q .ret a w):CW P .ret Q n ds F w:=fun a ha=>wp_ret (K a ha)
def CW.exit {id:Nat} (K: ∀a,Fr n ds F a->Q (.exit id) a w):CW P (.exit id) Q n ds F w:=fun a ha=>wp_exit (K a ha)
def CW.block {id:Nat} {c:Code} (h:CW P c (Exit.inBlock id Q) n ds F w):CW P (.block id c) Q n ds F w:=fun a ha=>wp_block (h a ha)
def CW.cond {c:Operand} {x y:Code} (t:Bool) (hc:ev F c=some (.bool t)) (ht:t=true->CW P x Q n ds F w) (hf:t=false->CW P y Q n ds F w):CW P (.cond c x y) Q n ds F w:=
 fun a ha=>wp_cond_split (ha.eval hc) (fun h=>ht h a ha) (fun h=>hf h a ha)
end
section
variable {P:Program} {n:Nat} {F:PF} {w:World}
def jb6 (l:List Value):Nat->PF
 |i=>match l with| []=> []|v::r=>(i,v)::jb6 r (i+1)
def yg5 (l:List Value): ∀(i j:Nat) (v:Value),(jb6 l i).get j=some v->i<=j/\l[j-i]?=some v:=by
 induction l with
 |nil=>intro i j v h;simp [jb6,PF.get] at h
 |cons u r ih=>
  intro i j v h;simp only [jb6,PF.get] at h;split at h
  ·rename_i hb;have:=X1 hb;subst this;simpa using h
  ·rename_i hb;have hne:i≠j:=fun e=>by subst e;simp at hb
   obtain ⟨h1,h2⟩:=ih (i+1) j v h;refine ⟨by omega,?_⟩;rw [show j-i=(j-(i+1))+1 by omega];simpa using h2
end
end Go.V
namespace Go.V
open Go.RowKit
structure Chg (S:List Nat) (w w':World):Prop where
 os:w'.os=w.os
 tape:w'.tape=w.tape
 output:w'.output=w.output
 size:w.heap.size<=w'.heap.size
 block: ∀k,k<w.heap.size->k∉S->w'.heap[k]?=w.heap[k]?
def Chg.refl (S:List Nat) (w:World):Chg S w w:=⟨rfl,rfl,rfl,W3 _,fun _ _ _=>rfl⟩
def Chg.step {S T:List Nat} {w0 w w':World} (h:Chg S w0 w) (h':Chg T w w') (hT: ∀t∈T,t∈S\/w0.heap.size<=t):Chg S w0 w':=
 ⟨h'.os.trans h.os,h'.tape.trans h.tape,h'.output.trans h.output,W7 h.size h'.size,fun k hk hS=>
  (h'.block k (U6 hk h.size) fun hm=>by rcases hT k hm with h1|h1;exact hS h1;omega).trans (h.block k hk hS)⟩
def Chg.pure {S:List Nat} {w0 w w':World} (h:Chg S w0 w) (h':Chg [] w w'):Chg S w0 w':=h.step h' (by simp)
def Chg.drew (w:World):Chg [] w {w with drawn:=w.drawn+1}:=⟨rfl,rfl,rfl,W3 _,fun _ _ _=>rfl⟩
def Chg.below {w w':World} (h:Chg [] w w'):Below w.heap.size w w':=⟨h.os,h.tape,h.output,h.size,fun k hk=>h.block k hk (by simp)⟩
def Chg.alloc (w:World) (o:Obj):Chg [] w (w.alloc o):=⟨rfl,rfl,rfl,by simp,fun k hk _=>Below.heap_alloc w o k hk⟩
def Blk (w:World) (g:Nat) (c:Array Value) (e:TypeId):Prop:=w.heap[g]?=some (.cells c e (0,0))
def Blk.lt {w:World} {g:Nat} {c:Array Value} {e:TypeId} (h:Blk w g c e):g<w.heap.size:=(Y3.1 h).1
def Blk.chg {S:List Nat} {w w':World} {g:Nat} {c:Array Value} {e:TypeId} (h:Blk w g c e) (hc:Chg S w w') (hg:g∉S):Blk w' g c e:=(hc.block g h.lt hg).trans h
structure New (w w':World) (g:Nat) (c:Array Value) (e:TypeId):Prop where
 blk:Blk w' g c e
 chg:Chg [] w w'
 fresh:w.heap.size<=g
def New.alloc (w:World) (c:Array Value) (e:TypeId):New w (w.alloc (.cells c e)) w.heap.size c e:=⟨heap_alloc_new w _,Chg.alloc w _,W3 _⟩
def bk:Option Addr->Nat|some a=>a.block|none=>0
def of:Option Addr->Nat|some a=>a.off|none=>0
def Rg (w:World) (ad:Option Addr) (cs:List Value):Prop:=
 ∀j u,cs[j]?=some u->ad=some ⟨bk ad,of ad,none⟩/\w.cell? ⟨bk ad,of ad+j,none⟩=some u
def Rg.nil (w:World) (ad:Option Addr):Rg w ad []:=fun j u h=>by simp at h
def Rg.chg {S:List Nat} {w w':World} {ad:Option Addr} {cs:List Value} (h:Rg w ad cs) (hc:Chg S w w') (hb:bk ad∉S\/cs= []):Rg w' ad cs:=by
 intro j u hu;obtain ⟨h1,h2⟩:=h j u hu;refine ⟨h1,?_⟩;rcases hb with hb|hb
 ·exact (World.cell?_of_block (hc.block _ (World.block_lt_of_cell? w _ h2) hb)).trans h2
 ·subst hb;simp at hu
def Rg.blk {w:World} {g off:Nat} {c:Array Value} {e:TypeId} (h:Blk w g c e) (cs:List Value) (hcs: ∀j u,cs[j]?=some u->c[off+j]?=some u):Rg w (some ⟨g,off,none⟩) cs:=by
 intro j u hu;refine ⟨rfl,?_⟩;have:=cell_of_row w g (off+j) c e (0,0) h;show w.cell? ⟨g,off+j,none⟩=some u;rw [this];exact hcs j u hu
def Rg.sub {w:World} {ad:Option Addr} {cs:List Value} (h:Rg w ad cs) (l m:Nat) (ad':Option Addr) (had:ad=some ⟨bk ad,of ad,none⟩->ad'=some ⟨bk ad,of ad+l,none⟩):Rg w ad' ((cs.drop l).take m):=by
 intro j u hu;rw [Z3] at hu;split at hu
 ·rw [Q5] at hu;obtain ⟨h1,h2⟩:=h (l+j) u hu;have e:=had h1;subst e;exact ⟨rfl,by simpa [bk,of,U1] using h2⟩
 ·cases hu
def Own (w:World) (B:Nat) (e:TypeId) (sz:Nat) (ad:Option Addr) (n cap:Nat) (cs:List Value):Prop:=w.ownsRow B e sz (.slice ad n cap) n cs
def Own.len {w:World} {B:Nat} {e:TypeId} {sz:Nat} {ad:Option Addr} {n cap:Nat} {cs:List Value} (h:Own w B e sz ad n cap cs):cs.length=n*sz:=h.1
def Own.cases {w:World} {B:Nat} {e:TypeId} {sz:Nat} {ad:Option Addr} {n cap:Nat} {cs:List Value} (h:Own w B e sz ad n cap cs):
  (ad=none/\n=0/\cap=0/\cs= [])\/ ∃c,ad=some ⟨bk ad,0,none⟩/\B<=bk ad/\Blk w (bk ad) c e/\n<=cap/\cap<=maxLen/\c.size=cap*sz/\c.toList.take (n*sz)=cs:=by
 obtain ⟨h1,h2⟩:=h;rcases h2 with ⟨h2,h3⟩|⟨g,cap',cur,hv,hb,hg,hn,hm,hs,ht⟩
 ·simp only [Value.slice.injEq] at h2;obtain ⟨rfl,rfl,rfl⟩:=h2;exact .inl ⟨rfl,rfl,rfl,M0 (by simpa using h1)⟩
 ·simp only [Value.slice.injEq,true_and] at hv;obtain ⟨rfl,rfl⟩:=hv;exact .inr ⟨cur,rfl,hb,hg,hn,hm,hs,ht⟩
def Own.rg {w:World} {B:Nat} {e:TypeId} {sz:Nat} {ad:Option Addr} {n cap:Nat} {cs:List Value} (h:Own w B e sz ad n cap cs):Rg w ad cs:=by
 rcases h.cases with ⟨_,_,_,rfl⟩|⟨c,had,_,hb,_,_,_,ht⟩
 ·exact Rg.nil _ _
 ·rw [had];refine Rg.blk hb cs fun j u hu=>?_;rw [<-ht,Z3] at hu;split at hu
  ·simpa using hu
  ·cases hu
def Own.chg {S:List Nat} {w w':World} {B:Nat} {e:TypeId} {sz:Nat} {ad:Option Addr} {n cap:Nat} {cs:List Value} (h:Own w B e sz ad n cap cs) (hc:Chg S w w') (hb:bk ad∉S\/ad=none):Own w' B e sz ad n cap cs:=by
 obtain ⟨h1,h2⟩:=h;refine ⟨h1,?_⟩;rcases h2 with h2|⟨g,cap',cur,hv,hB,hg,r⟩
 ·exact .inl h2
 ·refine .inr ⟨g,cap',cur,hv,hB,?_,r⟩;simp only [Value.slice.injEq,true_and] at hv;rcases hb with hb|hb
  ·rw [hv.1] at hb;exact (hc.block g (Y3.1 hg).1 hb).trans hg
  ·rw [hb] at hv;simp at hv
def Own.nil (w:World) (B:Nat) (e:TypeId) (sz:Nat):Own w B e sz none 0 0 []:=World.ownsRow_nil w B e sz
def Own.le {w:World} {B:Nat} {e:TypeId} {sz:Nat} {ad:Option Addr} {n cap:Nat} {cs:List Value} (h:Own w B e sz ad n cap cs):n<=cap/\cap<=maxLen:=by
 rcases h.cases with ⟨_,rfl,rfl,_⟩|⟨c,_,_,_,h1,h2,_⟩
 ·exact ⟨W3 _,J9 _⟩
 ·exact ⟨h1,h2⟩
def Own.ge {w:World} {B:Nat} {e:TypeId} {sz:Nat} {ad:Option Addr} {n cap:Nat} {cs:List Value} (h:Own w B e sz ad n cap cs):ad=none\/(B<=bk ad/\bk ad<w.heap.size):=by
 rcases h.cases with ⟨h1,_⟩|⟨c,_,h1,h2,_⟩
 ·exact .inl h1
 ·exact .inr ⟨h1,h2.lt⟩
def ldv (P:Program) (t:TypeId) (c:Array Value) (o:Nat):Option Value:=
 match P.info? t,P.underlying t with
 |some i,some (.struct _)|some i,some (.array _ _)=>match Nat.ble (o+i.size) c.size with|true=>some (.agg (c.extract o (o+i.size)))|false=>none
 |some _,some _=>c[o]?
 |_,_=>none
def zm8 (P:Program) (t:TypeId):Bool:=match P.underlying t with|some (.struct _)|some (.array _ _)=>false|some _=>true|none=>false
def zz5:TypeDesc->Bool| .struct _=>true| .array _ _=>true|_=>false
def zt2 {P:Program} {t:TypeId} {d:TypeDesc} (h:P.underlying t=some d) (w:World):(isAgg t).run P w=.ok (zz5 d) w:=by
 unfold isAgg;rw [Sem.run_bind];have:(underlying t).run P w=.ok d w:=by simp [underlying,h]
 rw [this];cases d<;>rfl
def zt5 {P:Program} {t:TypeId} (h:zm8 P t=true) {a:Addr} {w:World} {v:Value} (hv:w.cell? a=some v):(loadVar t a).run P w=.ok v w:=by
 unfold zm8 at h;cases hd:P.underlying t with
 |none=>rw [hd] at h;cases h
 |some d=>
  rw [hd] at h;unfold loadVar;rw [Sem.run_bind,zt2 hd];cases d<;>first|(cases h;done)|simp [zz5,load,Sem.run,hv]
def ji8 (w:World) (g:Nat) (c:Array Value) (e:TypeId) (fr:Nat×Nat) (hb:w.heap[g]?=some (.cells c e fr)) (o n:Nat) (hn:o+n<=c.size) (P:Program):
  (loadCells ⟨g,o,none⟩ n).run P w=.ok (c.extract o (o+n)) w:=by
 have:=run_loadCells_list (P:=P) (w:=w) ⟨g,o,none⟩ (c.extract o (o+n)).toList (fun j v hj=>by
  have hadd:(⟨g,o,none⟩:Addr).add j=⟨g,o+j,none⟩:=by unfold Addr.add;split<;>simp_all
  rw [hadd,cell_of_row w g (o+j) c e fr hb];simp only [Array.getElem?_toList,Array.getElem?_extract] at hj;split at hj
  ·exact hj
  ·cases hj)
 have hl:(c.extract o (o+n)).toList.length=n:=by simp;omega
 rw [hl] at this;rw [this]
def yd5 {P:Program} {t:TypeId} {w:World} {g o:Nat} {c:Array Value} {e:TypeId} {fr:Nat×Nat} {v:Value} (hb:w.heap[g]?=some (.cells c e fr)) (h:ldv P t c o=some v):
  (loadVar t ⟨g,o,none⟩).run P w=.ok v w:=by
 unfold ldv at h;have agg: ∀(i:TypeInfo) (d:TypeDesc),P.info? t=some i->P.underlying t=some d->zz5 d=true->
   (match Nat.ble (o+i.size) c.size with|true=>some (Value.agg (c.extract o (o+i.size)))|false=>none)=some v->(loadVar t ⟨g,o,none⟩).run P w=.ok v w:=by
  intro i d hi hd hag hv;split at hv
  ·rename_i hle;simp only [X0] at hv;subst hv;have hle':=Y1 hle;unfold loadVar;rw [Sem.run_bind,zt2 hd,hag];have hs:(sizeOf t).run P w=.ok i.size w:=by simp [sizeOf,typeInfo,hi]
   simp only [Result.andThen_ok,if_true,Sem.run_bind,hs,ji8 w g c e fr hb o i.size hle' P,Sem.run_pure]
  ·cases hv
 split at h
 ·rename_i i _ hi hd;exact agg i _ hi hd rfl h
 ·rename_i i _ _ hi hd;exact agg i _ hi hd rfl h
 ·rename_i i d hn1 hn2 hi hd;refine zt5 ?_ (by rw [cell_of_row w g o c e fr hb];exact h);unfold zm8;rw [hd];cases d<;>first|rfl|(exact absurd rfl (hn1 _))|(exact absurd rfl (hn2 _ _))|skip
  all_goals simp_all
 ·cases h
def yu3 (c:Array Value) (o:Nat):List Value->Array Value
 | []=>c
 |v::r=>yu3 (c.setIfInBounds o v) (o+1) r
def stv (P:Program) (t:TypeId) (c:Array Value) (o:Nat) (v:Value):Option (Array Value):=
 match P.info? t with
 |some i=>match (Nat.beq v.cells.size i.size&&(Nat.ble (o+i.size) c.size&&v.cells.toList.all Value.oneCell')) with|true=>some (yu3 c o v.cells.toList)|false=>none
 |none=>none
def zl6 (P:Program) (e:TypeId) (g:Nat): ∀(vs:List Value) (o i:Nat) (c:Array Value) (w:World),Blk w g c e->o+i+vs.length<=c.size->(∀v∈vs,v.oneCell'=true)->
  ∃w',(storeCells ⟨g,o,none⟩ vs i).run P w=.ok () w'/\Blk w' g (yu3 c (o+i) vs) e/\Chg [g] w w'
 | [],o,i,c,w,hb,_,_=>⟨w,rfl,hb,Chg.refl _ _⟩
 |v::r,o,i,c,w,hb,hl,h1=>by
  simp only [W8] at hl;have hadd:(⟨g,o,none⟩:Addr).add i=⟨g,o+i,none⟩:=by unfold Addr.add;split<;>simp_all
  have hcell:w.cell? ⟨g,o+i,none⟩=some c[o+i]:=by
   rw [cell_of_row w g (o+i) c e (0,0) hb,Z6 (by omega)]
  have hfz:=frozen_of_row w g (o+i) c e hb;have hst:(store ((⟨g,o,none⟩:Addr).add i) v).run P w=.ok () (w.setCell ⟨g,o+i,none⟩ v):=by
   rw [hadd];have:=run_store P w ⟨g,o+i,none⟩ v .plain (h1 v (by simp));rw [this];simp [hcell,hfz]
  have hb':Blk (w.setCell ⟨g,o+i,none⟩ v) g (c.setIfInBounds (o+i) v) e:=heap_setCell_same w g (o+i) c e v hb;obtain ⟨w',h2,h3,h4⟩:=zl6 P e g r o (i+1) _ _ hb' (by simp;omega) (fun u hu=>h1 u (by simp [hu]));refine ⟨w',?_,h3,?_⟩
  ·unfold storeCells;rw [Sem.run_bind,hst];exact h2
  ·have hc1:Chg [g] w (w.setCell ⟨g,o+i,none⟩ v):=⟨rfl,rfl,rfl,by simp,fun k _ hk=>heap_setCell_other w _ k v (by simpa using hk)⟩;exact hc1.step h4 (by simp)
def yu5 {P:Program} {t:TypeId} {w:World} {g o:Nat} {c c':Array Value} {e:TypeId} {v:Value} (hb:Blk w g c e) (h:stv P t c o v=some c'):
  ∃w',(storeVar t ⟨g,o,none⟩ v).run P w=.ok () w'/\Blk w' g c' e/\Chg [g] w w':=by
 unfold stv at h;split at h
 ·rename_i i hi;split at h
  ·rename_i hok;simp only [X0] at h;subst h;simp only [X3] at hok;have hsz:v.cells.size=i.size:=X1 hok.1;have hle:=Y1 hok.2.1;have hone: ∀u∈v.cells.toList,u.oneCell'=true:=by
    have:=hok.2.2;rw [Y8] at this;exact this
   obtain ⟨w',h1,h2,h3⟩:=zl6 P e g v.cells.toList o 0 c w hb (by simp [hsz];omega) hone;refine ⟨w',?_,h2,h3⟩;have hs:(sizeOf t).run P w=.ok i.size w:=by simp [sizeOf,typeInfo,hi]
   unfold storeVar;simp only [Sem.run_bind,hs,Result.andThen_ok,hsz,ne_eq,not_true_eq_false,if_false,h1]
  ·cases h
 ·cases h
section
variable {P:Program} {ops:Array Oper} {Q:Exit->Act->World->Prop} {k n:Nat} {ds:List Deferred} {F:PF} {w:World}
def jt8 (ops:Array Oper) (k n:Nat) (F:PF):Option (Option Tmp×TypeId×Value):=
 match dec ops k n F with|some ⟨dst,.box e x,_,_,_,_⟩=>some (dst,e,evD F x)|_=>none
def WR.box {dst:Option Tmp} {e:TypeId} {v:Value} (hd:jt8 ops k n F=some (dst,e,v)) (c:Array Value) (hc:v.cells=c)
  (K: ∀g w',New w w' g c e->WR P ops Q (k+1) n ds (upd F dst (.pointer (some ⟨g,0,none⟩))) w'):WR P ops Q k n ds F w:=by
 unfold jt8 at hd;split at hd
 ·rename_i d e' x ty pos af gd hdec;simp only [X0,X7] at hd;obtain ⟨rfl,rfl,rfl⟩:=hd;subst hc;exact .val hdec (v:=.pointer (some ⟨w.heap.size,0,none⟩)) (w':=w.alloc (.cells (evD F x).cells e')) rfl (K _ _ (New.alloc w _ _))
 ·cases hd
def yq7 (ops:Array Oper) (k n:Nat) (F:PF):Option (Option Tmp×TypeId):=
 match dec ops k n F with|some ⟨dst,.alloc e,_,_,_,_⟩=>some (dst,e)|_=>none
def jw1 (P:Program) (e:TypeId):Option (Array Value):=match P.info? e with|some i=>(match i.zero with|some z=>some z.cells|none=>none)|none=>none
def yy1 {e:TypeId} {c:Array Value} (h:jw1 P e=some c): ∃i z,P.info? e=some i/\i.zero=some z/\z.cells=c:=by
 unfold jw1 at h;split at h
 ·rename_i i hi;split at h
  ·rename_i z hz;exact ⟨i,z,hi,hz,by simpa using h⟩
  ·cases h
 ·cases h
def WR.alloc {dst:Option Tmp} {e:TypeId} (hd:yq7 ops k n F=some (dst,e)) (c:Array Value) (hc:jw1 P e=some c)
  (K: ∀g w',New w w' g c e->WR P ops Q (k+1) n ds (upd F dst (.pointer (some ⟨g,0,none⟩))) w'):WR P ops Q k n ds F w:=by
 unfold yq7 at hd;split at hd
 ·rename_i d e' ty pos af gd hdec;simp only [X0,X7] at hd;obtain ⟨rfl,rfl⟩:=hd;obtain ⟨i,z,hi,hz,rfl⟩:=yy1 hc;refine .val hdec (v:=.pointer (some ⟨w.heap.size,0,none⟩)) (w':=w.alloc (.cells z.cells e')) ?_ (K _ _ (New.alloc w _ _));simp [execOp,Instr.alloc,zeroValue,typeInfo,hi,hz,newVar,newRow]
 ·cases hd
def yd9 (ops:Array Oper) (k n:Nat) (F:PF):Option (Option Tmp×TypeId×Value):=
 match dec ops k n F with|some ⟨dst,.load t x,_,_,_,_⟩=>some (dst,t,evD F x)|_=>none
def yc1 {dst:Option Tmp} {t:TypeId} {p:Value} (hd:yd9 ops k n F=some (dst,t,p)): ∃o,dec ops k n F=some o/\o.dst=dst/\
  execOp (evD F) o=(do pure (.value (<-Instr.loadAt t p)):Sem Next):=by
 unfold yd9 at hd;split at hd
 ·rename_i d e' x ty pos af gd hdec;simp only [X0,X7] at hd;obtain ⟨rfl,rfl,rfl⟩:=hd;exact ⟨_,hdec,rfl,rfl⟩
 ·cases hd
def yq8 (ops:Array Oper) (k n:Nat) (F:PF):Option (TypeId×Value×Value):=
 match dec ops k n F with|some ⟨none,.store t a x,_,_,_,_⟩=>some (t,evD F a,evD F x)|_=>none
def WR.store {t:TypeId} {g o:Nat} {c:Array Value} {e:TypeId} {v:Value} (hb:Blk w g c e) (hd:yq8 ops k n F=some (t,.pointer (some ⟨g,o,none⟩),v)) (c':Array Value) (hv:stv P t c o v=some c')
  (K: ∀w',Blk w' g c' e->Chg [g] w w'->WR P ops Q (k+1) n ds F w'):WR P ops Q k n ds F w:=by
 unfold yq8 at hd;split at hd
 ·rename_i t' a x ty pos af gd hdec;simp only [X0,X7] at hd;obtain ⟨rfl,ha,rfl⟩:=hd;obtain ⟨w',h1,h2,h3⟩:=yu5 (P:=P) hb hv;refine .skip hdec (w':=w') ?_ (K w' h2 h3);simp [execOp,Instr.storeAt,Instr.sureAddr,ha,h1]
 ·cases hd
def yg7 (ops:Array Oper) (k n:Nat) (F:PF):Option (Option Tmp×TypeId×Value×Value):=
 match dec ops k n F with|some ⟨dst,.indexAddr t x i,_,_,_,_⟩=>some (dst,t,evD F x,evD F i)|_=>none
def zw2 (P:Program) (t:TypeId):Option Nat:=match P.underlying t with|some (.slice e)=>(P.info? e).map (·.size)|_=>none
def Ret (S:List Nat) (w:World) (R:Value->World->Prop):Ending->World->Prop
 | .returned v,w'=>Chg S w w'/\R v w'
 |_,_=>False
def vp3 (w:World) (v:Value):Ending->World->Prop:=Ret [] w fun u _=>u=v
def ye7 (P:Program) (ops:Array Oper) (k n:Nat) (F:PF) (w:World):Option (Option Tmp×Result Next):=
 match dec ops k n F with|some o=>some (o.dst,(execOp (evD F) o).run P w)|none=>none
def jw8 {w:World} {dst:Option Tmp} {r:Result Next} (h:ye7 P ops k n F w=some (dst,r)): ∃o,dec ops k n F=some o/\o.dst=dst/\(execOp (evD F) o).run P w=r:=by
 unfold ye7 at h;split at h
 ·rename_i o ho;simp only [X0,X7] at h;exact ⟨o,ho,h.1,h.2⟩
 ·cases h
def WQ (P:Program) (ops:Array Oper) (C:World->Prop) (Qf:Act->Prop) (k n:Nat) (ds:List Deferred) (F:PF):Prop:=
 ∀a,Fr n ds F a->wpQuiet P ops C Qf (ops.toList.drop k) a
def CW.regionQ {id:Nat} (hm:P.follows .mixedOrders=true) (hB:Region.lexB .any ops=true)
  (h:WQ P ops (fun w'=>Chg [] w w') (fun a'=> ∀w',Chg [] w w'->Q .normal a' w') 0 n ds F):CW P (.region id ops true) Q n ds F w:=
 fun a ha=>wp_region_quiet (C:=fun w'=>Chg [] w w') hm hB (Chg.drew w) (by simpa using h a ha)
variable {C:World->Prop} {Qf:Act->Prop}
def WQ.step {o:Oper} {v:Value} (hd:dec ops k n F=some o) (h: ∀w,C w->Oper.quietUpon P C w v ((execOp (evD F) o).run P w))
  (K:WQ P ops C Qf (k+1) n ds (upd F o.dst v)):WQ P ops C Qf k n ds F:=by
 intro a ha;obtain ⟨ho,hdst,hs,hp,hw⟩:=zl8 hd;rw [zw8 ho];unfold wpQuiet;rw [if_pos (hw ha)];refine ⟨v,fun w hC=>?_,K _ (ha.upd hdst v)⟩;unfold Oper.quietAt;rw [vb7 ha hs hp];exact h w hC
def WQ.pass {o:Oper} (ho:ops[k]?=some o) (hw:zv8 ops F o=some false) (hd:zj7 n o.dst=true) (K:WQ P ops C Qf (k+1) n ds (upd F o.dst undef)):WQ P ops C Qf k n ds F:=by
 intro a ha;rw [zw8 ho];unfold wpQuiet;rw [if_neg (by rw [yo5 ha hw];simp)];exact K _ (ha.upd hd undef)
def zy6 (ops:Array Oper) (k n:Nat) (F:PF):Option (Option Tmp):=
 match ops[k]? with
 |some o=>(match zv8 ops F o with|some false=>(match zj7 n o.dst with|true=>some o.dst|false=>none)|_=>none)
 |none=>none
def WQ.pass1 {dst:Option Tmp} (h:zy6 ops k n F=some dst) (K:WQ P ops C Qf (k+1) n ds (upd F dst undef)):WQ P ops C Qf k n ds F:=by
 unfold zy6 at h;split at h
 ·rename_i o ho;split at h
  ·rename_i hw;split at h
   ·rename_i hd;simp only [X0] at h;subst h;exact .pass ho hw hd K
   ·cases h
  ·cases h
 ·cases h
def jr3 {dst:Option Tmp} {t:TypeId} {b o:Nat} {m cap:Nat} {kk:IntKind} {i:Int} {sz:Nat} (hd:yg7 ops k n F=some (dst,t,.slice (some ⟨b,o,none⟩) m cap,.int kk i)) (hsz:zw2 P t=some sz)
  (h0:0<=i) (hi:i<m): ∃op,dec ops k n F=some op/\op.dst=dst/\ ∀w,(execOp (evD F) op).run P w=.ok (.value (.pointer (some ⟨b,o+i.toNat*sz,none⟩))) w:=by
 unfold yg7 at hd;split at hd
 ·rename_i d t' x ix ty pos af gd hdec;simp only [X0,X7] at hd;obtain ⟨rfl,rfl,hx,hix⟩:=hd;unfold zw2 at hsz;split at hsz
  ·rename_i e hu;cases hinf:P.info? e with
   |none=>rw [hinf] at hsz;cases hsz
   |some inf=>
    rw [hinf] at hsz;simp only [Z8,X0] at hsz;refine ⟨_,hdec,rfl,fun w=>?_⟩;have hs:(sizeOf e).run P w=.ok inf.size w:=by simp [sizeOf,typeInfo,hinf]
    have hul:(underlying t').run P w=.ok (.slice e) w:=by simp [underlying,hu]
    have hadd:(⟨b,o,none⟩:Addr).add (i.toNat*inf.size)=⟨b,o+i.toNat*inf.size,none⟩:=by unfold Addr.add;split<;>simp_all
    simp only [execOp,hx,hix];simp [Instr.indexAt,asIntOf,hul,h0,hi,hs,<-hsz,hadd]
  ·cases hsz
 ·cases hd
def WQ.fin (hk:Nat.ble ops.size k=true) (K: ∀w',Chg [] w w'-> ∀a,Fr n ds F a->Q .normal a w'):WQ P ops C (fun a'=> ∀w',Chg [] w w'->Q .normal a' w') k n ds F:=fun a ha=>by
 rw [M5 (by simpa using Y1 hk)];exact fun w' h=>K w' h a ha
end
end Go.V
namespace Go.V
open Go.RowKit
def zl7 (ad:Option Addr):List Nat:=match ad with|some a=> [a.block]|none=> []
def Own.nil0 {w:World} {B:Nat} {e:TypeId} {sz:Nat} {ad:Option Addr} {n cap:Nat} {cs:List Value} (h:Own w B e sz ad n cap cs) (had:ad=none):n=0/\cap=0:=by
 rcases h.cases with ⟨_,h1,h2,_⟩|⟨c,h1,_⟩
 ·exact ⟨h1,h2⟩
 ·rw [had] at h1;cases h1
section
variable {P:Program} {ops:Array Oper} {Q:Exit->Act->World->Prop} {k n:Nat} {ds:List Deferred} {F:PF} {w:World}
def zu9 (P:Program) (t:TypeId):Option (TypeId×Nat×Nat×Array Value):=
 match P.underlying t with
 |some (.slice e)=>(match P.info? e with|some i=>(match i.zero with|some z=>(match Nat.beq z.cells.size i.size with|true=>some (e,i.size,i.bytes,z.cells)|false=>none)|none=>none)|none=>none)
 |_=>none
def zh6 {t e:TypeId} {sz by_:Nat} {zc:Array Value} (h:zu9 P t=some (e,sz,by_,zc)):
  ∃i z,P.underlying t=some (.slice e)/\P.info? e=some i/\i.zero=some z/\i.size=sz/\i.bytes=by_/\z.cells=zc/\zc.size=sz:=by
 unfold zu9 at h;split at h
 ·rename_i e' hu;split at h
  ·rename_i i hi;split at h
   ·rename_i z hz;split at h
    ·rename_i hb;simp only [X0,X7] at h;obtain ⟨rfl,rfl,rfl,rfl⟩:=h;exact ⟨i,z,hu,hi,hz,rfl,rfl,rfl,X1 hb⟩
    ·cases h
   ·cases h
  ·cases h
 ·cases h
def jb8 (ops:Array Oper) (k n:Nat) (F:PF):Option (Option Tmp×TypeId×Value×Value):=
 match dec ops k n F with|some ⟨dst,.makeSlice t l c,_,_,_,_⟩=>some (dst,t,evD F l,evD F c)|_=>none
def WR.make {dst:Option Tmp} {t e:TypeId} {kl kc:IntKind} {l c:Int} {sz by_:Nat} {zc:Array Value} (hd:jb8 ops k n F=some (dst,t,.int kl l,.int kc c)) (hi:zu9 P t=some (e,sz,by_,zc)) (m m':Nat) (hm:l=(m:Int)) (hm':c=(m':Int)) (hle:m<=m')
  (hbytes:by_*m'<=281474976710656) (h63:m'<=9223372036854775807)
  (K: ∀g w',New w w' g (madeCells zc (m'*sz)) e->WR P ops Q (k+1) n ds (upd F dst (.slice (some ⟨g,0,none⟩) m m')) w'):WR P ops Q k n ds F w:=by
 subst hm hm';unfold jb8 at hd;split at hd
 ·rename_i d t' lx cx ty pos af gd hdec;simp only [X0,X7] at hd;obtain ⟨rfl,rfl,hl,hc⟩:=hd;obtain ⟨i,z,hu,hin,hz,rfl,rfl,rfl,hzs⟩:=zh6 hi;have hb':(i.bytes:Int)*(m':Int)<=281474976710656:=by
   have h:((i.bytes*m':Nat):Int)<=281474976710656:=by omega
   rwa [Int.natCast_mul] at h
  have hr:=run_make (P:=P) w t' e i z hu hin hz kl kc m m' (by omega) (by omega) hb' (by omega);simp only [Z1] at hr;refine .val hdec (v:=.slice (some ⟨w.heap.size,0,none⟩) m m') (w':=w.alloc (.cells (madeCells z.cells (m'*i.size)) e)) ?_ (K _ _ (New.alloc w _ _));simp [execOp,hl,hc,hr]
 ·cases hd
def Own.made {w w':World} {g:Nat} {zc:Array Value} {e:TypeId} {sz m m':Nat} (h:New w w' g (madeCells zc (m'*sz)) e) (hle:m<=m') (h63:m'<=9223372036854775807):
  Own w' w.heap.size e sz (some ⟨g,0,none⟩) m m' ((madeCells zc (m'*sz)).toList.take (m*sz)):=by
 refine ⟨?_,.inr ⟨g,m',madeCells zc (m'*sz),rfl,h.fresh,h.blk,hle,by unfold maxLen;omega,by simp [size_madeCells],rfl⟩⟩;have:m*sz<=m'*sz:=Q8 _ hle;rw [Y6,M3,size_madeCells,V3 this]
def jj2 (ops:Array Oper) (k n:Nat) (F:PF):Option (Option Tmp×TypeId×Value×Value):=
 match dec ops k n F with
 |some ⟨dst,.call {callee:=.builtin .append,args:=a,argTypes:=ats},_,_,_,_⟩=>
  (match a.toList,ats.toList with| [s,x],[t,t']=>(match Nat.beq t t' with|true=>some (dst,t,evD F s,evD F x)|false=>none)|_,_=>none)
 |_=>none
def jw7 {dst:Option Tmp} {t:TypeId} {s x:Value} (h:jj2 ops k n F=some (dst,t,s,x)):
  ∃o,dec ops k n F=some o/\o.dst=dst/\ ∀w,(execOp (evD F) o).run P w=((Builtin.append_ #[t,t] o.type #[s,x]).run P w).andThen fun v w'=>.ok (.value v) w':=by
 unfold jj2 at h;split at h
 ·rename_i d a ats ty pos af gd hdec;split at h
  ·rename_i s' x' t1 t2 ha hat;split at h
   ·rename_i hb;have:=X1 hb;subst this;simp only [X0,X7] at h;obtain ⟨rfl,rfl,rfl,rfl⟩:=h;refine ⟨_,hdec,rfl,fun w=>?_⟩;have ea:a= #[s',x']:=by rw [<-Array.toArray_toList (xs:=a),ha]
    have eat:ats= #[t1,t1]:=by rw [<-Array.toArray_toList (xs:=ats),hat]
    subst ea eat;simp [execOp,resolve,invoke,builtin]
   ·cases h
  ·cases h
 ·cases h
def WR.append {dst:Option Tmp} {t e:TypeId} {sz by_:Nat} {zc:Array Value} {B:Nat} {ad xd:Option Addr} {m cap xm xcap:Nat} {cs news:List Value} (ho:Own w B e sz ad m cap cs) (hx:Rg w xd news)
  (hd:jj2 ops k n F=some (dst,t,.slice ad m cap,.slice xd xm xcap)) (hi:zu9 P t=some (e,sz,by_,zc)) (hl:news.length=xm*sz) (hsz:0<sz) (h1: ∀u∈news,u.oneCell'=true) (hB:B<=w.heap.size)
  (h63:m+xm<=9223372036854775807) (hby:(m+xm)*by_<=140737488355328) (hnil:xd=none->xm=0/\xcap=0)
  (K: ∀ad' cap' w',Own w' B e sz ad' (m+xm) cap' (cs++news)->Chg (zl7 ad) w w'->(ad'=ad\/w.heap.size<=bk ad')->WR P ops Q (k+1) n ds (upd F dst (.slice ad' (m+xm) cap')) w'):WR P ops Q k n ds F w:=by
 obtain ⟨o,hdec,rfl,hrun⟩:=jw7 hd;obtain ⟨i,z,hu,hin,hz,rfl,rfl,rfl,hzs⟩:=zh6 hi;have hmc:=ho.le;have addE: ∀(b off j:Nat),(⟨b,off,none⟩:Addr).add j=⟨b,off+j,none⟩:=fun b off j=>by unfold Addr.add;split<;>simp_all
 by_cases hx0:xm=0
 ·
  subst hx0;have hn:news= []:=M0 (by simpa using hl);subst hn;have hr:(Builtin.append_ #[t,t] o.type #[.slice ad m cap,.slice xd 0 xcap]).run P w=.ok (.slice ad m cap) w:=by
   cases ad with
   |none=>
    cases xd with
    |none=>simp [Builtin.append_,run_underlying hu,sizeOf,typeInfo,hin,Builtin.lenOf,Builtin.firstCells,hmc.1]
    |some a=>simp [Builtin.append_,run_underlying hu,sizeOf,typeInfo,hin,Builtin.lenOf,Builtin.firstCells,loadCells,loadCellsFrom,hmc.1]
   |some g=>
    cases xd with
    |none=>simp [Builtin.append_,run_underlying hu,sizeOf,typeInfo,hin,Builtin.lenOf,Builtin.firstCells,storeCells,hmc.1]
    |some a=>simp [Builtin.append_,run_underlying hu,sizeOf,typeInfo,hin,Builtin.lenOf,Builtin.firstCells,loadCells,loadCellsFrom,storeCells,hmc.1]
  exact .val hdec (v:=.slice ad (m+0) cap) (w':=w) (by rw [hrun,hr];rfl) (K ad cap w (by simpa using ho) (Chg.refl _ _) (.inl rfl))
 ·have hxm:0<xm:=by omega
  have hne:news≠ []:=by
   intro e;rw [e] at hl;have:=Nat.mul_pos hxm hsz;simp at hl;omega
  obtain ⟨b,off,rfl⟩: ∃b off,xd=some ⟨b,off,none⟩:=by
   cases news with
   |nil=>exact absurd rfl hne
   |cons u r=>exact ⟨_,_,(hx 0 u rfl).1⟩
  have hnews: ∀j v,news[j]?=some v->w.cell? ((⟨b,off,none⟩:Addr).add j)=some v:=fun j v hj=>by rw [addE];exact (hx j v hj).2
  have hlen:(cs++news).length=(m+xm)*i.size:=by rw [X9,ho.len,hl,U9]
  have grown: ∀(old:Nat),Own (w.drew.alloc (.cells (cs.toArray++news.toArray++Builtin.zeroCells z.cells (grownCap w (m+xm) old e-(m+xm))) e)) B e i.size (some ⟨w.heap.size,0,none⟩) (m+xm) (grownCap w (m+xm) old e) (cs++news):=by
   intro old;have hge:=grownCap_ge w (m+xm) old e;have hcm:grownCap w (m+xm) old e<=maxLen:=grownCap_le_maxLen w (m+xm) old e (by unfold maxLen;omega);refine ⟨hlen,.inr ⟨w.heap.size,_,_,rfl,hB,heap_alloc_new w.drew _,hge,hcm,?_,?_⟩⟩
   ·have hs:cs.length+news.length=(m+xm)*i.size:=by rw [<-List.length_append];exact hlen
    have:(m+xm)*i.size+(grownCap w (m+xm) old e-(m+xm))*i.size=grownCap w (m+xm) old e*i.size:=by rw [<-Nat.add_mul];congr 1;omega
    simp only [Array.size_append,List.size_toArray,size_zeroCells,hzs];omega
   ·simp only [Array.toList_append,Q2];rw [<-List.append_assoc,<-hlen];exact List.take_left
  have hgc: ∀(old:Nat) (S:List Nat),Chg S w (w.drew.alloc (.cells (cs.toArray++news.toArray++Builtin.zeroCells z.cells (grownCap w (m+xm) old e-(m+xm))) e)):=
   fun old S=>⟨rfl,rfl,rfl,by simp,fun k hk _=>Below.heap_alloc w.drew _ k hk⟩
  rcases ho.cases with ⟨rfl,rfl,rfl,rfl⟩|⟨c',had,hBb,hbl,hmc',hcm',hcs,htk⟩
  ·have hr:=run_append_nil (P:=P) w t o.type e i z hu hin hz ⟨b,off,none⟩ xm xcap news hl hnews (by omega) (by omega) (by have hb:=hby;simp only [W5] at hb;omega);have hg:=grown 0;have hc:=hgc 0 (zl7 none);simp only [W5,M1,Array.empty_append] at hg hc hr;refine .val hdec (v:=.slice (some ⟨w.heap.size,0,none⟩) (0+xm) (grownCap w xm 0 e)) (by rw [hrun,hr,W5];rfl) (K _ _ _ (by simpa using hg) hc (.inr (W3 _)))
  ·obtain ⟨g,rfl⟩: ∃g,ad=some ⟨g,0,none⟩:=⟨_,had⟩;by_cases hroom:m+xm<=cap
   ·have hfit:m*i.size+news.length<=c'.size:=by rw [hl,hcs,<-Nat.add_mul];exact Q8 _ hroom
    have hr:=run_append_room (P:=P) w t o.type e i hu hin g m cap c' hbl ⟨b,off,none⟩ xm xcap news hl hnews h1 hroom hfit;refine .val hdec (v:=.slice (some ⟨g,0,none⟩) (m+xm) cap) (by rw [hrun,hr];rfl) (K (some ⟨g,0,none⟩) cap _ ?_ ?_ (.inl rfl))
    ·refine ⟨hlen,.inr ⟨g,cap,_,rfl,hBb,setRow_heap w g c' _ e _ hbl,hroom,hcm',?_,?_⟩⟩
     ·simp only [List.size_toArray,X9,Y6,Q6,M3];omega
     ·rw [htk,<-hlen];exact List.take_left
    ·exact ⟨rfl,rfl,rfl,by simp,fun k _ hk=>setRow_other w g k _ (fun e=>hk (by simp [zl7,e]))⟩
   ·have holds: ∀j v,cs[j]?=some v->w.cell? ((⟨g,0,none⟩:Addr).add j)=some v:=fun j v hj=>by rw [addE];exact (ho.rg j v hj).2
    have hr:=run_append_grow (P:=P) w t o.type e i z hu hin hz ⟨g,0,none⟩ m cap cs ho.len holds ⟨b,off,none⟩ xm xcap news hl hnews (by omega) (by omega) (growslice_fits (by omega) hby);exact .val hdec (v:=.slice (some ⟨w.heap.size,0,none⟩) (m+xm) (grownCap w (m+xm) cap e)) (by rw [hrun,hr];rfl) (K _ _ _ (grown cap) (hgc cap _) (.inr (W3 _)))
def yd8 (P:Program) (t:TypeId) (len:Nat) (parts:List (Nat×Value)):Option (TypeId×Array Value):=
 match P.underlying t with
 |some (.slice e)=>(match P.info? e with
  |some i=>(match Nat.ble (len*i.size) 16777216 with
   |true=>(match (match Nat.beq (len*i.size) 0 with|true=>some #[]|false=>(match i.zero with|some z=>some z.cells|none=>none)) with
    |some zero=>(match Instr.fill (fun j=>some (j*i.size,i.size)) ((Array.range (len*i.size)).map (zero[· %zero.size]!)) parts with|some cells=>some (e,cells)|none=>none)
    |none=>none)
   |false=>none)
  |none=>none)
 |_=>none
def vn8 (P:Program) (ops:Array Oper) (k n:Nat) (F:PF):Option (Option Tmp×Nat×TypeId×Array Value):=
 match dec ops k n F with
 |some ⟨dst,.buildSlice t len parts,_,_,_,_⟩=>(match yd8 P t len (parts.map fun (i,x)=>(i,evD F x)).toList with|some (e,c)=>some (dst,len,e,c)|none=>none)
 |_=>none
def WR.bslice {dst:Option Tmp} {len:Nat} {e:TypeId} (c:Array Value) (hd:vn8 P ops k n F=some (dst,len,e,c))
  (K: ∀g w',New w w' g c e->WR P ops Q (k+1) n ds (upd F dst (.slice (some ⟨g,0,none⟩) len len)) w'):WR P ops Q k n ds F w:=by
 unfold vn8 at hd;split at hd
 ·rename_i d t l parts ty pos af gd hdec;split at hd
  ·rename_i e' c' hb;simp only [X0,X7] at hd;obtain ⟨rfl,rfl,rfl,rfl⟩:=hd;refine .val hdec (v:=.slice (some ⟨w.heap.size,0,none⟩) l l) (w':=w.alloc (.cells c' e')) ?_ (K _ _ (New.alloc w _ _));unfold yd8 at hb;split at hb
   ·rename_i e1 hu;split at hb
    ·rename_i i hi;split at hb
     ·rename_i hle;have hle':=Y1 hle;split at hb
      ·rename_i zero hz;split at hb
       ·rename_i cells hfill;simp only [X0,X7] at hb;obtain ⟨rfl,rfl⟩:=hb;have hs:(sizeOf e1).run P w=.ok i.size w:=by simp [sizeOf,typeInfo,hi]
        have hn: ¬(16777216<l*i.size):=by omega
        have hul:(underlying t).run P w=.ok (.slice e1) w:=by simp [underlying,hu]
        simp only [execOp,Instr.buildSlice,Sem.run_bind,hul,Result.andThen_ok,hs];simp only [Nat.reducePow,gt_iff_lt,hn,if_false];by_cases h0:l*i.size=0
        ·have hz0:zero= #[]:=by
          split at hz
          ·simpa using hz.symm
          ·rename_i hb0;simp [h0] at hb0
         subst hz0;simp only [h0,if_true,Sem.run_bind,Sem.run_pure,Result.andThen_ok] at hfill⊢;simp only [hfill];simp [newRow]
        ·obtain ⟨z,hzz,hzc⟩: ∃z,i.zero=some z/\z.cells=zero:=by
          split at hz
          ·rename_i hb0;exact absurd (X1 hb0) h0
          ·split at hz
           ·rename_i z hzz;exact ⟨z,hzz,by simpa using hz⟩
           ·cases hz
         have hzv:(zeroValue e1).run P w=.ok z w:=by simp [zeroValue,typeInfo,hi,hzz]
         subst hzc;simp only [h0,if_false,Sem.run_bind,Sem.run_pure,hzv,Result.andThen_ok];simp only [hfill];simp [newRow]
       ·cases hb
      ·cases hb
     ·cases hb
    ·cases hb
   ·cases hb
  ·cases hd
 ·cases hd
def zw0 (ops:Array Oper) (k n:Nat) (F:PF):Option (Option Tmp×TypeId×Value×Option Value×Option Value):=
 match dec ops k n F with|some ⟨dst,.slice t x lo hi none,_,_,_,_⟩=>some (dst,t,evD F x,lo.map (evD F),hi.map (evD F))|_=>none
def zx3 {dst:Option Tmp} {t:TypeId} {x:Value} {lo hi:Option Value} (h:zw0 ops k n F=some (dst,t,x,lo,hi)):
  ∃o,dec ops k n F=some o/\o.dst=dst/\execOp (evD F) o=(do pure (.value (<-Instr.sliceAt t x lo hi none)):Sem Next):=by
 unfold zw0 at h;split at h
 ·rename_i d t' x' l' h' ty pos af gd hdec;simp only [X0,X7] at h;obtain ⟨rfl,rfl,rfl,rfl,rfl⟩:=h;exact ⟨_,hdec,rfl,rfl⟩
 ·cases h
def yk7 {t e:TypeId} (h:P.underlying t=some (.slice e)):P.underlying t=some (.slice (P.elem t)):=by
 have:P.elem t=e:=by simp [Program.elem,h]
 rw [this];exact h
def jv5 (P:Program) (t:TypeId):Option Nat:=(P.info? t).map (·.size)
def Own.ofBlk {w:World} {g:Nat} {c:Array Value} {e B n cap sz:Nat} (h:Blk w g c e) (hB:B<=g) (hn:n<=cap) (hm:cap<=9223372036854775807) (hc:c.size=cap*sz) (cs:List Value) (hcs:c.toList.take (n*sz)=cs):Own w B e sz (some ⟨g,0,none⟩) n cap cs:=by
 subst hcs;refine ⟨?_,.inr ⟨g,cap,c,rfl,hB,h,hn,by unfold maxLen;omega,hc,rfl⟩⟩;have:n*sz<=cap*sz:=Q8 _ hn;rw [Y6,M3,hc,V3 this]
end
end Go.V
namespace Go.V
open Go.RowKit
section
variable {P:Program} {ops:Array Oper} {Q:Exit->Act->World->Prop} {k n:Nat} {ds:List Deferred} {F:PF} {w:World}
def WR.defer {dst:Option Tmp} {d:Deferred} (hr:ye7 P ops k n F w=some (dst,.ok (.defer d) w)) (K:WR P ops Q (k+1) n (d::ds) (upd F dst undef) w):WR P ops Q k n ds F w:=by
 obtain ⟨o,hd,rfl,hrun⟩:=jw8 hr;refine .step hd fun a ha he=>?_;unfold Oper.wp;rw [he,hrun];have ha':Fr n (d::ds) F {a with defers:=d::a.defers}:=⟨ha.size,by simp [ha.defers],ha.val⟩;exact K _ (ha'.upd (zl8 hd).2.1 undef)
def jt1:FrameMode->Value×FrameMode
 | .panicking ({v,recovered:=false,goexit:=false}::older)=>(v,.panicking ({v,recovered:=true}::older))
 |u=>(.nilIface,u)
def vo8 (ops:Array Oper):Option Tmp:=match ops[0]? with|some (Oper.mk (some d) (.call (Call.mk (.builtin .recover) _ _)) _ _ _ none)=>some d|_=>none
def jb2 {Q:Exit->Act->List Frame->World->Prop} {id:Nat} {d:Tmp} (hd:vo8 ops=some d) {c₀:Frame} {cs:List Frame} {v:Value} {u':FrameMode} (hu:jt1 c₀.mode=(v,u')) {a:Act}
  (h:wpList P ops (fun e a w=>Q e a ({c₀ with mode:=u'}::cs) w) (ops.toList.drop 1) (a.put (some d) v) w):(Code.region id ops false).wpS P Q a (c₀::cs) w:=by
 intro b k hb hro;unfold vo8 at hd;split at hd
 ·rename_i d' as ats ty pos af ho;simp only [X0] at hd;subst hd;have hlt:0<ops.size:=(Y3.1 ho).1;have hr:(execOp a.eval ⟨some d',.call {callee:=.builtin .recover,args:=as,argTypes:=ats},ty,pos,af,none⟩).run P w=.ok .recover w:=by
   simp [execOp,resolve,invoke,builtin]
  have hg:=stepG_op (P:=P) (b:=b) (a:=a) (k:=k) (cs:=c₀::cs) (w:=w) (rest:=List.range' 1 (ops.size-1)) (i:=0) ho (by simp [Region.wanted]);have hk:(b.at a (.inRegion ops (0::List.range' 1 (ops.size-1))::k)).kind=.deferred:=hb;have htr:=tryRecover_deferred hk (c₀::cs);have hfin: ∀v,(b.at a (.inRegion ops (0::List.range' 1 (ops.size-1))::k)).finish v=b.at (a.put (some d') v) (.inRegion ops (List.range' 1 (ops.size-1))::k):=by
   intro v;rw [Frame.finish_at,ho];rfl
  have hrange:List.range ops.size=0::List.range' 1 (ops.size-1):=by
   obtain ⟨m,hm⟩: ∃m,ops.size=m+1:=⟨ops.size-1,by omega⟩;rw [hm,List.range_eq_range',List.range'_succ];rfl
  have hops:wpOps P ops (fun e a w=>Q e a ({c₀ with mode:=u'}::cs) w) (List.range' 1 (ops.size-1)) (a.put (some d') v) w:=by
   have:=wpOps_eq_wpList (P:=P) (ops:=ops) (Q:=fun e a w=>Q e a ({c₀ with mode:=u'}::cs) w) (ops.toList.drop 1) 1 (by intro j;simp [V5]);have hl:(ops.toList.drop 1).length=ops.size-1:=by simp
   rw [hl] at this;rw [this];exact h
  obtain ⟨e,a',w',hq,harr⟩:=wp_ops _ _ _ hops b k ({c₀ with mode:=u'}::cs);have hstep:step P (lone (b.at a (.inRegion ops (0::List.range' 1 (ops.size-1))::k)) (c₀::cs) w)=.next (lone (b.at (a.put (some d') v) (.inRegion ops (List.range' 1 (ops.size-1))::k)) ({c₀ with mode:=u'}::cs) w):=by
   have hrec:recoverD (c₀::cs)=some (v,{c₀ with mode:=u'}::cs)\/(recoverD (c₀::cs)=none/\v=.nilIface/\u'=c₀.mode):=by
    unfold jt1 at hu;unfold recoverD;split at hu
    ·rename_i x older hm;simp only [X7] at hu;obtain ⟨rfl,rfl⟩:=hu;left;simp [hm]
    ·rename_i hne;simp only [X7] at hu;obtain ⟨rfl,rfl⟩:=hu;right;refine ⟨?_,rfl,rfl⟩;dsimp only;split
     ·rename_i y older hm;exact absurd hm (hne y older)
     all_goals rfl
   refine step_lone_go ?_;rw [hg,<-hfin];rcases hrec with hrec|⟨hrec,rfl,rfl⟩
   ·simp only [Frame.at] at htr⊢;simp [stepG.apply,hr,htr,hrec]
   ·simp only [Frame.at] at htr⊢;simp [stepG.apply,hr,htr,hrec]
  exact ⟨e,a',_,w',hq,.of_steps (.head step_region (by rw [hrange];exact .one hstep)) harr⟩
 ·cases hd
def jw4 {f:FuncId} {fn:Func} {id:Nat} {rest:Code} {args:Array Value} {u u':FrameMode} {v:Value} {R:Ending->FrameMode->World->Prop} (hf:P.funcs[f]?=some fn) (hb:fn.body=some (.seq (.region id ops false) rest)) (hn:fn.ntmps=n)
  (hfr:Fr n [] F {tmps:=args++Array.replicate (fn.ntmps-args.size) undef,defers:= []}) (d:Tmp) (hd:vo8 ops=some d) (hdn:zj7 n (some d)=true) (hu:jt1 u=(v,u'))
  (h: ∀K:Act->World->Prop,(∀a w,rest.wp P (bodyPost P fn fun e w'=>R e u' w') a w->K a w)->WR P ops (Exit.then K (bodyPost P fn fun e w'=>R e u' w')) 1 n [] (upd F (some d) v) w):CallsD P f args u w R:=by
 refine callsD_of_wpS hf hb fun c₀ cs hc=>wpS_seq ?_;subst hc;have post: ∀e a w,bodyPost P fn (fun e w'=>R e u' w') e a w->bodyPostS P fn c₀ cs R e a ({c₀ with mode:=u'}::cs) w:=by
  intro e a w hq;cases e with
  |normal=>obtain ⟨h1,v,h2,h3⟩:=hq;exact ⟨h1,u',rfl,v,h2,h3⟩
  |ret=>obtain ⟨h1,v,h2,h3⟩:=hq;exact ⟨h1,u',rfl,v,h2,h3⟩
  |panic ch=>obtain ⟨h1,h2⟩:=hq;exact ⟨h1,u',rfl,h2⟩
  |exit id=>exact hq.elim
  |goto l=>exact hq.elim
  |outgrown=>exact ⟨u',hq⟩
 refine jb2 hd hu ?_;have hw:=h (fun a w=>rest.wp P (bodyPost P fn fun e w'=>R e u' w') a w) (fun _ _ h=>h) _ (hfr.upd hdn v);have mono: ∀(Q Q':Exit->Act->World->Prop),(∀e a w,Q e a w->Q' e a w)-> ∀(l:List Oper) (a:Act) (w:World),wpList P ops Q l a w->wpList P ops Q' l a w:=by
  intro Q Q' hq l;induction l with
  |nil=>intro a w h;exact hq _ _ _ h
  |cons o r ih=>
   intro a w h;unfold wpList at h⊢;split
   ·rename_i hwant;rw [if_pos hwant] at h;rcases h with h|⟨h1,a₀,w₀,h2⟩
    ·left;unfold Oper.wp at h⊢;generalize (execOp a.eval o).run P w=r' at h⊢;unfold Oper.upon at h⊢;split at h
     ·exact ih _ _ h
     ·exact ih _ _ h
     ·exact ih _ _ h
     ·refine h.mono fun e w' he=>?_;cases e with
      |returned v=>exact ih _ _ he
      |panicked ch=>exact hq _ _ _ he
      |outgrown=>obtain ⟨a1,w1,h1⟩:=he;exact ⟨a1,w1,hq _ _ _ h1⟩
     ·exact h.mono fun v w' he=>ih _ _ he
     ·exact hq _ _ _ h
     ·exact h.elim
    ·right;exact ⟨h1,a₀,w₀,hq _ _ _ h2⟩
   ·rename_i hwant;rw [if_neg hwant] at h;exact ih _ _ h
 refine mono _ _ (fun e a w hq=>?_) _ _ _ hw;cases e with
 |normal=>exact wpS_of_wp (wp_mono hq post)
 |ret=>exact post .ret a w hq
 |panic ch=>exact post (.panic ch) a w hq
 |exit id=>exact post (.exit id) a w hq
 |goto l=>exact post (.goto l) a w hq
 |outgrown=>exact post .outgrown a w hq
end
end Go.V
namespace Go.V
open Go.RowKit
section
variable {P:Program} {ops:Array Oper} {Q:Exit->Act->World->Prop} {n:Nat} {ds:List Deferred} {F:PF} {w:World}
def WR.pass1 {k:Nat} {dst:Option Tmp} (h:zy6 ops k n F=some dst) (K:WR P ops Q (k+1) n ds (upd F dst undef) w):WR P ops Q k n ds F w:=by
 unfold zy6 at h;split at h
 ·rename_i o ho;split at h
  ·rename_i hw;split at h
   ·rename_i hd;simp only [X0] at h;subst h;intro a ha;rw [zw8 ho];unfold wpList;rw [if_neg (by rw [yo5 ha hw];simp)];exact K _ (ha.upd hd undef)
   ·cases h
  ·cases h
 ·cases h
def zs1 (ops:Array Oper) (i:Nat):List Nat:=match ops[i]? with|some o=>(o.after.toList.filter fun e=>Region.binds .any e).map (·.on)|none=> []
def gd3 (acc:List Nat):List Nat->List Nat| []=>acc|x::r=>gd3 (match acc.contains x with|true=>acc|false=>x::acc) r
def yp1 (ops:Array Oper):Nat->List (List Nat)
 |0=> []
 |n+1=>yp1 ops n++ [gd3 [] (zs1 ops n++(zs1 ops n).flatMap fun k=>(yp1 ops n).getD k [])]
def qt6 (ops:Array Oper) (m:Nat):List Nat:=(List.range m).filterMap fun i=>(ops[i]?).bind (·.dst)
def zw1:List Nat->Bool| []=>true|a::r=> !r.contains a&&zw1 r
def yi5 (ops:Array Oper):Bool:=(List.range ops.size).all fun i=>(zs1 ops i).all fun j=>Nat.blt j i
def yn6 (ops:Array Oper) (m:Nat):Bool:=(List.range m).all fun i=>match ops[i]? with|some o=>(match o.guard with|some (g,_)=>Nat.blt g i|none=>true)|none=>true
def yr0 (ops:Array Oper) (i:Nat):Option Tmp:=(ops[i]?).bind (·.dst)
inductive Tp (ops:Array Oper):Nat->Nat->Prop
 |one {i j:Nat} (h:(zs1 ops i).contains j=true):Tp ops i j
 |step {i k j:Nat} (h:(zs1 ops i).contains k=true) (t:Tp ops k j):Tp ops i j
def qr8 {x:Nat}: ∀ {l acc:List Nat},x∈gd3 acc l->x∈acc\/x∈l
 | [],_,h=>.inl h
 |y::r,acc,h=>by
  unfold gd3 at h;rcases qr8 h with h|h
  ·split at h
   ·exact .inl h
   ·rcases Z0.1 h with rfl|h
    ·exact .inr (U2 ..)
    ·exact .inl h
  ·exact .inr (Z4 _ h)
def yg6 (ops:Array Oper): ∀n,(yp1 ops n).length=n
 |0=>rfl
 |n+1=>by rw [yp1,X9,yg6 ops n];rfl
def zq6: ∀(n j i:Nat),i∈(yp1 ops n).getD j []->Tp ops j i
 |0,j,i,h=>by simp [yp1] at h
 |n+1,j,i,h=>by
  rw [yp1,Y2] at h;rcases J2 j n with hj|rfl|hj
  ·rw [X8 (by rw [yg6];exact hj),<-List.getD_eq_getElem?_getD] at h;exact zq6 n j i h
  ·rw [Z2 (by rw [yg6];exact W3 _),yg6,Nat.sub_self] at h;simp only [Y4,U3] at h;rcases qr8 h with h|h
   ·cases h
   ·rcases X4.1 h with h|h
    ·exact .one (by simpa using h)
    ·obtain ⟨k,hk,h⟩:=V1.1 h;exact .step (by simpa using hk) (zq6 j k i h)
  ·rw [Y5 (by simp [yg6];omega)] at h;simp at h
def Tp.lt (hb:yi5 ops=true) {i j:Nat} (t:Tp ops i j) (hi:i<ops.size):j<i:=by
 have one: ∀a b,a<ops.size->(zs1 ops a).contains b=true->b<a:=by
  intro a b ha h;unfold yi5 at hb;rw [Y8] at hb;have:=hb a (V2.2 ha);rw [Y8] at this;simpa [W9] using this b (by simpa using h)
 induction t with
 |one h=>exact one _ _ hi h
 |step h _ ih=>have h1:=one _ _ hi h;have:=ih (by omega);omega
def jr2 {md:Region.Mode} (I:Array Bool->Act->World->Prop)
  (step: ∀listed a w i,I listed a w->i∈Region.ready md ops listed->wpOp P ops Q i (I (listed.setIfInBounds i true)) a w)
  (fin: ∀listed a w,I listed a w->Region.ready md ops listed= []->Q .normal a w):
  ∀(fuel:Nat) (listed:Array Bool) (a:Act) (w:World),(listed.size=ops.size/\(listed.toList.filter (· ==false)).length<=fuel)->I listed a w->wpAny P md ops Q fuel listed a w
 |0,listed,a,w,hl,hI=>by
  have hr:Region.ready md ops listed= []:=by
   unfold Region.ready;rw [List.filter_eq_nil_iff];intro i hi;have hlt:i<listed.size:=by rw [hl.1];simpa using hi
   have:listed[i]=true:=by
    cases hb:listed[i] with
    |true=>rfl
    |false=>
     have:listed[i]∈listed.toList.filter (· ==false):=by
      rw [Q9];exact ⟨by simp,by simp [hb]⟩
     have h0:=List.length_pos_of_mem this;omega
   simp [this,hlt]
  exact ⟨hr,fin listed a w hI hr⟩
 |fuel+1,listed,a,w,hl,hI=>by
  refine ⟨fun hr=>fin listed a w hI hr,fun i hi=>wpOp_mono (fun a' w' hI'=>jr2 I step fin fuel _ a' w' ?_ hI') (step listed a w i hI hi)⟩;have hmem:i<ops.size/\listed.getD i true=false:=by
   unfold Region.ready at hi;rw [Q9] at hi;refine ⟨by simpa using hi.1,?_⟩;have:=hi.2;rw [X3] at this;simpa using this.1
  refine ⟨by simpa using hl.1,?_⟩;have hlt:i<listed.size:=by rw [hl.1];exact hmem.1
  have hfalse:listed[i]=false:=by
   have:=hmem.2;simpa [hlt] using this
  have key: ∀(l:List Bool) (i:Nat) (h:i<l.length),l[i]=false->((l.set i true).filter (· ==false)).length+1=(l.filter (· ==false)).length:=by
   intro l;induction l with
   |nil=>intro i h;simp at h
   |cons b r ih=>
    intro i h hb;cases i with
    |zero=>simp at hb;subst hb;simp
    |succ i=>
     have:=ih i (by simpa using h) (by simpa using hb);cases b<;>simp_all<;>omega
  have:=key listed.toList i (by simpa using hlt) (by simpa using hfalse);have e:(listed.setIfInBounds i true).toList=listed.toList.set i true:=by simp
  rw [e];omega
def zu5 (o:Oper):List Nat:=o.op.operands.toList.filterMap fun x=>match x with| .tmp t=>some t|_=>none
def yg9 (ops:Array Oper) (o:Oper):List Nat:=match o.guard with|some (g,_)=>(yr0 ops g).toList|none=> []
def jj3 {m:Nat} (h:zw1 (qt6 ops m)=true): ∀i j d,i<m->j<m->(ops[i]?).bind (·.dst)=some d->(ops[j]?).bind (·.dst)=some d->i=j:=by
 have key: ∀(l:List Nat),zw1 (l.filterMap fun i=>(ops[i]?).bind (·.dst))=true->l.Nodup-> ∀i j d,i∈l->j∈l->(ops[i]?).bind (·.dst)=some d->(ops[j]?).bind (·.dst)=some d->i=j:=by
  intro l;induction l with
  |nil=>intro _ _ i j d hi;simp at hi
  |cons x r ih=>
   intro hdi hn i j d hi hj h1 h2;rw [List.nodup_cons] at hn;have hmem: ∀y e,y∈r->(ops[y]?).bind (·.dst)=some e->e∈r.filterMap fun i=>(ops[i]?).bind (·.dst):=fun y e hy he=>List.mem_filterMap.2 ⟨y,hy,he⟩;have hrest:zw1 (r.filterMap fun i=>(ops[i]?).bind (·.dst))=true:=by
    rw [List.filterMap_cons] at hdi;split at hdi
    ·exact hdi
    ·simp only [zw1,X3] at hdi;exact hdi.2
   have hfirst: ∀e,(ops[x]?).bind (·.dst)=some e->e∉r.filterMap fun i=>(ops[i]?).bind (·.dst):=by
    intro e hx hm;rw [List.filterMap_cons] at hdi;split at hdi
    ·rename_i hn0;rw [hx] at hn0;cases hn0
    ·rename_i e' he';rw [hx] at he';cases he';simp only [zw1,X3,U4,List.contains_eq_mem,decide_eq_false_iff_not] at hdi;exact hdi.1 hm
   rcases Z0.1 hi with rfl|hi'
   ·rcases Z0.1 hj with rfl|hj'
    ·rfl
    ·exact absurd (hmem j d hj' h2) (hfirst d h1)
   ·rcases Z0.1 hj with rfl|hj'
    ·exact absurd (hmem i d hi' h1) (hfirst d h2)
    ·exact ih hrest hn.2 i j d hi' hj' h1 h2
 intro i j d hi hj;exact key (List.range m) h List.nodup_range i j d (V2.2 hi) (V2.2 hj)
end
end Go.V
namespace Go.V
open Go.RowKit
def wa5 {α β:Type} (a:α) (f:α->β):β:=f a
def gz7 {α β:Type} (o:Option α) (n:β) (f:α->β):β:=match o with|some x=>f x|none=>n
@[simp] theorem gw5 {α β : Type} (a : α) (f : α -> β) : wa5 a f = f a := rfl
@[simp] theorem gv1 {α β : Type} (n : β) (f : α -> β) : gz7 none n f = n := rfl
@[simp] theorem gv2 {α β : Type} (a : α) (n : β) (f : α -> β) : gz7 (some a) n f = f a := rfl
section
variable {P:Program} {w w':World} {α:Type} {f:FuncId} {args:Array Value}
end
def gy7 (k:IntKind) (x y:Int):Int:=k.wrap ((BitVec.ofInt k.bits x&&&BitVec.ofInt k.bits y).toNat:Int)
def bOr (k:IntKind) (x y:Int):Int:=k.wrap ((BitVec.ofInt k.bits x|||BitVec.ofInt k.bits y).toNat:Int)
def kz2 (k:IntKind) (x y:Int):Int:=k.wrap ((BitVec.ofInt k.bits x^^^BitVec.ofInt k.bits y).toNat:Int)
def vb2 (k:IntKind) (x y:Int):Int:=k.wrap ((BitVec.ofInt k.bits x&&& ~~~BitVec.ofInt k.bits y).toNat:Int)
def wa1 (k:IntKind) (x y:Int):Int:=k.wrap (x*2^(min y.toNat k.bits))
def wa2 (k:IntKind) (x y:Int):Int:=x.fdiv (2^(min y.toNat k.bits))
def gy9 (x y:Int):Int:=if y<x then y else x
def gy8 (x y:Int):Int:=if y>x then y else x
section
variable {P:Program} {ops:Array Oper} {k n:Nat} {F:PF} {dst:Option Tmp}
end
section
variable {P:Program}
def ys1 (P:Program) (t:TypeId) (cs:Array Value) (off:Nat):Option Value:=
 match P.underlying t with
 |some d=>(match zz5 d with|true=>(match P.info? t with|some i=>some (.agg (cs.extract off (off+i.size)))|none=>none)|false=>cs[off]?)
 |none=>none
def yj4 {t:TypeId} {cs:Array Value} {off:Nat} {v:Value} (h:ys1 P t cs off=some v) (w:World):(part t cs off).run P w=.ok v w:=by
 unfold ys1 at h;split at h
 ·rename_i d hd;unfold part;rw [Sem.run_bind,zt2 hd];split at h
  ·rename_i ha;rw [ha];split at h
   ·rename_i i hi;simp only [X0] at h;subst h;simp [sizeOf,typeInfo,hi]
   ·cases h
  ·rename_i ha;rw [ha];simp [h]
 ·cases h
def vp5 (P:Program) (rec:TypeId->Value->Value->Option Bool) (xs ys:Array Value):List Field->Option Bool
 | []=>some true
 | [f]=>match f.name== "_" with|true=>some true|false=>(match ys1 P f.type xs f.offset,ys1 P f.type ys f.offset with|some a,some b=>rec f.type a b|_,_=>none)
 |f::g::r=>match f.name== "_" with|true=>vp5 P rec xs ys (g::r)|false=>(match ys1 P f.type xs f.offset,ys1 P f.type ys f.offset with|some a,some b=>(match rec f.type a b,vp5 P rec xs ys (g::r) with|some p,some q=>some (p&&q)|_,_=>none)|_,_=>none)
def eqB (P:Program):Nat->TypeId->Value->Value->Option Bool
 |0,_,_,_=>none
 |d+1,t,x,y=>
  match P.underlying t,x,y with
  |some .bool,.bool a,.bool b=>some (a==b)
  |some (.int _),.int j a,.int j' b=>match decide (j=j') with|true=>some (a==b)|false=>none
  |some .string,.string a,.string b=>some (a==b)
  |some (.struct fs),.agg xs,.agg ys=>match P.stoodInHeld t with|true=>none|false=>vp5 P (eqB P d) xs ys fs.toList
  |_,_,_=>none
def ja0 (d:Nat) (xs ys:Array Value) (f:Field):Sem (ForInStep (Option Bool×Unit)):=
 if f.name≠ "_" then do
  let a<-part f.type xs f.offset
  let b<-part f.type ys f.offset
  let r<-Op.equalIn d f.type a b
  if (!r)=true then pure (ForInStep.done (some false,())) else pure (ForInStep.yield (none,()))
 else pure (ForInStep.yield (none,()))
def jg9 {xs ys:Array Value} {d:Nat} (hrec: ∀(t:TypeId) (x y:Value) (b:Bool),eqB P d t x y=some b-> ∀w:World,(Op.equalIn d t x y).run P w=.ok b w):
  ∀(fs:List Field) (b:Bool),vp5 P (eqB P d) xs ys fs=some b-> ∀w:World,
  (forIn (m:=Sem) fs ((none,()):Option Bool×Unit) (fun f _=>ja0 d xs ys f)).run P w=.ok (if b then (none,()) else (some false,())) w
 | [],b,h,w=>by
  simp only [vp5,X0] at h;subst h;rfl
 |f::r,b,h,w=>by
  have one: ∀(c:Bool),f.name≠ "_" ->(match ys1 P f.type xs f.offset,ys1 P f.type ys f.offset with|some a,some b=>eqB P d f.type a b|_,_=>none)=some c->
    (ja0 d xs ys f).run P w=.ok (if c then ForInStep.yield (none,()) else ForInStep.done (some false,())) w:=by
   intro c hn hc;split at hc
   ·rename_i x y hx hy;unfold ja0;rw [if_pos hn,Sem.run_bind,yj4 hx];simp only [Result.andThen_ok];rw [Sem.run_bind,yj4 hy];simp only [Result.andThen_ok];rw [Sem.run_bind,hrec _ _ _ _ hc];cases c<;>rfl
   ·cases hc
  have skip:f.name= "_" ->(ja0 d xs ys f).run P w=.ok (ForInStep.yield (none,())) w:=by
   intro hn;unfold ja0;rw [if_neg (by simpa using hn)];rfl
  rw [List.forIn_cons]
  match r,h with
  | [],h=>
   unfold vp5 at h;split at h
   ·rename_i hn;simp only [X0] at h;subst h;rw [Sem.run_bind,skip (by simpa using hn)];rfl
   ·rename_i hn;rw [Sem.run_bind,one b (by simpa using hn) h];cases b<;>rfl
  |g::r,h=>
   unfold vp5 at h;split at h
   ·rename_i hn;rw [Sem.run_bind,skip (by simpa using hn)];exact jg9 hrec (g::r) b h w
   ·rename_i hn;have hn':f.name≠ "_" :=by simpa using hn
    split at h
    ·rename_i x y hx hy;split at h
     ·rename_i p q hp hq;simp only [X0] at h;subst h;rw [Sem.run_bind,one p hn' (by rw [hx,hy];exact hp)];cases p
      ·rfl
      ·exact jg9 hrec (g::r) q hq w
     ·cases h
    ·cases h
def js1: ∀(d:Nat) (t:TypeId) (x y:Value) (b:Bool),eqB P d t x y=some b-> ∀w:World,(Op.equalIn d t x y).run P w=.ok b w
 |0,_,_,_,_,h,_=>by simp [eqB] at h
 |d+1,t,x,y,b,h,w=>by
  unfold eqB at h;unfold Op.equalIn;split at h
  ·rename_i a c ht;simp only [X0] at h;subst h;simp [underlying,ht]
  ·rename_i kk j a j' c ht;split at h
   ·rename_i hj;simp only [X0] at h;subst h;have:j=j':=by simpa using hj
    subst this;simp [underlying,ht]
   ·cases h
  ·rename_i a c ht;simp only [X0] at h;subst h;simp [underlying,ht]
  ·rename_i fs xs ys ht;split at h
   ·cases h
   ·rename_i hst;have hu:(underlying t).run P w=.ok (.struct fs) w:=by simp [underlying,ht]
    rw [Sem.run_bind,hu];simp only [Result.andThen_ok];have hp:(program).run P w=.ok P w:=rfl;rw [Sem.run_bind,hp];simp only [Result.andThen_ok,hst];have key:=jg9 (P:=P) (d:=d) (xs:=xs) (ys:=ys) (js1 d) fs.toList b h w;rw [<-Array.forIn_toList];simp only [Bool.false_eq_true,if_false];rw [Sem.run_bind];unfold ja0 at key;rw [key];cases b<;>rfl
  ·cases h
end
end Go.V
namespace Go.V
open Go.RowKit
def Mp (w:World) (g:Nat) (es:Array MapEntry) (c:Nat):Prop:=w.heap[g]?=some (.map es c)
def Mp.lt {w:World} {g:Nat} {es:Array MapEntry} {c:Nat} (h:Mp w g es c):g<w.heap.size:=(Y3.1 h).1
def Mp.chg {S:List Nat} {w w':World} {g:Nat} {es:Array MapEntry} {c:Nat} (h:Mp w g es c) (hc:Chg S w w') (hg:g∉S):Mp w' g es c:=(hc.block g h.lt hg).trans h
structure NewM (w w':World) (g:Nat) (es:Array MapEntry) (c:Nat):Prop where
 blk:Mp w' g es c
 chg:Chg [] w w'
 fresh:w.heap.size<=g
def yu1 (P:Program) (t:TypeId):Option (TypeId×TypeId×TypeDesc):=
 match P.underlying t with
 |some (.map kt et)=>(match P.underlying kt with|some d=>some (kt,et,d)|none=>none)
 |_=>none
def zf1 {P:Program} {t kt et:TypeId} {d:TypeDesc} (h:yu1 P t=some (kt,et,d)):P.underlying t=some (.map kt et)/\P.underlying kt=some d:=by
 unfold yu1 at h;split at h
 ·rename_i kt' et' hu;split at h
  ·rename_i d' hd;simp only [X0,X7] at h;obtain ⟨rfl,rfl,rfl⟩:=h;exact ⟨hu,hd⟩
  ·cases h
 ·cases h
section
variable {P:Program} {ops:Array Oper} {Q:Exit->Act->World->Prop} {k n:Nat} {ds:List Deferred} {F:PF} {w:World}
def ya6 (ops:Array Oper) (k n:Nat) (F:PF):Option (Option Tmp×TypeId):=
 match dec ops k n F with|some ⟨dst,.makeMap t none,_,_,_,_⟩=>some (dst,t)|_=>none
def WR.mkMap {dst:Option Tmp} {t:TypeId} (hd:ya6 ops k n F=some (dst,t))
  (K: ∀g w',NewM w w' g #[] 0->WR P ops Q (k+1) n ds (upd F dst (.map (some g))) w'):WR P ops Q k n ds F w:=by
 unfold ya6 at hd;split at hd
 ·rename_i d t' ty pos af gd hdec;simp only [X0,X7] at hd;obtain ⟨rfl,rfl⟩:=hd;refine .val hdec (v:=.map (some w.heap.size)) (w':=w.alloc (.map #[] 0)) ?_ (K _ _ ⟨(MapKept.heap_alloc w _).1,Chg.alloc w _,W3 _⟩);simp [execOp,Instr.makeMap]
 ·cases hd
def zu0 (ops:Array Oper) (k n:Nat) (F:PF):Option (Option Tmp×TypeId×Value×Value×Bool):=
 match dec ops k n F with|some ⟨dst,.lookup t m x co,_,_,_,_⟩=>some (dst,t,evD F m,evD F x,co)|_=>none
def lkV (z:Value):Bool->Option (Nat×Value)->Value
 |true,some (_,v)=>.tuple #[v,.bool true]
 |true,none=>.tuple #[z,.bool false]
 |false,some (_,v)=>v
 |false,none=>z
def jf4 {dst:Option Tmp} {t kt et:TypeId} {d:TypeDesc} {g c:Nat} {es:Array MapEntry} {x z:Value} {co:Bool} (hm:Mp w g es c) (hd:zu0 ops k n F=some (dst,t,.map (some g),x,co)) (hi:yu1 P t=some (kt,et,d)) (hk:MapKept.IsKey d x)
  (r:Option (Nat×Value)) (hf:Instr.findNow d x es.toList 0=some r) (hz:(P.info? et).bind (·.zero)=some z) (v:Value) (hv:lkV z co r=v):ye7 P ops k n F w=some (dst,.ok (.value v) w):=by
 obtain ⟨hu,hkd⟩:=zf1 hi;subst hv;unfold zu0 at hd;split at hd
 ·rename_i d' t' m' x' co' ty pos af gd hdec;simp only [X0,X7] at hd;obtain ⟨rfl,rfl,h1,h2,rfl⟩:=hd;unfold ye7;rw [hdec];have hb:w.heap[g]?=some (.map es c):=hm;have hzr:(zeroValue et).run P w=.ok z w:=by
   cases hin:P.info? et with
   |none=>rw [hin] at hz;cases hz
   |some i=>rw [hin] at hz;simp at hz;simp [zeroValue,typeInfo,hin,hz]
  cases r with
  |none=>cases co'<;>simp [execOp,h1,h2,Instr.lookup,run_underlying hu,MapKept.run_getObj_map hb,MapKept.run_checkKey hkd hk,MapKept.run_findKey hkd hf,Result.andThen,hzr,lkV]
  |some jv=>obtain ⟨j,v⟩:=jv;cases co'<;>simp [execOp,h1,h2,Instr.lookup,run_underlying hu,MapKept.run_getObj_map hb,MapKept.run_checkKey hkd hk,MapKept.run_findKey hkd hf,Result.andThen,lkV]
 ·cases hd
end
end Go.V
namespace Go.V
open Go.RowKit Go.ChangeShapes Go.WideShapes Go.ChangeAt Go.Deep
section
variable {H:Type} {enc:TypeId×Value->H} {P:Program} {w:World} {t e:TypeId}
def retLaw {w w':World} {v:Value} {e:Ending} (h:vp3 w v e w'):e=.returned v/\Chg [] w w':=by
 cases e with
 |returned u=>obtain ⟨h1,h2⟩:=h;subst h2;exact ⟨rfl,h1⟩
 |panicked ch=>exact h.elim
 |outgrown=>exact h.elim
def jy4 (hl:laidOutB P=true) {W W':World} (hb:Below W.heap.size W W') {sp:Nat->Bool}: ∀ {ts:List TypeId} {vs:List Value} {ds:List (DataW H)} {ps:List MemPlace},(ts.all fun t=>P.readableRec t&&decide (t<P.types.size))=true->
  DataW.TrodAll enc P W 0 (fun _=>true) true ts vs ds ps->(∀x∈ps,x.block<W.heap.size)->(∀x∈ps,sp x.block=true)->DataW.TrodAll enc P W' 0 sp true ts vs ds ps
 | [],[],[],_,_,h,_,_=>h
 |t::ts,v::vs,d::ds,ps,hr,h,hlt,hsp=>by
  obtain ⟨p,q,h1,h2,rfl⟩:=h;simp only [U0,X3,decide_eq_true_eq] at hr;exact ⟨p,q,WideElems.Trod_stays hl hr.1.1 hr.1.2 h1 (fun x hx=>hb.same (hlt x (by simp [hx]))) (fun x hx=>hsp x (by simp [hx])),jy4 hl hb (by simpa using hr.2) h2 (fun x hx=>hlt x (by simp [hx])) (fun x hx=>hsp x (by simp [hx])),rfl⟩
 | [],_::_,_,_,_,h,_,_=>by simp [DataW.TrodAll] at h
 | [],[],_::_,_,_,h,_,_=>by simp [DataW.TrodAll] at h
 |_::_,[],_,_,_,h,_,_=>by simp [DataW.TrodAll] at h
 |_::_,_::_,[],_,_,h,_,_=>by simp [DataW.TrodAll] at h
def lawPost {f:Func} {s:ChangeSpec} {tb:TypeId} {apart fresh handsOn:Bool} {W W':World} {args:Array Value} {ds gs:List (DataW H)} {before:List MemPlace} (hl:laidOutB P=true)
  (hW:DataW.Whole enc P f.params.toList s.vars apart W args.toList ds gs before) (hv:s.vars= []) (hs:s.fn H (ds++gs)= {results:= [.lit (.bool true)],args:=ds,vars:= []})
  (hrt:f.resultTypes= #[tb]) (hbt:P.underlying tb=some .bool) (hr:(f.params.toList.all fun t=>P.readableRec t&&decide (t<P.types.size))=true) (hc:Chg [] W W'):
  s.post enc P f apart fresh handsOn false W args (.bool true) W':=by
 have hlt:=hW.lt;have hW0:=hW;obtain ⟨p,q,hA,hV,rfl,hfz,hnd⟩:=hW;rw [hv] at hV;obtain ⟨rfl,rfl⟩:=trodVars_none hV;have hb:=hc.below;refine ⟨ds,[],p++ [],[],p,[],hW0,?_,?_,?_,hb.frame _,fun h=>by cases h⟩
 ·rw [hs,hrt];exact trodAll_mk1 (shut_bool hbt true)
 ·rw [hs];exact jy4 hl hb hr hA (fun x hx=>hlt x (by simpa using hx)) (fun x hx=>by simpa using hlt x (by simpa using hx))
 ·rw [hs,hv];rfl
end
end Go.V
