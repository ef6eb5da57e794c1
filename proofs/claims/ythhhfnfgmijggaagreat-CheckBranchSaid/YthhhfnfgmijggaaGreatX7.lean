import Derived.Test.YthhhfnfgmijggaaGreatXM
namespace Go.X
open Go.RowKit Go.V
structure CallSpec (T:Tab) where
 call: {R:Type}->List (AV T.U)->List (Ent T.U)->(AV T.U->List (Ent T.U)->Option R)->(AV T.U->List (Ent T.U)->Option R)->Option R
 q: {R:Type}->List (AV T.U)->List (Ent T.U)->(AV T.U->Option R)->Option R
 isq:Bool
 wr:List (AV T.U)->List (Ent T.U)->List Nat
structure Ctx (T:Tab) where
 ty:TypeId->Option Ty
 E:List (FuncId×CallSpec T)
 pin:Nat
 ms:List (Nat×Nat)
 lay:TypeId->Option Lay:=fun _=>none
 dr:TypeId->Option (Nat×List TypeId):=fun _=>none
section
variable {T:Tab} (P:Program) (C:Ctx T)
def qf0:List (FuncId×CallSpec T)->FuncId->Option (CallSpec T)
 | [],_=>none
 |(g,c)::r,f=>match Nat.beq g f with|true=>some c|false=>qf0 r f
def zi0:AV T.U->Bool| .eptr _ _ _ _=>false|_=>true
def wh3:Op->Bool| .move _=>true| .assign _=>true| .fieldAddr _ _ _=>true|_=>false
def zq6 (f:FuncId):Bool:=match P.funcs[f]? with|some fn=> !(fn.name== "runtime.NumGoroutine")&&fn.body.isSome|none=>false
def un5 (t:TypeId) (H:List (Ent T.U)) (a:AV T.U):Option Int:=
 match P.underlying t with
 |some (.map _ _)=>match a with
  | .mp i=>match H[i]? with|some (.tmap _ _ m)=>some ((m.length:Nat):Int)|_=>none
  |_=>none
 |_=>none
def qh2:List (AV T.U)->List Nat
 | []=> []
 | .mp i::r=>i::qh2 r
 |_::r=>qh2 r
def lenOf (t:TypeId) (H:List (Ent T.U)) (a:AV T.U):Option Int:=
 match P.underlying t with
 |some (.slice _)=>match uz0 T H a with|some n=>some ((n:Nat):Int)|none=>none
 |some .string=>match a with| .cell ⟨.str,s⟩=>some ((ByteArray.size s:Nat):Int)|_=>none
 |_=>none
section
variable {R:Type}
def jd7 (c:Bool) (x y:AV T.U) (K:AV T.U->Option R):Option R:=
 match gi4 T c x y with
 |some z=>K z
 |none=>match zi0 x&&zi0 y with|true=>if c=true then K x else K y|false=>none
def ym9 (c:Call) (st:St T) (K:AV T.U->List (Ent T.U)->Option R) (Kp:AV T.U->List (Ent T.U)->Option R):Option R:=
 match zu7 T st.F c.args.toList with
 |none=>none
 |some as=>
  match c.callee with
  | .value f=>match aev T st.F f with
   |some (.fn (.func g) first caps)=>match zq6 P g,qf0 C.E g with
    |true,some cs=>match (first++as++caps).all zi0 with|true=>cs.call (first++as++caps) st.H K Kp|false=>none
    |_,_=>none
   |_=>none
  | .builtin .append=>match as,c.argTypes.toList with
   | [s,x],[t,t']=>match Nat.beq t t',C.ty t with|true,some e=>appA T P e t st.H s x K|_,_=>none
   |_,_=>none
  | .builtin .clear=>match as,c.argTypes.toList with
   | [s],[t]=>yo0 T P t st.H s K
   |_,_=>none
  | .builtin .delete=>match as,c.argTypes.toList with
   | [m,.cell ⟨.int kx,x⟩],t::_=>(match wd5 T P t st.H m kx x with|some H1=>K (.tup []) H1|none=>none)
   |_,_=>none
  |_=>none
def vi1 (o:Oper) (F:AF T):List Nat:=
 match o.op with
 | .load _ x=>match aev T F x with|some a=>a.ids|none=> []
 | .convert _ _ x=>match aev T F x with|some a=>a.ids|none=> []
 | .lookup _ m _ _=>match aev T F m with|some a=>a.ids|none=> []
 | .call c=>match c.callee with
  | .value f=>match aev T F f,zu7 T F c.args.toList with|some a,some as=>a.ids++w9 as|_,_=> []
  | .builtin .len=>match zu7 T F c.args.toList with|some as=>qh2 as|none=> []
  |_=> []
 |_=> []
def gh6:Op->Bool
 | .indexAddr t _ _=>(zg9 P t).isSome
 | .index t _ _=>(zg9 P t).isSome
 | .slice t _ _ _ none=>(gl9 P t).isSome
 | .sliceToArrayPointer _ _=>true
 | .load t _=>(zg9 P t).isSome
 | .nilCheck _=>true
 | .lookup _ _ _ _=>true
 |_=>false
def gf8 (t:TypeId):Bool:=match P.underlying t with|some (.array _ e)=>(match P.underlying e with|some d=> !yb6 d|none=>false)|_=>false
def yn2 (o:Oper) (st:St T) (K:AV T.U->Option R):Option R:=
 match o.op with
 | .indexAddr t x y=>match zg9 P t,aev T st.F x,aev T st.F y with
  |some (n,sz),some s,some (.cell ⟨.int _,j⟩)=>yd3 T n sz st.H s j K
  |_,_,_=>none
 | .index t x y=>match zg9 P t,aev T st.F x,aev T st.F y,gf8 P t with
  |some (n,sz),some s,some (.cell ⟨.int _,j⟩),true=>yo8 T n sz s j K
  |_,_,_,_=>none
 | .slice t x lo hi none=>match gl9 P t,aev T st.F x,qd6 st.F lo,qd6 st.F hi with
  |some (n,sz),some s,some l,some h=>yp7 T n sz st.H s l h K
  |_,_,_,_=>none
 | .sliceToArrayPointer t x=>match zg9 P t,aev T st.F x with
  |some (n,sz),some s=>yp5 T n sz st.H s K
  |_,_=>none
 | .load t x=>match zg9 P t,aev T st.F x with
  |some (n,sz),some p=>yl3 T n sz (match P.info? t with|some i=>Nat.beq i.size (n*sz)|none=>false) st.H p K (j7 (loadA T P t st.H p) K)
  |_,_=>none
 | .nilCheck x=>match aev T st.F x with|some a=>(match wi6 a with|true=>K a|false=>none)|none=>none
 | .lookup t m x co=>match aev T st.F m,aev T st.F x with
  |some a,some (.cell ⟨.int kx,x⟩)=>ji0 T P t co st.H a kx x fun b=>match zi0 b with|true=>K b|false=>none
  |_,_=>none
 |_=>none
def zp9 (o:Oper) (st:St T) (K:AV T.U->Option R):Option R:=
 match ji4 T P o.op st.F with
 |some a=>match wh3 o.op||zi0 a with|true=>K a|false=>none
 |none=>match o.op with
  | .pick c a b=>match aev T st.F c,aev T st.F a,aev T st.F b with
   |some (.cell ⟨.bool,c⟩),some x,some y=>jd7 c x y K
   |_,_,_=>none
  | .binOp b _ x y _=>match aev T st.F x,aev T st.F y with
   |some x,some y=>divA T b x y K
   |_,_=>none
  | .load t x=>match aev T st.F x with
   |some p=>match loadA T P t st.H p with|some a=>K a|none=>none
   |none=>none
  | .convert s d x=>match P.underlying s,P.underlying d,aev T st.F x with
   |some (.slice e),some .string,some a=>match P.underlying e with
    |some (.int .u8)=>rdF T st.H (.list (.int .u8)) a fun xs=>K (.cell ⟨.str,yt9 xs⟩)
    |_=>none
   |_,_,_=>none
  | .index t x y=>match P.underlying t,aev T st.F x,aev T st.F y with
   |some .string,some (.cell ⟨.str,s⟩),some (.cell ⟨.int _,j⟩)=>jd1 s j fun b=>K (cI T .u8 b)
   |_,_,_=>none
  | .indexAddr t x y=>match aev T st.F x,aev T st.F y with
   |some s,some (.cell ⟨.int _,j⟩)=>zz6 T P t st.H s j K
   |_,_=>none
  | .slice t x lo hi none=>match aev T st.F x,qd6 st.F lo,qd6 st.F hi with
   |some s,some l,some h=>match l,h with
    |none,none=>none
    |l,h=>yd6 T P t st.H s l h K
   |_,_,_=>none
  | .typeAssert x _ at_ ok=>match aev T st.F x with
   |some a=>match yx2 T P a at_ ok with|some b=>(match zi0 b with|true=>K b|false=>none)|none=>none
   |none=>none
  | .call c=>match zu7 T st.F c.args.toList with
   |none=>none
   |some as=>match c.callee with
    | .builtin .len=>match as,c.argTypes.toList with
     | [a],[t]=>match lenOf P t st.H a with
      |some n=>K (cI T .i64 n)
      |none=>match un5 P t st.H a with|some n=>K (cI T .i64 n)|none=>none
     |_,_=>none
    | .builtin .min=>match ul9 T as with|some a=>K a|none=>none
    | .builtin .max=>match um4 T as with|some a=>K a|none=>none
    |_=>none
  |_=>none
def zv9 (o:Oper) (st:St T) (K:AV T.U->Option R):Option R:=match gh6 P o.op with|true=>yn2 P o st K|false=>zp9 P o st K
def stepA (o:Oper) (st:St T) (K:St T->Option R) (Kp:AV T.U->St T->Option R):Option R:=
 let put:=fun (a:AV T.U) (H:List (Ent T.U))=>K ⟨zb7 T st.F o.dst a,H⟩
 match o.op with
 | .alloc e=>match qi6 T P e with
  |some cs=>(match gp6 T (C.lay e) cs with|some cs=>put (.ptr st.H.length 0) (st.H++ [.blk e cs])|none=>none)
  |none=>none
 | .box e x=>match aev T st.F x with
  |some a=>match ul8 T (C.lay e) a with|some cs=>put (.ptr st.H.length 0) (st.H++ [.blk e cs])|none=>none
  |none=>none
 | .makeMap t none=>match vb3 P t,C.ty t with
  |some (k,_,_),none=>put (.mp st.H.length) (st.H++ [.map k []])
  |some (k,_,_),some ty=>put (.mp st.H.length) (st.H++ [.tmap k ty []])
  |none,_=>none
 | .insert t m x v=>match o.dst,aev T st.F m,aev T st.F x,aev T st.F v with
  |none,some a,some (.cell ⟨.int kx,x⟩),some b=>(match zi0 b,ky7 T P t st.H a kx x b with|true,some H1=>K ⟨st.F,H1⟩|_,_=>none)
  |_,_,_,_=>none
 | .mapUpdate t m x v=>match o.dst,aev T st.F m,aev T st.F x,aev T st.F v with
  |none,some a,some (.cell ⟨.int kx,x⟩),some b=>(match zi0 b,ky7 T P t st.H a kx x b with|true,some H1=>K ⟨st.F,H1⟩|_,_=>none)
  |_,_,_,_=>none
 | .store t x y=>match o.dst,aev T st.F x,aev T st.F y with
  |none,some p,some a=>match je8 T P t st.H p a with|some H1=>K ⟨st.F,H1⟩|none=>none
  |_,_,_=>none
 | .makeSlice t x y=>match aev T st.F x,aev T st.F y,C.ty t with
  |some (.cell ⟨.int _,l⟩),some (.cell ⟨.int _,c⟩),some e=>ju2 T P e t st.H l c put
  |_,_,_=>none
 | .buildSlice t len ps=>match zz9 T st.F ps.toList,C.ty t with
  |some l,some ty=>match vl0 T P ty t len l with|some (e,xs)=>put (.own st.H.length) (st.H++ [.row e ty xs])|none=>none
  |some l,none=>match vl4 T P t len l with|some (e,sz,cs)=>put (.sl st.H.length sz 0 len) (st.H++ [.blk e cs])|none=>none
  |_,_=>none
 | .call c=>match reads c with
  |true=>zv9 P o st fun a=>put a st.H
  |false=>ym9 P C c st put fun a H=>Kp a ⟨st.F,H⟩
 | .convert s d x=>match P.underlying s,P.underlying d,aev T st.F x with
  |some .string,some (.slice e),some (.cell ⟨.str,b⟩)=>match P.underlying e with
   |some (.int .u8)=>put (.cell ⟨.list (.int .u8),zs4 b⟩) st.H
   |_=>none
  |some (.slice _),some (.slice e),some (.own i)=>match Nat.beq s d,C.ty d,P.underlying e,appA.rowIn T (.int .u8) st.H (.own i) with
   |true,some _,some (.int .u8),some (x::xs)=>put (.cell ⟨.list (.int .u8),x::xs⟩) (st.H.set i .gone)
   |_,_,_,_=>none
  |_,_,_=>zv9 P o st fun a=>put a st.H
 | .panic x=>match aev T st.F x with|some (.ifc t a)=>Kp (.ifc t a) st|_=>none
 |_=>zv9 P o st fun a=>put a st.H
where
 reads (c:Call):Bool:=match c.callee with| .builtin .len=>true| .builtin .min=>true| .builtin .max=>true|_=>false
end
end
section
variable {T:Tab} {P:Program} {C:Ctx T} {w w':World} {S S':List Nat} {φ φ':Nat->RA} {w0:World} {S0:Ow} {F:AF T} {H:List (Ent T.U)} {F':PF}
variable {rd:List Nat} {ops:Array Oper} {Q:Exit->Act->World->Prop} {k n:Nat} {ds:List Deferred} {o:Oper}
def zb4 (T:Tab) (P:Program) (f:FuncId) (cs:CallSpec T):Prop:=
 ∀ {R:Type} (as:List (AV T.U)) (H:List (Ent T.U)) (K Kp:AV T.U->List (Ent T.U)->Option R) (r:R),cs.call as H K Kp=some r->
  ∀(w0:World) (S0:Ow) (F:AF T) (F':PF) (w:World) (S:List Nat) (φ:Nat->RA),Sim T w0 S0 ⟨F,H⟩ F' w S φ-> ∀vs:List Value,VRL T w S φ as vs->(∀a∈as,okA H a)->
  Calls P f vs.toArray w fun e w'=>match e with
   | .returned v=> ∃a H1,K a H1=some r/\ ∃S1 φ1,Sim T w0 S0 ⟨F,H1⟩ F' w' S1 φ1/\VR T w' S1 φ1 a v/\okA H1 a
   | .panicked ch=> ∃a H1,Kp a H1=some r/\ ∃v,ch= [{v:=v,recovered:=false}]/\ ∃S1 φ1,Sim T w0 S0 ⟨F,H1⟩ F' w' S1 φ1/\VR T w' S1 φ1 a v/\okA H1 a
   | .outgrown=>False
def zk2 (T:Tab) (P:Program) (f:FuncId) (cs:CallSpec T):Prop:=
 ∀ {R:Type} (as:List (AV T.U)) (H:List (Ent T.U)) (K:AV T.U->Option R) (r:R),cs.q as H K=some r->
  ∀(w0:World) (S0:Ow) (F:AF T) (F':PF) (w:World) (S:List Nat) (φ:Nat->RA),Sim T w0 S0 ⟨F,H⟩ F' w S φ-> ∀vs:List Value,VRL T w S φ as vs->(∀a∈as,okA H a)->
  ∃a v,K a=some r/\VR T w S φ a v/\okA H a/\ ∀w1,Chg S w w1->Same φ (w9 as) w w1->Calls P f vs.toArray w1 (un2 w1 v)
structure Keeps (T:Tab) (l:List Nat) (H H1:List (Ent T.U)):Prop where
 len:H.length<=H1.length
 same: ∀e,e<H.length->e∉l->H1[e]?=H[e]?
 row: ∀(e:Nat) (ty:TypeId) (t:Ty) (ys:List (den T.U t)),e<H.length->H1[e]?=some (.row ty t ys)-> ∃xs,H[e]?=some (.row ty t xs)
def yh1 (cs:CallSpec T):Prop:=
 ∀ {R:Type} (as:List (AV T.U)) (H:List (Ent T.U)) (K Kp:AV T.U->List (Ent T.U)->Option R) (r:R),cs.call as H K Kp=some r->
  (∃a H1,K a H1=some r/\Keeps T (cs.wr as H) H H1/\ ∀ {R':Type} (K' Kp':AV T.U->List (Ent T.U)->Option R'),cs.call as H K' Kp'=K' a H1)\/
  ∃a H1,Kp a H1=some r/\Keeps T (cs.wr as H) H H1/\ ∀ {R':Type} (K' Kp':AV T.U->List (Ent T.U)->Option R'),cs.call as H K' Kp'=Kp' a H1
def v7 (T:Tab) (P:Program) (E:List (FuncId×CallSpec T)):Prop:= ∀f cs,qf0 E f=some cs->zb4 T P f cs/\zk2 T P f cs/\yh1 cs
theorem zd9 {a:AV T.U} (h:zi0 a=true) (hi: ∀i∈a.ids,i<H.length):okA H a:=⟨hi,by cases a<;>first|trivial|cases h⟩
theorem jq5 {l:List Operand} (hs:Sim T w0 S0 ⟨F,H⟩ F' w S φ): ∀ {as:List (AV T.U)},zu7 T F l=some as-> ∀i∈w9 as,i<H.length:=by
 induction l with
 |nil=>intro as h;simp only [zu7,X0] at h;subst h;intro i hi;cases hi
 |cons x r ih=>
  intro as h;unfold zu7 at h;split at h
  ·rename_i a l ha hl;simp only [X0] at h;subst h;intro i hi;rw [w9] at hi;rcases X4.1 hi with hi|hi
   ·exact (zd0 hs ha).1 i hi
   ·exact ih hl i hi
  ·cases h
theorem vi6 {as cs:List (AV T.U)} {o0:Nat} {m:Nat} (h1: ∀i∈w9 cs,i<m) (h2: ∀i∈w9 as,i<m): ∀i∈w9 (yi4 T cs o0 as),i<m:=fun i hi=>(yy5 i hi).elim (h1 i) (h2 i)
theorem ja7 {place:Nat->Option (Nat×Nat)} {m:Nat}: ∀ {ps:List (Nat×AV T.U)} {cs cs':List (AV T.U)},yw5 T place cs ps=some cs'->(∀i∈w9 cs,i<m)->(∀i∈w9 (ps.map Prod.snd),i<m)-> ∀i∈w9 cs',i<m
 | [],cs,cs',h,h1,_=>by simp only [yw5,X0] at h;subst h;exact h1
 |(j,a)::r,cs,cs',h,h1,h2=>by
  rw [List.map_cons,w9] at h2;unfold yw5 at h;split at h
  ·split at h
   ·rename_i hok;simp only [X3] at hok;exact ja7 h (vi6 h1 (by rw [yf8 hok.1];exact fun i hi=>h2 i (X4.2 (.inl hi)))) fun i hi=>h2 i (X4.2 (.inr hi))
   ·cases h
  ·cases h
theorem jk3 {l:List (Nat×Operand)} (hs:Sim T w0 S0 ⟨F,H⟩ F' w S φ): ∀ {as:List (Nat×AV T.U)},zz9 T F l=some as-> ∀i∈w9 (as.map Prod.snd),i<H.length:=by
 induction l with
 |nil=>intro as h;simp only [zz9,X0] at h;subst h;intro i hi;cases hi
 |cons x r ih=>
  intro as h;obtain ⟨j,x⟩:=x;unfold zz9 at h;split at h
  ·rename_i a l ha hl;simp only [X0] at h;subst h;intro i hi;rw [List.map_cons,w9] at hi;rcases X4.1 hi with hi|hi
   ·exact (zd0 hs ha).1 i hi
   ·exact ih hl i hi
  ·cases h
theorem vu1 {t:TypeId} {lit:Bool} {x y a:AV T.U} {neg:Bool} (h:eqA T P t lit x y neg=some a):a.ids= []:=by
 unfold eqA at h;split at h
 ·simp only [X0] at h;subst h;rfl
 split at h
 ·simp only [X0] at h;subst h;rfl
 split at h
 ·split at h
  ·simp only [X0] at h;subst h;rfl
  ·cases h
 ·simp only at h;split at h
  ·split at h
   ·simp only [X0] at h;subst h;rfl
   ·cases h
  ·cases h
 ·cases h
theorem we2 {u:UnOp} {x a:AV T.U} (h:unA T u x=some a):a.ids= []:=by
 unfold unA at h;split at h
 ·unfold unI at h;split at h
  ·simp only [X0] at h;subst h;rfl
  ·simp only [X0] at h;subst h;rfl
  ·cases h
 ·split at h
  ·simp only [X0] at h;subst h;rfl
  ·cases h
 ·cases h
theorem ks5 {b:BinOp} {t:TypeId} {lit:Bool} {x y a:AV T.U} (h:gk1 T P b t lit x y=some a):a.ids= []:=by
 unfold gk1 at h;split at h
 ·split at h
  ·cases b<;>simp only [wh2,X0,reduceCtorEq] at h<;>subst h<;>rfl
  ·cases h
 ·simp only [X0] at h;subst h;rfl
 ·simp only [X0] at h;subst h;rfl
 ·exact vu1 h
 ·exact vu1 h
 ·cases h
theorem kc4 {op:Op} {a:AV T.U} (hs:Sim T w0 S0 ⟨F,H⟩ F' w S φ) (h:ji4 T P op F=some a): ∀i∈a.ids,i<H.length:=by
 unfold ji4 at h;split at h
 ·exact (zd0 hs h).1
 ·exact (zd0 hs h).1
 ·split at h
  ·rw [ks5 h];intro i hi;cases hi
  ·cases h
 ·split at h
  ·rw [we2 h];intro i hi;cases hi
  ·cases h
 ·split at h
  ·simp only [X0] at h;subst h;intro i hi;cases hi
  ·cases h
 ·split at h
  ·rename_i vs hx;have:=(zd0 hs hx).1;intro i hi;exact this i (by rw [AV.ids];exact zh1 (X6 h) i hi)
  ·cases h
 ·split at h
  ·rename_i x hx;have:=(zd0 hs hx).1;unfold qg3 at h;split at h
   ·split at h
    ·intro i hi;exact this i (by rw [AV.ids];exact jo0 h i hi)
    ·cases h
   ·cases h
  ·cases h
 ·split at h
  ·rename_i x d hx hd;have:=(zd0 hs hx).1;split at h
   ·cases h
   ·simp only [X0] at h;subst h;intro i hi;exact this i (by rw [AV.ids] at hi;exact hi)
  ·cases h
 ·split at h
  ·rename_i x y hx hy;simp only [X0] at h;subst h;intro i hi;rw [AV.ids] at hi;rcases X4.1 hi with hi|hi
   ·exact jq5 hs hx i hi
   ·exact jq5 hs hy i hi
  ·cases h
 ·split at h
  ·rename_i pl z l hpl hz hl;split at h
   ·rename_i cs hcs;simp only [X0] at h;subst h;unfold qi6 at hz;split at hz
    ·simp only [X0] at hz;subst hz;intro i hi;rw [AV.ids] at hi;exact ja7 hcs (by rw [yn1];intro i hi;cases hi) (jk3 hs hl) i hi
    ·cases hz
   ·cases h
  ·cases h
 ·split at h
  ·rename_i x ft f m ag hx hp;have:=(zd0 hs hx).1;split at h
   ·cases h
   ·unfold ve2 at h;split at h<;>simp only [X0,reduceCtorEq] at h<;>subst h<;>exact this
  ·cases h
 ·cases h
theorem kt5 {op:Op} {a:AV T.U} (hs:Sim T w0 S0 ⟨F,H⟩ F' w S φ) (h:ji4 T P op F=some a) (hm:(wh3 op||zi0 a)=true):okA H a:=by
 rcases Bool.or_eq_true _ _▸hm with hm|hm
 ·cases op<;>first|cases hm|skip
  ·exact zd0 hs h
  ·exact zd0 hs h
  ·unfold ji4 at h;simp only at h;split at h
   ·rename_i x ft f m ag hx hp;have hx':=zd0 hs hx;split at h
    ·cases h
    ·unfold ve2 at h;split at h<;>simp only [X0,reduceCtorEq] at h<;>subst h
     ·exact ⟨hx'.1,trivial⟩
     ·exact hx'
     ·exact ⟨hx'.1,trivial⟩
     ·exact ⟨hx'.1,trivial⟩
   ·cases h
 ·exact zd9 hm (kc4 hs h)
theorem VR.int (kk:IntKind) (x:Int):VR T w S φ (cI T kk x) (.int kk x):=by rw [VR];exact CR.int _ _
theorem VR.bool (x:Bool):VR T w S φ (cB T x) (.bool x):=by rw [VR];exact CR.bool _
theorem jq8 {a:AV T.U} {v:Value} (hd:dec ops k n F'=some o) (hr:(execOp (evD F') o).run P w=.ok (.value v) w) (h:Sim T w0 S0 ⟨F,H⟩ F' w S φ) (hv:VR T w S φ a v) (hok:okA H a) (K:zw3 P ops Q (k+1) n ds w0 S0 (⟨zb7 T F o.dst a,H⟩:St T)):WR P ops Q k n ds F' w:=
 .val hd hr (K _ _ ⟨S,φ,h.slot hv hok⟩)
theorem kd2 {c:Bool} {x y z:AV T.U} (h:gi4 T c x y=some z) {X Y:Value} (hx:VR T w S φ x X) (hy:VR T w S φ y Y):VR T w S φ z (if c=true then X else Y)/\z.ids= []/\zi0 z=true:=by
 unfold gi4 at h;split at h
 ·split at h
  ·rename_i hk;have:=zc1 hk;subst this;simp only [X0] at h;subst h;have e1:=za8 hx;have e2:=za8 hy;subst e1;subst e2;refine ⟨?_,rfl,rfl⟩;cases c<;>exact .int _ _
  ·cases h
 ·simp only [X0] at h;subst h;have e1:=zg5 hx;have e2:=zg5 hy;subst e1;subst e2;refine ⟨?_,rfl,rfl⟩;cases c<;>exact .bool _
 ·cases h
theorem wo0 {Z:Prop} {R:Type} {r:R} {c x y:Operand} (hd:dec ops k n F'=some o) (hop:o.op=.pick c x y) {t:Bool} {a b:AV T.U} (hc:aev T F c=some (cB T t)) (hx:aev T F x=some a) (hy:aev T F y=some b) {K0:AV T.U->Option R} (hK0:jd7 t a b K0=some r)
  (h:Sim T w0 S0 ⟨F,H⟩ F' w S φ) (K: ∀a v,K0 a=some r->QR P F' o S φ rd w v->VR T w S φ a v->okA H a->Z):Z:=by
 obtain ⟨C',h1,h2⟩:=w7 h.fr hc;have e:=zg5 h2;subst e;obtain ⟨X,h3,h4⟩:=w7 h.fr hx;obtain ⟨Y,h5,h6⟩:=w7 h.fr hy;have hr:QR P F' o S φ rd w (if t=true then X else Y):=fun w1 _ _=>by simp [execOp,hop,u0 h1,u0 h3,u0 h5,asBool]
 unfold jd7 at hK0;split at hK0
 ·rename_i z hz;obtain ⟨g1,g2,g3⟩:=kd2 hz h4 h6;exact K _ _ hK0 hr g1 (zd9 g3 (by rw [g2];intro i hi;cases hi))
 ·split at hK0
  ·rename_i hne;simp only [X3] at hne;cases t with
   |true=>rw [if_pos rfl] at hK0 hr;exact K _ _ hK0 hr h4 (zd0 h hx)
   |false=>rw [if_neg (by simp)] at hK0 hr;exact K _ _ hK0 hr h6 (zd0 h hy)
  ·cases hK0
theorem ya2 {R:Type} {c:Prop} {_:Decidable c} {x:Option R} {r:R} (h:(if c then none else x)=some r): ¬c/\x=some r:=by
 split at h
 ·cases h
 ·rename_i hc;exact ⟨hc,h⟩
theorem ut9 {Z:Prop} {R:Type} {r:R} {b:BinOp} {t ty:TypeId} {x y:Operand} (hd:dec ops k n F'=some o) (hop:o.op=.binOp b t x y ty) {a c:AV T.U} (hx:aev T F x=some a) (hy:aev T F y=some c) {K0:AV T.U->Option R} (hK0:divA T b a c K0=some r)
  (h:Sim T w0 S0 ⟨F,H⟩ F' w S φ) (K: ∀a v,K0 a=some r->QR P F' o S φ rd w v->VR T w S φ a v->okA H a->Z):Z:=by
 obtain ⟨X,h1,h2⟩:=w7 h.fr hx;obtain ⟨Y,h3,h4⟩:=w7 h.fr hy;have hi: ∀(kk:IntKind) (z:Int),okA H (cI T kk z):=fun kk z=>⟨fun i hi=>(by cases hi),trivial⟩;unfold divA at hK0;split at hK0
 ·split at hK0
  ·rename_i hk;have:=zc1 hk;subst this;have e1:=za8 h2;have e2:=za8 h4;subst e1;subst e2;unfold divA.divI at hK0;obtain ⟨hne,hK⟩:=ya2 hK0;exact K _ _ hK (fun w1 _ _=>by simp [execOp,hop,u0 h1,u0 h3,eqGuard,binOp,Op.intDiv,hne]) (.int _ _) (hi _ _)
  ·cases hK0
 ·split at hK0
  ·rename_i hk;have:=zc1 hk;subst this;have e1:=za8 h2;have e2:=za8 h4;subst e1;subst e2;unfold divA.remI at hK0;obtain ⟨hne,hK⟩:=ya2 hK0;exact K _ _ hK (fun w1 _ _=>by simp [execOp,hop,u0 h1,u0 h3,eqGuard,binOp,Op.intDiv,hne]) (.int _ _) (hi _ _)
  ·cases hK0
 ·have e1:=za8 h2;have e2:=za8 h4;subst e1;subst e2;unfold divA.shlI at hK0;obtain ⟨hne,hK⟩:=ya2 hK0;exact K _ _ hK (fun w1 _ _=>by simp [execOp,hop,u0 h1,u0 h3,eqGuard,binOp,Op.shift,hne,ya4]) (.int _ _) (hi _ _)
 ·have e1:=za8 h2;have e2:=za8 h4;subst e1;subst e2;unfold divA.shrI at hK0;obtain ⟨hne,hK⟩:=ya2 hK0;exact K _ _ hK (fun w1 _ _=>by simp [execOp,hop,u0 h1,u0 h3,eqGuard,binOp,Op.shift,hne,zc0]) (.int _ _) (hi _ _)
 ·cases hK0
theorem qk5 {Z:Prop} {t:TypeId} {x:Operand} (hd:dec ops k n F'=some o) (hop:o.op=.load t x) {i o1 sz n0 j c:Nat} {e:TypeId} {cs r:List (AV T.U)} {ty:Ty} {xs:List (den T.U ty)} {a:AV T.U} (hx:aev T F x=some (.aptr i o1 sz n0 j c)) (hi:H[i]?=some (.blk e cs)) (hloc:jc1 T cs o1=some (.arr ty n0 xs::r)) (hsz:szT T ty=sz) (hl:zr2 T P t (zt4 T ty (xs.getD j (zy2 T ty))) c=some a)
  (h:Sim T w0 S0 ⟨F,H⟩ F' w S φ) (hrd:i∈rd) (K: ∀v,QR P F' o S φ rd w v->VR T w S φ a v->okA H a->Z):Z:=by
 obtain ⟨v,h1,g,h2,hj,rfl⟩:=w7 h.fr hx;obtain ⟨g',cc,vals,a1,a2,a3,a4,a5,a6⟩:=kx9 (h.ents i _ hi) hloc;rw [h2] at a1;simp only [X0,Addr.mk.injEq,and_true] at a1;subst a1;subst hsz;have hcut:=a6.cut (j*szT T ty) (szT T ty);rw [yh5 (za7 T ty) (zm4 (zy2 T ty) (show j<xs.length by omega))] at hcut;have hr:Rg w (some ⟨g,o1+j*szT T ty,none⟩) ((vals.drop (j*szT T ty)).take (szT T ty)):=Rg.sub a5 _ _ _ fun _=>rfl;exact qd5 hd hop (b:=g) (o0:=o1+j*szT T ty) (c:=c) (by rw [h1,Nat.add_assoc]) (fun w1 _ hsm=>Rg.same hr (show w1.heap[g]?=w.heap[g]? from hsm i hrd _ h2 a2.lt)) (CellsR.vrl hcut) (yr0 _ _) (yq4 _ _) hl K
theorem ge9 {Z:Prop} {t:TypeId} {x:Operand} (hd:dec ops k n F'=some o) (hop:o.op=.load t x) {p a:AV T.U} (hx:aev T F x=some p) (hl:loadA T P t H p=some a) (h:Sim T w0 S0 ⟨F,H⟩ F' w S φ) (hrd: ∀i∈p.ids,i∈rd) (K: ∀v,QR P F' o S φ rd w v->VR T w S φ a v->okA H a->Z):Z:=by
 unfold loadA at hl;split at hl
 ·split at hl
  ·rename_i e cs hi;split at hl
   ·cases hl
   ·rename_i hne;exact vi5 hd hop hx hi (fun i sz kk c e=>hne i sz kk c (e▸hl)) hl h (hrd _ (by simp [AV.ids])) K
  ·cases hl
 ·split at hl
  ·rename_i e cs hi;split at hl
   ·rename_i b r hloc;split at hl
    ·rename_i ty n' xs hb;have:=zr6 hb;subst this;split at hl
     ·rename_i hm;rw [X3] at hm;have hm1:=X1 hm.1;have hm2:=X1 hm.2;subst hm1;exact qk5 hd hop hx hi hloc hm2 hl h (hrd _ (by simp [AV.ids])) K
     ·cases hl
    ·cases hl
   ·cases hl
  ·cases hl
 ·split at hl
  ·rename_i e ty xs hi;exact qj5 hd hop hx hi hl h (hrd _ (by simp [AV.ids])) K
  ·cases hl
 ·exact qj4 hd hop hx hl h K
 ·cases hl
theorem kp7 {t:TypeId} {x y:Operand} (hd:dec ops k n F'=some o) (hop:o.op=.store t x y) (hdst:o.dst=none) {p a:AV T.U} {H1:List (Ent T.U)} (hx:aev T F x=some p) (hy:aev T F y=some a) (hs:je8 T P t H p a=some H1) (h:Sim T w0 S0 ⟨F,H⟩ F' w S φ) (K:zw3 P ops Q (k+1) n ds w0 S0 (⟨F,H1⟩:St T)):WR P ops Q k n ds F' w:=by
 unfold je8 at hs;split at hs
 ·split at hs
  ·rename_i e cs hi;split at hs
   ·rename_i cs' hf;simp only [X0] at hs;subst hs;obtain ⟨X,h1,g,h2,rfl⟩:=w7 h.fr hx;exact yr9 hd hop hdst h1 h2 hy hi (fun vs v hb hv=>vi2 hf hb hv) h K
   ·cases hs
  ·cases hs
 ·rename_i i1 o1 sz1 n1 k1 c1;split at hs
  ·rename_i e cs hi;split at hs
   ·rename_i l hf hl;split at hs
    ·rename_i cs' ht;simp only [X0] at hs;subst hs;obtain ⟨X,h1,g,h2,hk1,rfl⟩:=w7 h.fr hx;obtain ⟨ii,hii,f1,f2,f3,f4⟩:=yc0 hf;refine yr9 hd hop hdst h1 h2 hy hi (fun vs v hb hv=>?_) h K;have hcr:=zr0 hl (zj4 f1 hv);have hcl:=(zj4 f1 hv).len T;obtain ⟨g1,g2,g3⟩:=BR.turn (us:=v.cells.toList) (ex:= []) ht hb fun l1 l2 B hf1 hB=>qj8 hf1 hB hk1 hcr;refine ⟨g1,fun i hi=>(g3 i hi).imp id (fun h=>absurd h (by simp)),fun c0 hcs=>?_⟩;exact qh4 hf hv (c:=c0) (p:=o1+(k1*sz1+c1)) (by rw [hcl];omega)
    ·cases hs
   ·cases hs
  ·cases hs
 ·split at hs
  ·rename_i e ty xs hi;split at hs
   ·rename_i hf hl;split at hs
    ·rename_i y' hy';simp only [X0] at hs;subst hs;exact js1 hd hop hdst hx hy hi hf hl hy' h K
    ·cases hs
   ·cases hs
  ·cases hs
 ·cases hs
end
end Go.X
