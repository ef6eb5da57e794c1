import Derived.Test.YthhhfnfgmijggaaGreatAn
namespace Go.V
open Go.RowKit
abbrev qp4 (x:Int):Prop:=0<=x/\x<=4294967295
abbrev u9 (x:Int):Prop:=0<=x/\x<=18446744073709551615
def zc9 {α β:Type} (a:α) (f:α->β):β:=f a
def yg6 {α β:Type} (o:Option α) (n:β) (f:α->β):β:=match o with|some x=>f x|none=>n
@[simp] theorem un6 {α β : Type} (a : α) (f : α -> β) : zc9 a f = f a := rfl
@[simp] theorem ul7 {α β : Type} (n : β) (f : α -> β) : yg6 none n f = n := rfl
@[simp] theorem ul6 {α β : Type} (a : α) (n : β) (f : α -> β) : yg6 (some a) n f = f a := rfl
section
variable {P:Program} {w w':World} {α:Type} {f:FuncId} {args:Array Value}
end
def zb1 (k:IntKind) (x y:Int):Int:=k.wrap ((BitVec.ofInt k.bits x&&&BitVec.ofInt k.bits y).toNat:Int)
def bOr (k:IntKind) (x y:Int):Int:=k.wrap ((BitVec.ofInt k.bits x|||BitVec.ofInt k.bits y).toNat:Int)
def jc2 (k:IntKind) (x y:Int):Int:=k.wrap ((BitVec.ofInt k.bits x^^^BitVec.ofInt k.bits y).toNat:Int)
def vr9 (k:IntKind) (x y:Int):Int:=k.wrap ((BitVec.ofInt k.bits x&&& ~~~BitVec.ofInt k.bits y).toNat:Int)
def ya4 (k:IntKind) (x y:Int):Int:=k.wrap (x*2^(min y.toNat k.bits))
def zc0 (k:IntKind) (x y:Int):Int:=x.fdiv (2^(min y.toNat k.bits))
def yj2 (x y:Int):Int:=if y<x then y else x
def zk5 (x y:Int):Int:=if y>x then y else x
theorem yg8 (x y:Int):yj2 x y=min x y:=by unfold yj2;omega
theorem zo7 (x y:Int):zk5 x y=max x y:=by unfold zk5;omega
theorem zk9 (x:Int):0<=IntKind.u64.wrap x/\IntKind.u64.wrap x<=18446744073709551615:=by unfold IntKind.wrap;simp [IntKind.bits,IntKind.signed];omega
theorem za4 (x:Int):IntKind.u64.wrap x=x%18446744073709551616:=by unfold IntKind.wrap;simp [IntKind.bits,IntKind.signed]
theorem ze2 (x:Int):IntKind.u32.wrap x=x%4294967296:=by unfold IntKind.wrap;simp [IntKind.bits,IntKind.signed]
theorem ym3 (x:Int):IntKind.u8.wrap x=x%256:=by unfold IntKind.wrap;simp [IntKind.bits,IntKind.signed]
theorem vh4 (x:Int):IntKind.i64.wrap x=if x%18446744073709551616>=9223372036854775808 then x%18446744073709551616-18446744073709551616 else x%18446744073709551616:=by unfold IntKind.wrap;simp [IntKind.bits,IntKind.signed]
theorem vd3 (x:Int):IntKind.i32.wrap x=if x%4294967296>=2147483648 then x%4294967296-4294967296 else x%4294967296:=by unfold IntKind.wrap;simp [IntKind.bits,IntKind.signed]
section
variable {P:Program} {ops:Array Oper} {k n:Nat} {F:PF} {dst:Option Tmp}
end
section
variable {P:Program}
def yv7 (P:Program) (t:TypeId) (cs:Array Value) (off:Nat):Option Value:=
 match P.underlying t with
 |some d=>(match yb6 d with|true=>(match P.info? t with|some i=>some (.agg (cs.extract off (off+i.size)))|none=>none)|false=>cs[off]?)
 |none=>none
theorem yl4 {t:TypeId} {cs:Array Value} {off:Nat} {v:Value} (h:yv7 P t cs off=some v) (w:World):(part t cs off).run P w=.ok v w:=by
 unfold yv7 at h;split at h
 ·rename_i d hd;unfold part;rw [Sem.run_bind,zt7 hd];split at h
  ·rename_i ha;rw [ha];split at h
   ·rename_i i hi;simp only [X0] at h;subst h;simp [sizeOf,typeInfo,hi]
   ·cases h
  ·rename_i ha;rw [ha];simp [h]
 ·cases h
def ki8 (P:Program) (rec:TypeId->Value->Value->Option Bool) (xs ys:Array Value):List Field->Option Bool
 | []=>some true
 | [f]=>match f.name== "_" with|true=>some true|false=>(match yv7 P f.type xs f.offset,yv7 P f.type ys f.offset with|some a,some b=>rec f.type a b|_,_=>none)
 |f::g::r=>match f.name== "_" with|true=>ki8 P rec xs ys (g::r)|false=>(match yv7 P f.type xs f.offset,yv7 P f.type ys f.offset with|some a,some b=>(match rec f.type a b,ki8 P rec xs ys (g::r) with|some p,some q=>some (p&&q)|_,_=>none)|_,_=>none)
def eqB (P:Program):Nat->TypeId->Value->Value->Option Bool
 |0,_,_,_=>none
 |d+1,t,x,y=>
  match P.underlying t,x,y with
  |some .bool,.bool a,.bool b=>some (a==b)
  |some (.int _),.int j a,.int j' b=>match decide (j=j') with|true=>some (a==b)|false=>none
  |some .string,.string a,.string b=>some (a==b)
  |some (.struct fs),.agg xs,.agg ys=>match P.stoodInHeld t with|true=>none|false=>ki8 P (eqB P d) xs ys fs.toList
  |_,_,_=>none
def je2 (d:Nat) (xs ys:Array Value) (f:Field):Sem (ForInStep (Option Bool×Unit)):=
 if f.name≠ "_" then do
  let a<-part f.type xs f.offset
  let b<-part f.type ys f.offset
  let r<-Op.equalIn d f.type a b
  if (!r)=true then pure (ForInStep.done (some false,())) else pure (ForInStep.yield (none,()))
 else pure (ForInStep.yield (none,()))
theorem jn5 {xs ys:Array Value} {d:Nat} (hrec: ∀(t:TypeId) (x y:Value) (b:Bool),eqB P d t x y=some b-> ∀w:World,(Op.equalIn d t x y).run P w=.ok b w):
  ∀(fs:List Field) (b:Bool),ki8 P (eqB P d) xs ys fs=some b-> ∀w:World,
  (forIn (m:=Sem) fs ((none,()):Option Bool×Unit) (fun f _=>je2 d xs ys f)).run P w=.ok (if b then (none,()) else (some false,())) w
 | [],b,h,w=>by
  simp only [ki8,X0] at h;subst h;rfl
 |f::r,b,h,w=>by
  have one: ∀(c:Bool),f.name≠ "_" ->(match yv7 P f.type xs f.offset,yv7 P f.type ys f.offset with|some a,some b=>eqB P d f.type a b|_,_=>none)=some c->
    (je2 d xs ys f).run P w=.ok (if c then ForInStep.yield (none,()) else ForInStep.done (some false,())) w:=by
   intro c hn hc;split at hc
   ·rename_i x y hx hy;unfold je2;rw [if_pos hn,Sem.run_bind,yl4 hx];simp only [Result.andThen_ok];rw [Sem.run_bind,yl4 hy];simp only [Result.andThen_ok];rw [Sem.run_bind,hrec _ _ _ _ hc];cases c<;>rfl
   ·cases hc
  have skip:f.name= "_" ->(je2 d xs ys f).run P w=.ok (ForInStep.yield (none,())) w:=by
   intro hn;unfold je2;rw [if_neg (by simpa using hn)];rfl
  rw [List.forIn_cons]
  match r,h with
  | [],h=>
   unfold ki8 at h;split at h
   ·rename_i hn;simp only [X0] at h;subst h;rw [Sem.run_bind,skip (by simpa using hn)];rfl
   ·rename_i hn;rw [Sem.run_bind,one b (by simpa using hn) h];cases b<;>rfl
  |g::r,h=>
   unfold ki8 at h;split at h
   ·rename_i hn;rw [Sem.run_bind,skip (by simpa using hn)];exact jn5 hrec (g::r) b h w
   ·rename_i hn;have hn':f.name≠ "_" :=by simpa using hn
    split at h
    ·rename_i x y hx hy;split at h
     ·rename_i p q hp hq;simp only [X0] at h;subst h;rw [Sem.run_bind,one p hn' (by rw [hx,hy];exact hp)];cases p
      ·rfl
      ·exact jn5 hrec (g::r) q hq w
     ·cases h
    ·cases h
theorem qc7: ∀(d:Nat) (t:TypeId) (x y:Value) (b:Bool),eqB P d t x y=some b-> ∀w:World,(Op.equalIn d t x y).run P w=.ok b w
 |0,_,_,_,_,h,_=>by simp [eqB] at h
 |d+1,t,x,y,b,h,w=>by
  unfold eqB at h;unfold Op.equalIn;split at h
  ·rename_i a c ht;simp only [X0] at h;subst h;simp [underlying,ht]
  ·rename_i kk j a j' c ht;split at h
   ·rename_i hj;simp only [X0] at h;subst h;have:j=j':=by simpa using hj
    subst this;simp [underlying,ht]
   ·cases h
  ·rename_i a c ht;simp only [X0] at h;subst h;simp [underlying,ht]
  ·rename_i fs xs ys ht;split at h
   ·cases h
   ·rename_i hst;have hu:(underlying t).run P w=.ok (.struct fs) w:=by simp [underlying,ht]
    rw [Sem.run_bind,hu];simp only [Result.andThen_ok];have hp:(program).run P w=.ok P w:=rfl;rw [Sem.run_bind,hp];simp only [Result.andThen_ok,hst];have key:=jn5 (P:=P) (d:=d) (xs:=xs) (ys:=ys) (qc7 d) fs.toList b h w;rw [<-Array.forIn_toList];simp only [Bool.false_eq_true,if_false];rw [Sem.run_bind];unfold je2 at key;rw [key];cases b<;>rfl
  ·cases h
end
end Go.V
