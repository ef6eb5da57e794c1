import Derived.Test.YthhhfnfgmijggaaGreatDf
import Derived.Test.YthhhfnfgmijggaaGreatG1
namespace Go.V
open Go.RowKit
section
variable {P:Program} {ops:Array Oper} {Q:Exit->Act->World->Prop} {n:Nat} {ds:List Deferred} {F:PF} {w:World}
theorem WR.pass1 {k:Nat} {dst:Option Tmp} (h:ya8 ops k n F=some dst) (K:WR P ops Q (k+1) n ds (upd F dst undef) w):WR P ops Q k n ds F w:=by
 unfold ya8 at h;split at h
 ·rename_i o ho;split at h
  ·rename_i hw;split at h
   ·rename_i hd;simp only [X0] at h;subst h;intro a ha;rw [zy3 ho];unfold wpList;rw [if_neg (by rw [yr3 ha hw];simp)];exact K _ (ha.upd hd undef)
   ·cases h
  ·cases h
 ·cases h
def zt6 (ops:Array Oper) (i:Nat):List Nat:=match ops[i]? with|some o=>(o.after.toList.filter fun e=>Region.binds .any e).map (·.on)|none=> []
def wk8 (acc:List Nat):List Nat->List Nat| []=>acc|x::r=>wk8 (match acc.contains x with|true=>acc|false=>x::acc) r
def ys0 (ops:Array Oper):Nat->List (List Nat)
 |0=> []
 |n+1=>ys0 ops n++ [wk8 [] (zt6 ops n++(zt6 ops n).flatMap fun k=>(ys0 ops n).getD k [])]
def vf9 (ops:Array Oper) (m:Nat):List Nat:=(List.range m).filterMap fun i=>(ops[i]?).bind (·.dst)
def zx5:List Nat->Bool| []=>true|a::r=> !r.contains a&&zx5 r
def yk9 (ops:Array Oper):Bool:=(List.range ops.size).all fun i=>(zt6 ops i).all fun j=>Nat.blt j i
def yq5 (ops:Array Oper) (m:Nat):Bool:=(List.range m).all fun i=>match ops[i]? with|some o=>(match o.guard with|some (g,_)=>Nat.blt g i|none=>true)|none=>true
def yw4 (ops:Array Oper) (i:Nat):Option Tmp:=(ops[i]?).bind (·.dst)
inductive Tp (ops:Array Oper):Nat->Nat->Prop
 |one {i j:Nat} (h:(zt6 ops i).contains j=true):Tp ops i j
 |step {i k j:Nat} (h:(zt6 ops i).contains k=true) (t:Tp ops k j):Tp ops i j
theorem va7 {x:Nat}: ∀ {l acc:List Nat},x∈wk8 acc l->x∈acc\/x∈l
 | [],_,h=>.inl h
 |y::r,acc,h=>by
  unfold wk8 at h;rcases va7 h with h|h
  ·split at h
   ·exact .inl h
   ·rcases Z0.1 h with rfl|h
    ·exact .inr (List.mem_cons_self ..)
    ·exact .inl h
  ·exact .inr (Z4 _ h)
theorem yk7 (ops:Array Oper): ∀n,(ys0 ops n).length=n
 |0=>rfl
 |n+1=>by rw [ys0,X9,yk7 ops n];rfl
theorem zq5: ∀(n j i:Nat),i∈(ys0 ops n).getD j []->Tp ops j i
 |0,j,i,h=>by simp [ys0] at h
 |n+1,j,i,h=>by
  rw [ys0,Y2] at h;rcases Nat.lt_trichotomy j n with hj|rfl|hj
  ·rw [X8 (by rw [yk7];exact hj),<-Y2] at h;exact zq5 n j i h
  ·rw [Z2 (by rw [yk7];exact Nat.le_refl _),yk7,Nat.sub_self] at h;simp only [Y4,Option.getD_some] at h;rcases va7 h with h|h
   ·cases h
   ·rcases X4.1 h with h|h
    ·exact .one (by simpa using h)
    ·obtain ⟨k,hk,h⟩:=List.mem_flatMap.1 h;exact .step (by simpa using hk) (zq5 j k i h)
  ·rw [Y5 (by simp [yk7];omega)] at h;simp at h
theorem Tp.lt (hb:yk9 ops=true) {i j:Nat} (t:Tp ops i j) (hi:i<ops.size):j<i:=by
 have one: ∀a b,a<ops.size->(zt6 ops a).contains b=true->b<a:=by
  intro a b ha h;unfold yk9 at hb;rw [Y8] at hb;have:=hb a (List.mem_range.2 ha);rw [Y8] at this;simpa [Nat.blt_eq] using this b (by simpa using h)
 induction t with
 |one h=>exact one _ _ hi h
 |step h _ ih=>have h1:=one _ _ hi h;have:=ih (by omega);omega
theorem jx7 {md:Region.Mode} (I:Array Bool->Act->World->Prop)
  (step: ∀listed a w i,I listed a w->i∈Region.ready md ops listed->wpOp P ops Q i (I (listed.setIfInBounds i true)) a w)
  (fin: ∀listed a w,I listed a w->Region.ready md ops listed= []->Q .normal a w):
  ∀(fuel:Nat) (listed:Array Bool) (a:Act) (w:World),(listed.size=ops.size/\(listed.toList.filter (· ==false)).length<=fuel)->I listed a w->wpAny P md ops Q fuel listed a w
 |0,listed,a,w,hl,hI=>by
  have hr:Region.ready md ops listed= []:=by
   unfold Region.ready;rw [List.filter_eq_nil_iff];intro i hi;have hlt:i<listed.size:=by rw [hl.1];simpa using hi
   have:listed[i]=true:=by
    cases hb:listed[i] with
    |true=>rfl
    |false=>
     have:listed[i]∈listed.toList.filter (· ==false):=by
      rw [Q9];exact ⟨by simp,by simp [hb]⟩
     have h0:=List.length_pos_of_mem this;omega
   simp [this,hlt]
  exact ⟨hr,fin listed a w hI hr⟩
 |fuel+1,listed,a,w,hl,hI=>by
  refine ⟨fun hr=>fin listed a w hI hr,fun i hi=>wpOp_mono (fun a' w' hI'=>jx7 I step fin fuel _ a' w' ?_ hI') (step listed a w i hI hi)⟩;have hmem:i<ops.size/\listed.getD i true=false:=by
   unfold Region.ready at hi;rw [Q9] at hi;refine ⟨by simpa using hi.1,?_⟩;have:=hi.2;rw [X3] at this;simpa using this.1
  refine ⟨by simpa using hl.1,?_⟩;have hlt:i<listed.size:=by rw [hl.1];exact hmem.1
  have hfalse:listed[i]=false:=by
   have:=hmem.2;simpa [hlt] using this
  have key: ∀(l:List Bool) (i:Nat) (h:i<l.length),l[i]=false->((l.set i true).filter (· ==false)).length+1=(l.filter (· ==false)).length:=by
   intro l;induction l with
   |nil=>intro i h;simp at h
   |cons b r ih=>
    intro i h hb;cases i with
    |zero=>simp at hb;subst hb;simp
    |succ i=>
     have:=ih i (by simpa using h) (by simpa using hb);cases b<;>simp_all<;>omega
  have:=key listed.toList i (by simpa using hlt) (by simpa using hfalse);have e:(listed.setIfInBounds i true).toList=listed.toList.set i true:=by simp
  rw [e];omega
def zv1 (o:Oper):List Nat:=o.op.operands.toList.filterMap fun x=>match x with| .tmp t=>some t|_=>none
def yk4 (ops:Array Oper) (o:Oper):List Nat:=match o.guard with|some (g,_)=>(yw4 ops g).toList|none=> []
theorem jr4 {m:Nat} (h:zx5 (vf9 ops m)=true): ∀i j d,i<m->j<m->(ops[i]?).bind (·.dst)=some d->(ops[j]?).bind (·.dst)=some d->i=j:=by
 have key: ∀(l:List Nat),zx5 (l.filterMap fun i=>(ops[i]?).bind (·.dst))=true->l.Nodup-> ∀i j d,i∈l->j∈l->(ops[i]?).bind (·.dst)=some d->(ops[j]?).bind (·.dst)=some d->i=j:=by
  intro l;induction l with
  |nil=>intro _ _ i j d hi;simp at hi
  |cons x r ih=>
   intro hdi hn i j d hi hj h1 h2;rw [List.nodup_cons] at hn;have hmem: ∀y e,y∈r->(ops[y]?).bind (·.dst)=some e->e∈r.filterMap fun i=>(ops[i]?).bind (·.dst):=fun y e hy he=>List.mem_filterMap.2 ⟨y,hy,he⟩;have hrest:zx5 (r.filterMap fun i=>(ops[i]?).bind (·.dst))=true:=by
    rw [List.filterMap_cons] at hdi;split at hdi
    ·exact hdi
    ·simp only [zx5,X3] at hdi;exact hdi.2
   have hfirst: ∀e,(ops[x]?).bind (·.dst)=some e->e∉r.filterMap fun i=>(ops[i]?).bind (·.dst):=by
    intro e hx hm;rw [List.filterMap_cons] at hdi;split at hdi
    ·rename_i hn0;rw [hx] at hn0;cases hn0
    ·rename_i e' he';rw [hx] at he';cases he';simp only [zx5,X3,Bool.not_eq_true',List.contains_eq_mem,decide_eq_false_iff_not] at hdi;exact hdi.1 hm
   rcases Z0.1 hi with rfl|hi'
   ·rcases Z0.1 hj with rfl|hj'
    ·rfl
    ·exact absurd (hmem j d hj' h2) (hfirst d h1)
   ·rcases Z0.1 hj with rfl|hj'
    ·exact absurd (hmem i d hi' h1) (hfirst d h2)
    ·exact ih hrest hn.2 i j d hi' hj' h1 h2
 intro i j d hi hj;exact key (List.range m) h List.nodup_range i j d (List.mem_range.2 hi) (List.mem_range.2 hj)
end
end Go.V
