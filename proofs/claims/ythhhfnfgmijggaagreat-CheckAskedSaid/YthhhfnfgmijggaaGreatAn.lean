import Derived.Test.YthhhfnfgmijggaaGreatDf
import Derived.Test.YthhhfnfgmijggaaGreatG1
namespace Go.V
open Go.RowKit
section
variable {P:Program} {ops:Array Oper} {Q:Exit->Act->World->Prop} {n:Nat} {ds:List Deferred} {F:PF} {w:World}
theorem WR.pass1 {k:Nat} {dst:Option Tmp} (h:zz7 ops k n F=some dst) (K:WR P ops Q (k+1) n ds (upd F dst undef) w):WR P ops Q k n ds F w:=by
 unfold zz7 at h;split at h
 ·rename_i o ho;split at h
  ·rename_i hw;split at h
   ·rename_i hd;simp only [Option.some.injEq] at h;subst h;intro a ha;rw [zy1 ho];unfold wpList;rw [if_neg (by rw [yq8 ha hw];simp)];exact K _ (ha.upd hd undef)
   ·cases h
  ·cases h
 ·cases h
def zs7 (ops:Array Oper) (i:Nat):List Nat:=match ops[i]? with|some o=>(o.after.toList.filter fun e=>Region.binds .any e).map (·.on)|none=> []
def wg3 (acc:List Nat):List Nat->List Nat| []=>acc|x::r=>wg3 (match acc.contains x with|true=>acc|false=>x::acc) r
def yr9 (ops:Array Oper):Nat->List (List Nat)
 |0=> []
 |n+1=>yr9 ops n++ [wg3 [] (zs7 ops n++(zs7 ops n).flatMap fun k=>(yr9 ops n).getD k [])]
def vd1 (ops:Array Oper) (m:Nat):List Nat:=(List.range m).filterMap fun i=>(ops[i]?).bind (·.dst)
def zx3:List Nat->Bool| []=>true|a::r=> !r.contains a&&zx3 r
def ym0 (ops:Array Oper):Bool:=(List.range ops.size).all fun i=>(zs7 ops i).all fun j=>Nat.blt j i
def yq1 (ops:Array Oper) (m:Nat):Bool:=(List.range m).all fun i=>match ops[i]? with|some o=>(match o.guard with|some (g,_)=>Nat.blt g i|none=>true)|none=>true
def yt3 (ops:Array Oper) (i:Nat):Option Tmp:=(ops[i]?).bind (·.dst)
inductive Tp (ops:Array Oper):Nat->Nat->Prop
 |one {i j:Nat} (h:(zs7 ops i).contains j=true):Tp ops i j
 |step {i k j:Nat} (h:(zs7 ops i).contains k=true) (t:Tp ops k j):Tp ops i j
theorem qr8 {x:Nat}: ∀ {l acc:List Nat},x∈wg3 acc l->x∈acc\/x∈l
 | [],_,h=>.inl h
 |y::r,acc,h=>by
  unfold wg3 at h;rcases qr8 h with h|h
  ·split at h
   ·exact .inl h
   ·rcases List.mem_cons.1 h with rfl|h
    ·exact .inr (List.mem_cons_self ..)
    ·exact .inl h
  ·exact .inr (List.mem_cons_of_mem _ h)
theorem yj9 (ops:Array Oper): ∀n,(yr9 ops n).length=n
 |0=>rfl
 |n+1=>by rw [yr9,List.length_append,yj9 ops n];rfl
theorem zq1: ∀(n j i:Nat),i∈(yr9 ops n).getD j []->Tp ops j i
 |0,j,i,h=>by simp [yr9] at h
 |n+1,j,i,h=>by
  rw [yr9,List.getD_eq_getElem?_getD] at h;rcases Nat.lt_trichotomy j n with hj|rfl|hj
  ·rw [List.getElem?_append_left (by rw [yj9];exact hj),<-List.getD_eq_getElem?_getD] at h;exact zq1 n j i h
  ·rw [List.getElem?_append_right (by rw [yj9];exact Nat.le_refl _),yj9,Nat.sub_self] at h;simp only [List.getElem?_cons_zero,Option.getD_some] at h;rcases qr8 h with h|h
   ·cases h
   ·rcases List.mem_append.1 h with h|h
    ·exact .one (by simpa using h)
    ·obtain ⟨k,hk,h⟩:=List.mem_flatMap.1 h;exact .step (by simpa using hk) (zq1 j k i h)
  ·rw [List.getElem?_eq_none (by simp [yj9];omega)] at h;simp at h
theorem Tp.lt (hb:ym0 ops=true) {i j:Nat} (t:Tp ops i j) (hi:i<ops.size):j<i:=by
 have one: ∀a b,a<ops.size->(zs7 ops a).contains b=true->b<a:=by
  intro a b ha h;unfold ym0 at hb;rw [List.all_eq_true] at hb;have:=hb a (List.mem_range.2 ha);rw [List.all_eq_true] at this;simpa [Nat.blt_eq] using this b (by simpa using h)
 induction t with
 |one h=>exact one _ _ hi h
 |step h _ ih=>have h1:=one _ _ hi h;have:=ih (by omega);omega
theorem jt8 {md:Region.Mode} (I:Array Bool->Act->World->Prop)
  (step: ∀listed a w i,I listed a w->i∈Region.ready md ops listed->wpOp P ops Q i (I (listed.setIfInBounds i true)) a w)
  (fin: ∀listed a w,I listed a w->Region.ready md ops listed= []->Q .normal a w):
  ∀(fuel:Nat) (listed:Array Bool) (a:Act) (w:World),(listed.size=ops.size/\(listed.toList.filter (· ==false)).length<=fuel)->I listed a w->wpAny P md ops Q fuel listed a w
 |0,listed,a,w,hl,hI=>by
  have hr:Region.ready md ops listed= []:=by
   unfold Region.ready;rw [List.filter_eq_nil_iff];intro i hi;have hlt:i<listed.size:=by rw [hl.1];simpa using hi
   have:listed[i]=true:=by
    cases hb:listed[i] with
    |true=>rfl
    |false=>
     have:listed[i]∈listed.toList.filter (· ==false):=by
      rw [List.mem_filter];exact ⟨by simp,by simp [hb]⟩
     have h0:=List.length_pos_of_mem this;omega
   simp [this,hlt]
  exact ⟨hr,fin listed a w hI hr⟩
 |fuel+1,listed,a,w,hl,hI=>by
  refine ⟨fun hr=>fin listed a w hI hr,fun i hi=>wpOp_mono (fun a' w' hI'=>jt8 I step fin fuel _ a' w' ?_ hI') (step listed a w i hI hi)⟩;have hmem:i<ops.size/\listed.getD i true=false:=by
   unfold Region.ready at hi;rw [List.mem_filter] at hi;refine ⟨by simpa using hi.1,?_⟩;have:=hi.2;rw [Bool.and_eq_true] at this;simpa using this.1
  refine ⟨by simpa using hl.1,?_⟩;have hlt:i<listed.size:=by rw [hl.1];exact hmem.1
  have hfalse:listed[i]=false:=by
   have:=hmem.2;simpa [hlt] using this
  have key: ∀(l:List Bool) (i:Nat) (h:i<l.length),l[i]=false->((l.set i true).filter (· ==false)).length+1=(l.filter (· ==false)).length:=by
   intro l;induction l with
   |nil=>intro i h;simp at h
   |cons b r ih=>
    intro i h hb;cases i with
    |zero=>simp at hb;subst hb;simp
    |succ i=>
     have:=ih i (by simpa using h) (by simpa using hb);cases b<;>simp_all<;>omega
  have:=key listed.toList i (by simpa using hlt) (by simpa using hfalse);have e:(listed.setIfInBounds i true).toList=listed.toList.set i true:=by simp
  rw [e];omega
def zu5 (o:Oper):List Nat:=o.op.operands.toList.filterMap fun x=>match x with| .tmp t=>some t|_=>none
def yj0 (ops:Array Oper) (o:Oper):List Nat:=match o.guard with|some (g,_)=>(yt3 ops g).toList|none=> []
theorem jq3 {m:Nat} (h:zx3 (vd1 ops m)=true): ∀i j d,i<m->j<m->(ops[i]?).bind (·.dst)=some d->(ops[j]?).bind (·.dst)=some d->i=j:=by
 have key: ∀(l:List Nat),zx3 (l.filterMap fun i=>(ops[i]?).bind (·.dst))=true->l.Nodup-> ∀i j d,i∈l->j∈l->(ops[i]?).bind (·.dst)=some d->(ops[j]?).bind (·.dst)=some d->i=j:=by
  intro l;induction l with
  |nil=>intro _ _ i j d hi;simp at hi
  |cons x r ih=>
   intro hdi hn i j d hi hj h1 h2;rw [List.nodup_cons] at hn;have hmem: ∀y e,y∈r->(ops[y]?).bind (·.dst)=some e->e∈r.filterMap fun i=>(ops[i]?).bind (·.dst):=fun y e hy he=>List.mem_filterMap.2 ⟨y,hy,he⟩;have hrest:zx3 (r.filterMap fun i=>(ops[i]?).bind (·.dst))=true:=by
    rw [List.filterMap_cons] at hdi;split at hdi
    ·exact hdi
    ·simp only [zx3,Bool.and_eq_true] at hdi;exact hdi.2
   have hfirst: ∀e,(ops[x]?).bind (·.dst)=some e->e∉r.filterMap fun i=>(ops[i]?).bind (·.dst):=by
    intro e hx hm;rw [List.filterMap_cons] at hdi;split at hdi
    ·rename_i hn0;rw [hx] at hn0;cases hn0
    ·rename_i e' he';rw [hx] at he';cases he';simp only [zx3,Bool.and_eq_true,Bool.not_eq_true',List.contains_eq_mem,decide_eq_false_iff_not] at hdi;exact hdi.1 hm
   rcases List.mem_cons.1 hi with rfl|hi'
   ·rcases List.mem_cons.1 hj with rfl|hj'
    ·rfl
    ·exact absurd (hmem j d hj' h2) (hfirst d h1)
   ·rcases List.mem_cons.1 hj with rfl|hj'
    ·exact absurd (hmem i d hi' h1) (hfirst d h2)
    ·exact ih hrest hn.2 i j d hi' hj' h1 h2
 intro i j d hi hj;exact key (List.range m) h List.nodup_range i j d (List.mem_range.2 hi) (List.mem_range.2 hj)
end
end Go.V
