import Derived.Test.YtliopfopmhhdeaaGreatXV
set_option linter.defProp false
namespace Go.X
open Go.RowKit Go.V
def CWI (P:Program) (c:Code) (Q:Exit->Act->World->Prop) (n:Nat) (F:PF) (w:World):Prop:= ∀a,Fr n [] F a->c.wpIn Fence.wide 0 P Q a w
def WRI (P:Program) (ops:Array Oper) (Q:Exit->Act->World->Prop) (k n:Nat) (F:PF) (w:World):Prop:= ∀a,Fr n [] F a->wpListIn Fence.wide 0 P ops Q (ops.toList.drop k) a w
section
variable {P:Program} {ops:Array Oper} {Q:Exit->Act->World->Prop} {k n:Nat} {F F':PF} {w w':World}
def ja2 {o:Oper} {a:Act} {K} (h:o.uponIn Fence.wide 0 P a K Q ((execOp a.eval o).run P w)):o.wpIn Fence.wide 0 P a w K Q:=
 ⟨fun _ _=>trivial,by rw [show Fence.wide.round=none from rfl,Oper.semAt_none];exact h⟩
def WRI.step {o} (c:dec ops k n F=some o) (h: ∀a,Fr n [] F a->execOp a.eval o=execOp (evD F) o->o.wpIn Fence.wide 0 P a w (wpListIn Fence.wide 0 P ops Q (ops.toList.drop (k+1))) Q):WRI P ops Q k n F w:=by
 intro a b;obtain ⟨d,_,e,f,g⟩:=zk1 c;rw [zh0 d];unfold wpListIn;rw [if_pos (g b)];exact h a b (jw8 b e f)
def WRI.val {o v} (b:dec ops k n F=some o) (c:(execOp (evD F) o).run P w=.ok (.value v) w') (K:WRI P ops Q (k+1) n (upd F o.dst v) w'):WRI P ops Q k n F w:=
 .step b fun a d e=>ja2 (by rw [e,c];exact K _ (d.upd (zk1 b).2.1 v))
def WRI.skip {o} (b:dec ops k n F=some o) (c:(execOp (evD F) o).run P w=.ok .skip w') (K:WRI P ops Q (k+1) n (upd F o.dst undef) w'):WRI P ops Q k n F w:=
 .step b fun a d e=>ja2 (by rw [e,c];exact K _ (d.upd (zk1 b).2.1 undef))
def WRI.one (h:step1 P ops k n F w=some (F',w')) (K:WRI P ops Q (k+1) n F' w'):WRI P ops Q k n F w:=by
 unfold step1 at h;split at h
 ·cases h
 ·rename_i o f;split at h
  ·rename_i c;split at h
   ·rename_i d;have g:dec ops k n F=some o:=by unfold dec;simp only [f,c,d]
    split at h
    ·rename_i v b e;simp only [X0,X7] at h;obtain ⟨rfl,rfl⟩:=h;exact .val g e K
    ·rename_i b e;simp only [X0,X7] at h;obtain ⟨rfl,rfl⟩:=h;exact .skip g e K
    ·cases h
   ·cases h
  ·rename_i c;split at h
   ·rename_i d;simp only [X0,X7] at h;obtain ⟨rfl,rfl⟩:=h;intro a i;rw [zh0 f];unfold wpListIn;rw [if_neg (by rw [zy3 i c];simp)];exact ⟨fun _ _=>trivial,K _ (i.upd d undef)⟩
   ·cases h
  ·cases h
def WRI.evs: ∀(m k:Nat) (F:PF) (w:World),evK P ops n m k F w=some (F',w')->WRI P ops Q (k+m) n F' w'->WRI P ops Q k n F w
 |0,_,_,_,h,K=>by
  simp only [evK,X0,X7] at h;obtain ⟨rfl,rfl⟩:=h;exact K
 |m+1,k,F,w,h,K=>by
  unfold evK at h;split at h
  ·rename_i F₁ w₁ h1;exact WRI.one h1 (WRI.evs m (k+1) F₁ w₁ h (by rw [V2,J8 1 m];exact K))
  ·cases h
def WRI.batch (m:Nat) (F':PF) (h:(match evK P ops n m k F w with|some (G,w₁)=>some (G.keep (F'.map Prod.fst),w₁)|none=>none)=some (F',w)) (K:WRI P ops Q (k+m) n F' w):WRI P ops Q k n F w:=by
 split at h
 ·rename_i G w₁ hG;simp only [X0,X7] at h;obtain ⟨h1,rfl⟩:=h;exact .evs m k F _ hG fun a ha=>K a (ha.keep _ h1)
 ·cases h
def qh0 (ops:Array Oper) (k n:Nat) (F:PF):Option (Option Tmp×Value×List Value):=
 match dec ops k n F with|some ⟨dst,.call ⟨.value x,aS,_⟩,_,_,_,_⟩=>some (dst,evD F x,aS.toList.map (evD F))|_=>none
def WRI.yield {dst:Option Tmp} {l:Nat} {us:List Value} {R:Ending->World->Prop} (hd:qh0 ops k n F=some (dst,.func (.yield l) #[] #[],us)) (hy:jm1 P l us.toArray w R)
  (hR: ∀e w',R e w'-> ∃v,e=.returned v) (K: ∀v w',R (.returned v) w'->WRI P ops Q (k+1) n (upd F dst v) w'):WRI P ops Q k n F w:=by
 unfold qh0 at hd;split at hd
 ·rename_i d x aS ats ty pos af gd hdec;simp only [X0,X7] at hd;obtain ⟨rfl,h1,rfl⟩:=hd;obtain ⟨fn,tmps,asg,body,hrun,hround⟩:=hy;refine .step hdec fun a ha he=>ja2 ?_;have hex:(execOp (evD F) ⟨d,.call ⟨.value x,aS,ats⟩,ty,pos,af,gd⟩).run P w=.ok (.round l fn tmps asg body) w:=by
   have e:(List.map (evD F) aS.toList).toArray=aS.map (evD F):=by rw [<-Array.toList_map]
   rw [e] at hrun;simp [execOp,resolve,h1,Deferred.ofValue,invoke,hrun]
  rw [he,hex];refine ⟨fun h=>(by cases h),hround.mono fun e w'' hr=>?_⟩;obtain ⟨v,rfl⟩:=hR e w'' hr;exact K v w'' hr _ (ha.upd (zk1 hdec).2.1 v)
 ·cases hd
def WRI.fin (b:Nat.ble ops.size k=true) (K: ∀a,Fr n [] F a->Q .normal a w):WRI P ops Q k n F w:=fun a c=>by
 rw [M3 (by simpa using Y1 b)];exact K a c
def CWI.region {id} (h:WRI P ops Q 0 n F w):CWI P (.region id ops false) Q n F w:=fun a b=>wpIn_region_list (by simpa using h a b)
def CWI.seq {x y} (h:CWI P x (Exit.then (fun a w=> ∃F1,Fr n [] F1 a/\CWI P y Q n F1 w) Q) n F w):CWI P (.seq x y) Q n F w:=
 fun a c=>wpIn_seq (wpIn_mono (h a c) fun e d w' b=>by cases e<;>first|exact b|(obtain ⟨F1,f,g⟩:=b;exact g d f))
def CWI.block {id c} (h:CWI P c (Exit.inBlock id Q) n F w):CWI P (.block id c) Q n F w:=fun a b=>wpIn_block (h a b)
def CWI.cond {c:Operand} {x y:Code} (t:Bool) (hc:ev F c=some (.bool t)) (ht:t=true->CWI P x Q n F w) (hf:t=false->CWI P y Q n F w):CWI P (.cond c x y) Q n F w:=
 fun a ha=>wpIn_cond_split (ha.eval hc) (fun h=>ht h a ha) (fun h=>hf h a ha)
def CWI.skip (K: ∀a,Fr n [] F a->Q .normal a w):CWI P .skip Q n F w:=fun a b=>wpIn_skip (K a b)
def CWI.exit {id} (K: ∀a,Fr n [] F a->Q (.exit id) a w):CWI P (.exit id) Q n F w:=fun a b=>wpIn_exit (K a b)
def CWI.ret (K: ∀a,Fr n [] F a->Q .ret a w):CWI P .ret Q n F w:=fun a b=>wpIn_ret (K a b)
end
def ys2 {Q id a w} (h:Q .normal a w):Exit.inBlock id Q (.exit id) a w:=by
 show (if id=id then Q .normal a w else Q (.exit id) a w);rw [if_pos rfl];exact h
def yr5 {P:Program} {n:Nat} {F:PF} {w:World} {f:FuncId} {fn:Func} {c:Code} {args:Array Value} {R:Ending->World->Prop} (hf:P.funcs[f]?=some fn) (hb:fn.body=some c) (hn:fn.ntmps=n) (hs:Nat.ble args.size n=true)
  (l:List Nat) (hF:(je3 args.toList 0).keep l=F) (h:CWI P c (bodyPostM Fence.wide 0 P fn R) n F w):Calls P f args w R:=by
 have hsz:args.size<=n:=Y1 hs;refine callsIn_wide.1 (callsIn_of_wp_marks (F:=Fence.wide) (n:=0) hf hb trivial (h _ (Fr.keep ⟨?_,rfl,?_⟩ l hF)))
 ·simp [hn];omega
 ·intro i v hv;obtain ⟨_,h2⟩:=yc9 args.toList 0 i v hv;simp only [J4,Array.getElem?_toList] at h2;have hi:=(Y3.1 h2).1;refine ⟨?_,by omega⟩;rw [Y7,Array.getElem?_append_left hi,h2];rfl
section
variable {T:Tab}
variable {w0 w:World} {S0:Ow} {F:AF T} {H:List (Ent T.U)} {F':PF} {S:List Nat} {φ:Nat->RA}
def vs3 (e:Sim T w0 S0 ⟨F,H⟩ F' w S φ) {i t x} (f:H[i]?=some (.blk t [cI T .i64 x])) {g} (h:(φ i).ad=some ⟨g,0,none⟩):Blk w g #[.int .i64 x] t:=by
 obtain ⟨o,c,b,j,_,l⟩:=e.ents i _ f;rw [h] at b;simp only [X0,Addr.mk.injEq,and_true] at b;subst b;have a:=l.vrl T rfl
 match m:c.toList,a with
 | [v],a=>
  obtain ⟨d,_⟩:=a;have d:CR T w S (.int .i64) x v:=d;cases d;have:c= #[Value.int .i64 x]:=T5.1 (by rw [m]);rw [<-this];exact j
 | [],a=>exact a.elim
 |_::_::_,a=>exact a.2.elim
end
end Go.X
