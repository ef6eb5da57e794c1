import Derived.Test.YtliopfopmhhdeaaGreatXV
set_option linter.defProp false
namespace Go.X
open Go.RowKit Go.V
def CWI (P:Program) (c:Code) (Q:Exit->Act->World->Prop) (n:Nat) (F:PF) (w:World):Prop:= ∀a,Fr n [] F a->c.wpIn Fence.wide 0 P Q a w
def WRI (P:Program) (ops:Array Oper) (Q:Exit->Act->World->Prop) (k n:Nat) (F:PF) (w:World):Prop:= ∀a,Fr n [] F a->wpListIn Fence.wide 0 P ops Q (ops.toList.drop k) a w
section
variable {P:Program} {ops:Array Oper} {Q:Exit->Act->World->Prop} {k n:Nat} {F F':PF} {w w':World}
def yx9 {o:Oper} {a:Act} {K:Act->World->Prop} (h:o.uponIn Fence.wide 0 P a K Q ((execOp a.eval o).run P w)):o.wpIn Fence.wide 0 P a w K Q:=
 ⟨fun _ _=>trivial,by rw [show Fence.wide.round=none from rfl,Oper.semAt_none];exact h⟩
def WRI.step {o:Oper} (hd:dec ops k n F=some o) (h: ∀a,Fr n [] F a->execOp a.eval o=execOp (evD F) o->o.wpIn Fence.wide 0 P a w (wpListIn Fence.wide 0 P ops Q (ops.toList.drop (k+1))) Q):WRI P ops Q k n F w:=by
 intro a ha;obtain ⟨ho,_,hs,hp,hw⟩:=zj4 hd;rw [zg4 ho];unfold wpListIn;rw [if_pos (hw ha)];exact h a ha (ju4 ha hs hp)
def WRI.val {o:Oper} {v:Value} (hd:dec ops k n F=some o) (hr:(execOp (evD F) o).run P w=.ok (.value v) w') (K:WRI P ops Q (k+1) n (upd F o.dst v) w'):WRI P ops Q k n F w:=
 .step hd fun a ha he=>yx9 (by rw [he,hr];exact K _ (ha.upd (zj4 hd).2.1 v))
def WRI.skip {o:Oper} (hd:dec ops k n F=some o) (hr:(execOp (evD F) o).run P w=.ok .skip w') (K:WRI P ops Q (k+1) n (upd F o.dst undef) w'):WRI P ops Q k n F w:=
 .step hd fun a ha he=>yx9 (by rw [he,hr];exact K _ (ha.upd (zj4 hd).2.1 undef))
def WRI.one (h:step1 P ops k n F w=some (F',w')) (K:WRI P ops Q (k+1) n F' w'):WRI P ops Q k n F w:=by
 unfold step1 at h;split at h
 ·cases h
 ·rename_i o ho;split at h
  ·rename_i hw;split at h
   ·rename_i hb;have hd:dec ops k n F=some o:=by unfold dec;simp only [ho,hw,hb]
    split at h
    ·rename_i v w₁ hr;simp only [X0,X7] at h;obtain ⟨rfl,rfl⟩:=h;exact .val hd hr K
    ·rename_i w₁ hr;simp only [X0,X7] at h;obtain ⟨rfl,rfl⟩:=h;exact .skip hd hr K
    ·cases h
   ·cases h
  ·rename_i hw;split at h
   ·rename_i hb;simp only [X0,X7] at h;obtain ⟨rfl,rfl⟩:=h;intro a ha;rw [zg4 ho];unfold wpListIn;rw [if_neg (by rw [zx5 ha hw];simp)];exact ⟨fun _ _=>trivial,K _ (ha.upd hb undef)⟩
   ·cases h
  ·cases h
def WRI.evs: ∀(m k:Nat) (F:PF) (w:World),evK P ops n m k F w=some (F',w')->WRI P ops Q (k+m) n F' w'->WRI P ops Q k n F w
 |0,_,_,_,h,K=>by
  simp only [evK,X0,X7] at h;obtain ⟨rfl,rfl⟩:=h;exact K
 |m+1,k,F,w,h,K=>by
  unfold evK at h;split at h
  ·rename_i F₁ w₁ h1;exact WRI.one h1 (WRI.evs m (k+1) F₁ w₁ h (by rw [V1,J6 1 m];exact K))
  ·cases h
def WRI.batch (m:Nat) (F':PF) (h:(match evK P ops n m k F w with|some (G,w₁)=>some (G.keep (F'.map Prod.fst),w₁)|none=>none)=some (F',w)) (K:WRI P ops Q (k+m) n F' w):WRI P ops Q k n F w:=by
 split at h
 ·rename_i G w₁ hG;simp only [X0,X7] at h;obtain ⟨h1,rfl⟩:=h;exact .evs m k F _ hG fun a ha=>K a (ha.keep _ h1)
 ·cases h
def qe0 (ops:Array Oper) (k n:Nat) (F:PF):Option (Option Tmp×Value×List Value):=
 match dec ops k n F with|some ⟨dst,.call ⟨.value x,aS,_⟩,_,_,_,_⟩=>some (dst,evD F x,aS.toList.map (evD F))|_=>none
def WRI.yield {dst:Option Tmp} {l:Nat} {us:List Value} {R:Ending->World->Prop} (hd:qe0 ops k n F=some (dst,.func (.yield l) #[] #[],us)) (hy:jy0 P l us.toArray w R)
  (hR: ∀e w',R e w'-> ∃v,e=.returned v) (K: ∀v w',R (.returned v) w'->WRI P ops Q (k+1) n (upd F dst v) w'):WRI P ops Q k n F w:=by
 unfold qe0 at hd;split at hd
 ·rename_i d x aS ats ty pos af gd hdec;simp only [X0,X7] at hd;obtain ⟨rfl,h1,rfl⟩:=hd;obtain ⟨fn,tmps,asg,body,hrun,hround⟩:=hy;refine .step hdec fun a ha he=>yx9 ?_;have hex:(execOp (evD F) ⟨d,.call ⟨.value x,aS,ats⟩,ty,pos,af,gd⟩).run P w=.ok (.round l fn tmps asg body) w:=by
   have e:(List.map (evD F) aS.toList).toArray=aS.map (evD F):=by rw [<-Array.toList_map]
   rw [e] at hrun;simp [execOp,resolve,h1,Deferred.ofValue,invoke,hrun]
  rw [he,hex];refine ⟨fun h=>(by cases h),hround.mono fun e w'' hr=>?_⟩;obtain ⟨v,rfl⟩:=hR e w'' hr;exact K v w'' hr _ (ha.upd (zj4 hdec).2.1 v)
 ·cases hd
def WRI.fin (hk:Nat.ble ops.size k=true) (K: ∀a,Fr n [] F a->Q .normal a w):WRI P ops Q k n F w:=fun a ha=>by
 rw [M4 (by simpa using Y1 hk)];exact K a ha
def CWI.region {id:Nat} (h:WRI P ops Q 0 n F w):CWI P (.region id ops false) Q n F w:=fun a ha=>wpIn_region_list (by simpa using h a ha)
def CWI.seq {x y:Code} (h:CWI P x (Exit.then (fun a w=> ∃F1,Fr n [] F1 a/\CWI P y Q n F1 w) Q) n F w):CWI P (.seq x y) Q n F w:=
 fun a ha=>wpIn_seq (wpIn_mono (h a ha) fun e a' w' hq=>by cases e<;>first|exact hq|(obtain ⟨F1,h1,h2⟩:=hq;exact h2 a' h1))
def CWI.block {id:Nat} {c:Code} (h:CWI P c (Exit.inBlock id Q) n F w):CWI P (.block id c) Q n F w:=fun a ha=>wpIn_block (h a ha)
def CWI.cond {c:Operand} {x y:Code} (t:Bool) (hc:ev F c=some (.bool t)) (ht:t=true->CWI P x Q n F w) (hf:t=false->CWI P y Q n F w):CWI P (.cond c x y) Q n F w:=
 fun a ha=>wpIn_cond_split (ha.eval hc) (fun h=>ht h a ha) (fun h=>hf h a ha)
def CWI.skip (K: ∀a,Fr n [] F a->Q .normal a w):CWI P .skip Q n F w:=fun a ha=>wpIn_skip (K a ha)
def CWI.exit {id:Nat} (K: ∀a,Fr n [] F a->Q (.exit id) a w):CWI P (.exit id) Q n F w:=fun a ha=>wpIn_exit (K a ha)
def CWI.ret (K: ∀a,Fr n [] F a->Q .ret a w):CWI P .ret Q n F w:=fun a ha=>wpIn_ret (K a ha)
end
def js8 {Q:Exit->Act->World->Prop} {id:Nat} {a:Act} {w:World} (h:Q .normal a w):Exit.inBlock id Q (.exit id) a w:=by
 show (if id=id then Q .normal a w else Q (.exit id) a w);rw [if_pos rfl];exact h
def js6 {P:Program} {n:Nat} {F:PF} {w:World} {f:FuncId} {fn:Func} {c:Code} {args:Array Value} {R:Ending->World->Prop} (hf:P.funcs[f]?=some fn) (hb:fn.body=some c) (hn:fn.ntmps=n) (hs:Nat.ble args.size n=true)
  (l:List Nat) (hF:(jk0 args.toList 0).keep l=F) (h:CWI P c (bodyPostM Fence.wide 0 P fn R) n F w):Calls P f args w R:=by
 have hsz:args.size<=n:=Y1 hs;refine callsIn_wide.1 (callsIn_of_wp_marks (F:=Fence.wide) (n:=0) hf hb trivial (h _ (Fr.keep ⟨?_,rfl,?_⟩ l hF)))
 ·simp [hn];omega
 ·intro i v hv;obtain ⟨_,h2⟩:=yh7 args.toList 0 i v hv;simp only [J5,Array.getElem?_toList] at h2;have hi:=(Y3.1 h2).1;refine ⟨?_,by omega⟩;rw [Y7,Array.getElem?_append_left hi,h2];rfl
section
variable {T:Tab}
variable {w0 w:World} {S0:Ow} {F:AF T} {H:List (Ent T.U)} {F':PF} {S:List Nat} {φ:Nat->RA}
end
end Go.X
