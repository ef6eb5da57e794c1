import Derived.Test.YthhhfnfgmijggaaGreatG1
import Derived.Recover
namespace Go.V
open Go.RowKit
section
variable {P:Program} {ops:Array Oper} {Q:Exit->Act->World->Prop} {k n:Nat} {ds:List Deferred} {F:PF} {w:World}
theorem WR.defer {dst:Option Tmp} {d:Deferred} (hr:yi2 P ops k n F w=some (dst,.ok (.defer d) w)) (K:WR P ops Q (k+1) n (d::ds) (upd F dst undef) w):WR P ops Q k n ds F w:=by
 obtain ⟨o,hd,rfl,hrun⟩:=qk7 hr;refine .step hd fun a ha he=>?_;unfold Oper.wp;rw [he,hrun];have ha':Fr n (d::ds) F {a with defers:=d::a.defers}:=⟨ha.size,by simp [ha.defers],ha.val⟩;exact K _ (ha'.upd (zm2 hd).2.1 undef)
def qe2:FrameMode->Value×FrameMode
 | .panicking ({v,recovered:=false,goexit:=false}::older)=>(v,.panicking ({v,recovered:=true}::older))
 |u=>(.nilIface,u)
def kf3 (ops:Array Oper):Option Tmp:=match ops[0]? with|some (Oper.mk (some d) (.call (Call.mk (.builtin .recover) _ _)) _ _ _ none)=>some d|_=>none
theorem jg2 {Q:Exit->Act->List Frame->World->Prop} {id:Nat} {d:Tmp} (hd:kf3 ops=some d) {c₀:Frame} {cs:List Frame} {v:Value} {u':FrameMode} (hu:qe2 c₀.mode=(v,u')) {a:Act}
  (h:wpList P ops (fun e a w=>Q e a ({c₀ with mode:=u'}::cs) w) (ops.toList.drop 1) (a.put (some d) v) w):(Code.region id ops false).wpS P Q a (c₀::cs) w:=by
 intro b k hb hro;unfold kf3 at hd;split at hd
 ·rename_i d' as ats ty pos af ho;simp only [X0] at hd;subst hd;have hlt:0<ops.size:=(Y3.1 ho).1;have hr:(execOp a.eval ⟨some d',.call {callee:=.builtin .recover,args:=as,argTypes:=ats},ty,pos,af,none⟩).run P w=.ok .recover w:=by
   simp [execOp,resolve,invoke,builtin]
  have hg:=stepG_op (P:=P) (b:=b) (a:=a) (k:=k) (cs:=c₀::cs) (w:=w) (rest:=List.range' 1 (ops.size-1)) (i:=0) ho (by simp [Region.wanted]);have hk:(b.at a (.inRegion ops (0::List.range' 1 (ops.size-1))::k)).kind=.deferred:=hb;have htr:=tryRecover_deferred hk (c₀::cs);have hfin: ∀v,(b.at a (.inRegion ops (0::List.range' 1 (ops.size-1))::k)).finish v=b.at (a.put (some d') v) (.inRegion ops (List.range' 1 (ops.size-1))::k):=by
   intro v;rw [Frame.finish_at,ho];rfl
  have hrange:List.range ops.size=0::List.range' 1 (ops.size-1):=by
   obtain ⟨m,hm⟩: ∃m,ops.size=m+1:=⟨ops.size-1,by omega⟩;rw [hm,List.range_eq_range',List.range'_succ];rfl
  have hops:wpOps P ops (fun e a w=>Q e a ({c₀ with mode:=u'}::cs) w) (List.range' 1 (ops.size-1)) (a.put (some d') v) w:=by
   have:=wpOps_eq_wpList (P:=P) (ops:=ops) (Q:=fun e a w=>Q e a ({c₀ with mode:=u'}::cs) w) (ops.toList.drop 1) 1 (by intro j;simp [Nat.add_comm]);have hl:(ops.toList.drop 1).length=ops.size-1:=by simp
   rw [hl] at this;rw [this];exact h
  obtain ⟨e,a',w',hq,harr⟩:=wp_ops _ _ _ hops b k ({c₀ with mode:=u'}::cs);have hstep:step P (lone (b.at a (.inRegion ops (0::List.range' 1 (ops.size-1))::k)) (c₀::cs) w)=.next (lone (b.at (a.put (some d') v) (.inRegion ops (List.range' 1 (ops.size-1))::k)) ({c₀ with mode:=u'}::cs) w):=by
   have hrec:recoverD (c₀::cs)=some (v,{c₀ with mode:=u'}::cs)\/(recoverD (c₀::cs)=none/\v=.nilIface/\u'=c₀.mode):=by
    unfold qe2 at hu;unfold recoverD;split at hu
    ·rename_i x older hm;simp only [X7] at hu;obtain ⟨rfl,rfl⟩:=hu;left;simp [hm]
    ·rename_i hne;simp only [X7] at hu;obtain ⟨rfl,rfl⟩:=hu;right;refine ⟨?_,rfl,rfl⟩;dsimp only;split
     ·rename_i y older hm;exact absurd hm (hne y older)
     all_goals rfl
   refine step_lone_go ?_;rw [hg,<-hfin];rcases hrec with hrec|⟨hrec,rfl,rfl⟩
   ·simp only [Frame.at] at htr⊢;simp [stepG.apply,hr,htr,hrec]
   ·simp only [Frame.at] at htr⊢;simp [stepG.apply,hr,htr,hrec]
  exact ⟨e,a',_,w',hq,.of_steps (.head step_region (by rw [hrange];exact .one hstep)) harr⟩
 ·cases hd
theorem qj6 {f:FuncId} {fn:Func} {id:Nat} {rest:Code} {args:Array Value} {u u':FrameMode} {v:Value} {R:Ending->FrameMode->World->Prop} (hf:P.funcs[f]?=some fn) (hb:fn.body=some (.seq (.region id ops false) rest)) (hn:fn.ntmps=n)
  (hfr:Fr n [] F {tmps:=args++Array.replicate (fn.ntmps-args.size) undef,defers:= []}) (d:Tmp) (hd:kf3 ops=some d) (hdn:zj3 n (some d)=true) (hu:qe2 u=(v,u'))
  (h: ∀K:Act->World->Prop,(∀a w,rest.wp P (bodyPost P fn fun e w'=>R e u' w') a w->K a w)->WR P ops (Exit.then K (bodyPost P fn fun e w'=>R e u' w')) 1 n [] (upd F (some d) v) w):CallsD P f args u w R:=by
 refine callsD_of_wpS hf hb fun c₀ cs hc=>wpS_seq ?_;subst hc;have post: ∀e a w,bodyPost P fn (fun e w'=>R e u' w') e a w->bodyPostS P fn c₀ cs R e a ({c₀ with mode:=u'}::cs) w:=by
  intro e a w hq;cases e with
  |normal=>obtain ⟨h1,v,h2,h3⟩:=hq;exact ⟨h1,u',rfl,v,h2,h3⟩
  |ret=>obtain ⟨h1,v,h2,h3⟩:=hq;exact ⟨h1,u',rfl,v,h2,h3⟩
  |panic ch=>obtain ⟨h1,h2⟩:=hq;exact ⟨h1,u',rfl,h2⟩
  |exit id=>exact hq.elim
  |goto l=>exact hq.elim
  |outgrown=>exact ⟨u',hq⟩
 refine jg2 hd hu ?_;have hw:=h (fun a w=>rest.wp P (bodyPost P fn fun e w'=>R e u' w') a w) (fun _ _ h=>h) _ (hfr.upd hdn v);have mono: ∀(Q Q':Exit->Act->World->Prop),(∀e a w,Q e a w->Q' e a w)-> ∀(l:List Oper) (a:Act) (w:World),wpList P ops Q l a w->wpList P ops Q' l a w:=by
  intro Q Q' hq l;induction l with
  |nil=>intro a w h;exact hq _ _ _ h
  |cons o r ih=>
   intro a w h;unfold wpList at h⊢;split
   ·rename_i hwant;rw [if_pos hwant] at h;rcases h with h|⟨h1,a₀,w₀,h2⟩
    ·left;unfold Oper.wp at h⊢;generalize (execOp a.eval o).run P w=r' at h⊢;unfold Oper.upon at h⊢;split at h
     ·exact ih _ _ h
     ·exact ih _ _ h
     ·exact ih _ _ h
     ·refine h.mono fun e w' he=>?_;cases e with
      |returned v=>exact ih _ _ he
      |panicked ch=>exact hq _ _ _ he
      |outgrown=>obtain ⟨a1,w1,h1⟩:=he;exact ⟨a1,w1,hq _ _ _ h1⟩
     ·exact h.mono fun v w' he=>ih _ _ he
     ·exact hq _ _ _ h
     ·exact h.elim
    ·right;exact ⟨h1,a₀,w₀,hq _ _ _ h2⟩
   ·rename_i hwant;rw [if_neg hwant] at h;exact ih _ _ h
 refine mono _ _ (fun e a w hq=>?_) _ _ _ hw;cases e with
 |normal=>exact wpS_of_wp (wp_mono hq post)
 |ret=>exact post .ret a w hq
 |panic ch=>exact post (.panic ch) a w hq
 |exit id=>exact post (.exit id) a w hq
 |goto l=>exact post (.goto l) a w hq
 |outgrown=>exact post .outgrown a w hq
end
end Go.V
