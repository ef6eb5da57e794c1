import Derived.Test.YtliopfopmhhdeaaGreatIa
set_option linter.defProp false
namespace Go.X
open Go.RowKit Go.V Go.Proofs
section
variable {P:Program} {ops:Array Oper} {Q:Exit->Act->World->Prop} {k n:Nat} {F:PF} {w:World}
def jr1 (ops:Array Oper) (k n:Nat) (F:PF):Option (Option Tmp×TypeId×Value×Value×Value×Value):=
 match dec ops k n F with|some ⟨dst,.slice t x (some lo) (some hi) (some mx),_,_,_,_⟩=>some (dst,t,evD F x,evD F lo,evD F hi,evD F mx)|_=>none
def WRI.slice3 {dst:Option Tmp} {t e:TypeId} {ad:Option Addr} {m cap:Nat} {kl kh km:IntKind} {l h mx:Int} {sz by_:Nat} {zc:Array Value} (hd:jr1 ops k n F=some (dst,t,.slice ad m cap,.int kl l,.int kh h,.int km mx)) (hi:zk6 P t=some (e,sz,by_,zc))
  (h0:0<=l) (h1:l<=h) (h2:h<=mx) (h3:mx<=(cap:Int)) (K:WRI P ops Q (k+1) n (upd F dst (sliced ad l.toNat h.toNat mx.toNat sz)) w):WRI P ops Q k n F w:=by
 unfold jr1 at hd;split at hd
 ·rename_i d t' x' l' h' m' ty pos af gd hdec;simp only [X0,X7] at hd;obtain ⟨rfl,rfl,e1,e2,e3,e4⟩:=hd;obtain ⟨inf,z,hu,hin,_,hsz,_⟩:=zb3 hi;have hel:P.elem t'=e:=by simp [Program.elem,hu]
  refine .val hdec (v:=sliced ad l.toNat h.toNat mx.toNat sz) (w':=w) ?_ K;have hs:(sizeOf e).run P w=.ok sz w:=by simp [sizeOf,typeInfo,hin,hsz]
  show (do pure (.value (<-Instr.sliceAt t' (evD F x') (some (evD F l')) (some (evD F h')) (some (evD F m')))):Sem Next).run P w=_;rw [e1,e2,e3,e4,Sem.run_bind,run_sliceAt_slice w t' _ _ _ _ (zl1 hu),run_slice_lhm w t' ad m cap (zl1 hu) kl kh km l h mx h0 h1 h2 h3,hel,hs];rfl
 ·cases hd
def WQ.sliceL {C:World->Prop} {Qf:Act->Prop} {ds:List Deferred} {dst:Option Tmp} {t e:TypeId} {ad:Option Addr} {m cap:Nat} {kl:IntKind} {l:Int} {sz by_:Nat} {zc:Array Value} (hd:zm8 ops k n F=some (dst,t,.slice ad m cap,some (.int kl l),none)) (hi:zk6 P t=some (e,sz,by_,zc))
  (h0:0<=l) (h1:l<=(m:Int)) (K:WQ P ops C Qf (k+1) n ds (upd F dst (sliced ad l.toNat m cap sz))):WQ P ops C Qf k n ds F:=by
 obtain ⟨o,hdec,rfl,he⟩:=zj8 hd;obtain ⟨inf,z,hu,hin,_,hsz,_⟩:=zb3 hi;have hel:P.elem t=e:=by simp [Program.elem,hu]
 refine .step hdec (fun w _=>?_) K;have hs:(sizeOf e).run P w=.ok sz w:=by simp [sizeOf,typeInfo,hin,hsz]
 have hr:(execOp (evD F) o).run P w=.ok (.value (sliced ad l.toNat m cap sz)) w:=by
  rw [he,Sem.run_bind,run_sliceAt_slice w t _ _ _ _ (zl1 hu),run_slice_l w t ad m cap (zl1 hu) kl l h0 h1,hel,hs];rfl
 rw [hr];exact ⟨rfl,rfl⟩
end
def qn3 (tb ti:TypeId) (H:List (Ent TT.U)):List (AV TT.U)->Option (List Int×Int)
 | [.ptr i 0,.ptr j 0]=>match H[i]?,H[j]? with
  |some (.blk t1 [.cell ⟨.list (.int .u8),b⟩]),some (.blk t2 [.cell ⟨.int .i64,n⟩])=>match Nat.beq t1 tb&&Nat.beq t2 ti with|true=>some (b,n)|false=>none
  |_,_=>none
 |_=>none
def gd6 (tb ti:TypeId):ItS TT where
 cnt:=fun caps H=>match qn3 tb ti H caps with|some (b,n)=>z8 (decide (n=1024)&&Nat.ble b.length 1099511627776) (some ((b.length+1023)/1024)) none|none=>none
 item:=fun caps H k=>match qn3 tb ti H caps with|some (b,_)=>some [.cell ⟨.list (.int .u8),List.take 1024 (List.drop (k*1024) b)⟩]|none=>none
 chk:=fun caps H N=>match qn3 tb ti H caps with|some (b,n)=>some (decide (n=1024)&&(Nat.beq ((b.length+1023)/1024) N&&Nat.ble b.length 1099511627776))|none=>some false
def jt7 {tb ti:TypeId} {H:List (Ent TT.U)} {caps:List (AV TT.U)} {b:List Int} {n:Int} (h:qn3 tb ti H caps=some (b,n)): ∃i j,caps= [.ptr i 0,.ptr j 0]/\H[i]?=some (.blk tb [.cell ⟨.list (.int .u8),b⟩])/\H[j]?=some (.blk ti [.cell ⟨.int .i64,n⟩]):=by
 unfold qn3 at h;split at h
 ·rename_i i j;split at h
  ·rename_i t1 b' t2 n' h1 h2;split at h
   ·rename_i hb;rw [X3] at hb;simp only [X0,X7] at h;obtain ⟨rfl,rfl⟩:=h;exact ⟨i,j,rfl,by rw [h1,X1 hb.1],by rw [h2,X1 hb.2]⟩
   ·cases h
  ·cases h
 ·cases h
def CR.form {w:World} {S:List Nat} {e:Ty} {xs:List (den TT.U e)} {v:Value} (h:CR TT w S (.list e) xs v): ∃ad cap,v=.slice ad xs.length cap/\xs.length<=cap/\(ad=none->xs.length=0/\cap=0):=by
 cases h with
 |list _ _ ad cap u hcap hnil had hcell hrel=>exact ⟨ad,cap,rfl,hcap,hnil⟩
def CR.room {w:World} {S:List Nat} {e:Ty} {xs:List (den TT.U e)} {ad:Option Addr} {cap c':Nat} (h:CR TT w S (.list e) xs (.slice ad xs.length cap)) (hc:xs.length<=c') (hn:ad=none->c'=0):CR TT w S (.list e) xs (.slice ad xs.length c'):=by
 cases h with
 |list _ _ _ _ u hcap hnil had hcell hrel=>exact .list e xs ad c' u hc (fun h=>⟨(hnil h).1,hn h⟩) had hcell hrel
def gj5:zk6 Tryz.prog 22=some (5,1,1,#[.int .u8 0]):=by kernel_rfl
def pcN (len k:Nat):Nat:=min 1024 (len-k*1024)
def pcV (ad:Option Addr) (len k:Nat):Value:=sliced ad (k*1024) (k*1024+pcN len k) (k*1024+pcN len k) 1
structure ChCon (W:World) (g1 g2 N:Nat) (ad:Option Addr) (cap len:Nat):Prop where
 b1:Blk W g1 #[.slice ad len cap] 22
 b2:Blk W g2 #[.int .i64 1024] 3
 cnt:(len+1023)/1024=N
 le:len<=cap
 big:len<=1099511627776
def vh1 (g1 g2 l N:Nat) (J:Nat->World->Prop) (w:World)
  (hround: ∀k W,k<N->J k W-> ∃ad cap len,ChCon W g1 g2 N ad cap len/\jm1 Tryz.prog l #[pcV ad len k] W fun e W'=>e=.returned (.bool true)/\J (k+1) W')
  (hend: ∀W,J N W-> ∃ad cap len,ChCon W g1 g2 N ad cap len) (hpure: ∀k W W',J k W->Chg [] W W'->J k W')
  (h0:J 0 w):Calls Tryz.prog 42 #[.func (.yield l) #[] #[],.pointer (some ⟨g1,0,none⟩),.pointer (some ⟨g2,0,none⟩)] w fun e W'=>(∃v,e=.returned v)/\J N W':=by
 have key:CWI Tryz.prog (j9 Tryz.f42) (bodyPostM Fence.wide 0 Tryz.prog Tryz.f42 fun e W'=>(∃v,e=.returned v)/\J N W') 31 [(0,.func (.yield l) #[] #[]),(1,.pointer (some ⟨g1,0,none⟩)),(2,.pointer (some ⟨g2,0,none⟩))] w:=by
  refine CWI.seq (CWI.region ?_);refine WRI.batch 1 [(0,.func (.yield l) #[] #[]),(1,.pointer (some ⟨g1,0,none⟩)),(2,.pointer (some ⟨g2,0,none⟩)),(4,.int .i64 0)] (by kernel_rfl) ?_;refine WRI.fin (by kernel_rfl) fun a ha=>⟨_,ha,?_⟩;refine CWI.block fun a ha=>wpIn_loop (fun a W=> ∃k:Nat,k<=N/\J k W/\Fr 31 [] [(0,.func (.yield l) #[] #[]),(1,.pointer (some ⟨g1,0,none⟩)),(2,.pointer (some ⟨g2,0,none⟩)),(4,.int .i64 ((k*1024:Nat):Int))] a) (fun a _=>match a.tmps.getD 4 undef with| .int _ x=>(((N*1024:Nat):Int)-x).toNat|_=>0) ⟨0,U4 _,h0,ha⟩ ?_
  rintro a W ⟨k,hk,hJ,hf⟩
  have hμ:(match a.tmps.getD 4 undef with| .int _ x=>(((N*1024:Nat):Int)-x).toNat|_=>0)=(((N*1024:Nat):Int)-((k*1024:Nat):Int)).toNat:=by rw [(hf.val 4 (.int .i64 ((k*1024:Nat):Int)) rfl).1]
  rw [hμ];obtain ⟨ad,cap,len,hcon⟩: ∃ad cap len,ChCon W g1 g2 N ad cap len:=by
   rcases R8 hk with h|h
   ·obtain ⟨ad,cap,len,h1,_⟩:=hround k W h hJ;exact ⟨ad,cap,len,h1⟩
   ·subst h;exact hend W hJ
  have hcnt:=hcon.cnt;have hbig:=hcon.big;have hlec:=hcon.le;refine CWI.seq (F:= [(0,.func (.yield l) #[] #[]),(1,.pointer (some ⟨g1,0,none⟩)),(2,.pointer (some ⟨g2,0,none⟩)),(4,.int .i64 ((k*1024:Nat):Int))]) (CWI.seq (CWI.region ?_)) a hf;refine WRI.batch 1 [(0,.func (.yield l) #[] #[]),(1,.pointer (some ⟨g1,0,none⟩)),(2,.pointer (some ⟨g2,0,none⟩)),(4,.int .i64 ((k*1024:Nat):Int)),(6,.int .i64 ((k*1024:Nat):Int))] (by kernel_rfl) ?_;refine WRI.load1 (dst:=some 7) (t:=22) (a:=⟨g1,0,none⟩) (by kernel_rfl) (by kernel_rfl) (.slice ad len cap) (by unfold World.cell?;have hb:W.heap[g1]?=_:=hcon.b1;simp [hb]) ?_;refine WRI.batch 2 [(0,.func (.yield l) #[] #[]),(1,.pointer (some ⟨g1,0,none⟩)),(2,.pointer (some ⟨g2,0,none⟩)),(4,.int .i64 ((k*1024:Nat):Int)),(9,.bool (decide (((k*1024:Nat):Int)<(len:Int))))] (by kernel_rfl) ?_;refine WRI.fin (by kernel_rfl) fun a ha=>⟨_,ha,?_⟩;refine CWI.cond (decide (((k*1024:Nat):Int)<(len:Int))) (by kernel_rfl) (fun ht=>CWI.skip fun a ha=>⟨_,ha,?_⟩) fun hf=>CWI.exit fun a ha=>?_
  ·have hlt:k*1024<len:=by have:=of_decide_eq_true ht;omega
   have hkN:k<N:=by omega
   refine CWI.seq (CWI.block (CWI.seq (CWI.regionQ (by kernel_rfl) (by kernel_rfl) ?_)));refine WQ.load1' (dst:=some 13) (t:=3) (a:=⟨g2,0,none⟩) (by kernel_rfl) (by kernel_rfl) (.int .i64 1024) (by unfold World.cell?;have hb:W.heap[g2]?=_:=hcon.b2;simp [hb]) ?_;refine WQ.load1' (dst:=some 14) (t:=22) (a:=⟨g1,0,none⟩) (by kernel_rfl) (by kernel_rfl) (.slice ad len cap) (by unfold World.cell?;have hb:W.heap[g1]?=_:=hcon.b1;simp [hb]) ?_;refine WQ.val (dst:=some 15) (.int .i64 ((k*1024:Nat):Int)) (fun w=>by kernel_rfl) ?_;refine WQ.sliceL (dst:=some 16) (t:=22) (ad:=ad) (m:=len) (cap:=cap) (kl:=.i64) (l:=((k*1024:Nat):Int)) (by kernel_rfl) gj5 (by omega) (by omega) ?_;refine WQ.val (dst:=some 17) (.int .i64 ((len-k*1024:Nat):Int)) (fun w=>by kernel_rfl) ?_;refine WQ.val (dst:=some 18) (.int .i64 (if ((len-k*1024:Nat):Int)<1024 then ((len-k*1024:Nat):Int) else 1024)) (fun w=>by kernel_rfl) ?_;have hif:(if ((len-k*1024:Nat):Int)<1024 then ((len-k*1024:Nat):Int) else 1024)=((pcN len k:Nat):Int):=by
    unfold pcN;split<;>omega
   rw [hif];refine WQ.val (dst:=some 5) (.int .i64 ((pcN len k:Nat):Int)) (fun w=>by kernel_rfl) ?_;refine WQ.keep [0,1,2,4,5] (F':= [(0,.func (.yield l) #[] #[]),(1,.pointer (some ⟨g1,0,none⟩)),(2,.pointer (some ⟨g2,0,none⟩)),(4,.int .i64 ((k*1024:Nat):Int)),(5,.int .i64 ((pcN len k:Nat):Int))]) (by kernel_rfl) ?_;refine WQ.fin (w:=W) (by kernel_rfl) fun W0 hW0 a ha=>⟨_,ha,?_⟩;obtain ⟨ad',cap',len',hcon',hy⟩:=hround k W0 hkN (hpure k W W0 hJ hW0);have he:ad'=ad/\len'=len/\cap'=cap:=by
    have h1:W0.heap[g1]?=_:=hcon'.b1;have h2:W0.heap[g1]?=_:=hcon.b1.pure hW0;rw [h1] at h2;simpa using h2
   obtain ⟨rfl,rfl,rfl⟩:=he;have hpos:0<pcN len' k/\k*1024+pcN len' k<=len':=by unfold pcN;omega
   have hwr:IntKind.i64.wrap (((k*1024:Nat):Int)+((pcN len' k:Nat):Int))=((k*1024+pcN len' k:Nat):Int):=by
    show IntKind.wrap _ _=_;unfold IntKind.wrap;simp [IntKind.signed,IntKind.bits];omega
   refine CWI.seq (CWI.region ?_);refine WRI.batch 1 [(0,.func (.yield l) #[] #[]),(1,.pointer (some ⟨g1,0,none⟩)),(2,.pointer (some ⟨g2,0,none⟩)),(4,.int .i64 ((k*1024:Nat):Int)),(5,.int .i64 ((pcN len' k:Nat):Int)),(19,.func (.yield l) #[] #[])] (by kernel_rfl) ?_;refine WRI.load1 (dst:=some 20) (t:=22) (a:=⟨g1,0,none⟩) (by kernel_rfl) (by kernel_rfl) (.slice ad' len' cap') (by unfold World.cell?;have hb:W0.heap[g1]?=_:=hcon'.b1;simp [hb]) ?_;refine WRI.batch 7 [(0,.func (.yield l) #[] #[]),(1,.pointer (some ⟨g1,0,none⟩)),(2,.pointer (some ⟨g2,0,none⟩)),(4,.int .i64 ((k*1024:Nat):Int)),(19,.func (.yield l) #[] #[]),(20,.slice ad' len' cap'),(21,.int .i64 ((k*1024:Nat):Int)),(24,.int .i64 (IntKind.i64.wrap (((k*1024:Nat):Int)+((pcN len' k:Nat):Int)))),(27,.int .i64 (IntKind.i64.wrap (((k*1024:Nat):Int)+((pcN len' k:Nat):Int))))] (by kernel_rfl) ?_;rw [hwr];refine WRI.slice3 (dst:=some 28) (t:=22) (ad:=ad') (m:=len') (cap:=cap') (kl:=.i64) (kh:=.i64) (km:=.i64) (l:=((k*1024:Nat):Int)) (h:=((k*1024+pcN len' k:Nat):Int)) (mx:=((k*1024+pcN len' k:Nat):Int)) (by kernel_rfl) gj5 (by omega) (by omega) (by omega) (by omega) ?_;refine WRI.yield (dst:=some 29) (l:=l) (us:= [pcV ad' len' k]) (by kernel_rfl) hy (fun e w' h=>⟨_,h.1⟩) ?_
   rintro v W' ⟨hv,hJ'⟩
   cases hv;have hb2:Blk W' g2 #[.int .i64 1024] 3:=by
    rcases R8 (Nat.succ_le_of_lt hkN) with h|h
    ·obtain ⟨_,_,_,h1,_⟩:=hround (k+1) W' h hJ';exact h1.b2
    ·obtain ⟨_,_,_,h1⟩:=hend W' (h▸hJ');exact h1.b2
   refine WRI.batch 1 [(0,.func (.yield l) #[] #[]),(1,.pointer (some ⟨g1,0,none⟩)),(2,.pointer (some ⟨g2,0,none⟩)),(4,.int .i64 ((k*1024:Nat):Int)),(30,.bool false)] (by kernel_rfl) ?_;refine WRI.fin (by kernel_rfl) fun a ha=>⟨_,ha,?_⟩;refine CWI.cond false (by kernel_rfl) (fun h=>(by cases h)) fun _=>CWI.skip fun a ha=>⟨_,ha,?_⟩;refine CWI.region ?_;refine WRI.batch 1 [(0,.func (.yield l) #[] #[]),(1,.pointer (some ⟨g1,0,none⟩)),(2,.pointer (some ⟨g2,0,none⟩)),(10,.int .i64 ((k*1024:Nat):Int))] (by kernel_rfl) ?_;refine WRI.load1 (dst:=some 11) (t:=3) (a:=⟨g2,0,none⟩) (by kernel_rfl) (by kernel_rfl) (.int .i64 1024) (by unfold World.cell?;have hb:W'.heap[g2]?=_:=hb2;simp [hb]) ?_;refine WRI.batch 2 [(0,.func (.yield l) #[] #[]),(1,.pointer (some ⟨g1,0,none⟩)),(2,.pointer (some ⟨g2,0,none⟩)),(4,.int .i64 (IntKind.i64.wrap (((k*1024:Nat):Int)+1024)))] (by kernel_rfl) ?_;have hw2:IntKind.i64.wrap (((k*1024:Nat):Int)+1024)=(((k+1)*1024:Nat):Int):=by
    show IntKind.wrap _ _=_;unfold IntKind.wrap;simp [IntKind.signed,IntKind.bits];omega
   rw [hw2];refine WRI.fin (by kernel_rfl) fun a ha=>⟨⟨k+1,by omega,hJ',ha⟩,?_⟩;rw [(ha.val 4 (.int .i64 (((k+1)*1024:Nat):Int)) rfl).1];show (((N*1024:Nat):Int)-(((k+1)*1024:Nat):Int)).toNat<(((N*1024:Nat):Int)-((k*1024:Nat):Int)).toNat;omega
  ·have hge: ¬((k*1024:Nat):Int)<(len:Int):=of_decide_eq_false hf;have hk':k=N:=by omega
   show Exit.inBlock 0 (bodyPostM Fence.wide 0 Tryz.prog Tryz.f42 fun e W'=>(∃v,e=.returned v)/\J N W') (.exit 0) a W;refine ys2 ?_;show LeavesInM Fence.wide 0 Tryz.prog Tryz.f42 a.tmps _ a.defers .returning W;rw [ha.defers];exact ⟨.tuple #[],by kernel_rfl,⟨_,rfl⟩,hk'▸hJ⟩
 exact yr5 Tryz.func42 (show Tryz.f42.body=some (j9 Tryz.f42) by kernel_rfl) Tryz.ntmps42 (by kernel_rfl) [0,1,2] (by kernel_rfl) key
section
variable {w0 w:World} {S0:Ow} {F:AF TT} {H:List (Ent TT.U)} {F':PF} {S:List Nat} {φ:Nat->RA}
theorem vu2 (hs:Sim TT w0 S0 ⟨F,H⟩ F' w S φ) {i:Nat} {t:TypeId} {b:List Int} (hi:H[i]?=some (.blk t [.cell ⟨.list (.int .u8),b⟩])) {g:Nat} (hg:(φ i).ad=some ⟨g,0,none⟩):
  ∃ad cap,Blk w g #[.slice ad b.length cap] t/\b.length<=cap/\CR TT w S (.list (.int .u8)) b (.slice ad b.length cap)/\(ad=none->b.length=0):=by
 obtain ⟨g',c,h1,h2,_,h4⟩:=hs.ents i _ hi;rw [hg] at h1;simp only [X0,Addr.mk.injEq,and_true] at h1;subst h1;have h5:=h4.vrl TT rfl
 match hc:c.toList,h5 with
 | [v],h5=>
  have h6:CR TT w S (.list (.int .u8)) b v:=h5.1;obtain ⟨ad,cap,rfl,q1,q2⟩:=h6.form;have:c= #[Value.slice ad (List.length (α:=Int) b) cap]:=T5.1 (by rw [hc];rfl);exact ⟨ad,cap,by rw [<-this];exact h2,q1,h6,fun h=>(q2 h).1⟩
 | [],h5=>exact h5.elim
 |_::_::_,h5=>exact h5.2.elim
theorem vw5 {b:List Int} {ad:Option Addr} {cap k:Nat} (h:CR TT w S (.list (.int .u8)) b (.slice ad b.length cap)) (hle:b.length<=cap) (hn:ad=none->b.length=0) (hk:k*1024<b.length):CR TT w S (.list (.int .u8)) (List.take 1024 (List.drop (k*1024) b)) (pcV ad b.length k):=by
 have e0:List.take 1024 (List.drop (k*1024) b)=(b.drop (k*1024)).take (pcN b.length k):=by
  unfold pcN;rw [<-List.length_drop,<-List.take_eq_take_min]
 have hp:0<pcN b.length k/\k*1024+pcN b.length k<=b.length:=by unfold pcN;omega
 have h1:=CR.sub h hp.2;have hlen:((b.drop (k*1024)).take (pcN b.length k)).length=pcN b.length k:=by rw [Y6,Q7];omega
 have had:ad≠none:=fun e=>by have:=hn e;omega
 suffices hx: ∀xs:List Int,xs=(b.drop (k*1024)).take (pcN b.length k)->CR TT w S (.list (.int .u8)) xs (pcV ad b.length k) from hx _ e0
 intro xs hxs;subst hxs;have e1:pcV ad b.length k=.slice (zj0 ad cap (k*1024) 1) (pcN b.length k) (pcN b.length k):=by
  unfold pcV sliced zj0;rw [if_neg (by omega),if_neg (by omega),M9]
 rw [e1];have h2:CR TT w S (.list (.int .u8)) ((b.drop (k*1024)).take (pcN b.length k)) (.slice (zj0 ad cap (k*1024) 1) (List.length (α:=Int) ((b.drop (k*1024)).take (pcN b.length k))) (cap-k*1024)):=by
  rw [hlen];exact h1
 have h3:CR TT w S (.list (.int .u8)) ((b.drop (k*1024)).take (pcN b.length k)) (.slice (zj0 ad cap (k*1024) 1) (List.length (α:=Int) ((b.drop (k*1024)).take (pcN b.length k))) (pcN b.length k)):=h2.room (c':=pcN b.length k) (N7 hlen) (fun e=>by
  unfold zj0 at e;split at e
  ·exact absurd e had
  ·cases ad with
   |none=>exact absurd rfl had
   |some _=>cases e)
 rw [hlen] at h3;exact h3
end
def vs5:gd1 TT Tryz.prog 42 (gd6 22 3):=by
 intro caps H N hc0 w0 S0 F F' w S φ vb hs hv;have hc:(match qn3 22 3 H caps with|some (b,n)=>z8 (decide (n=1024)&&Nat.ble b.length 1099511627776) (some ((b.length+1023)/1024)) none|none=>none)=some N:=hc0;clear hc0;split at hc<;>try (cases hc;done)
 rename_i b n hr;obtain ⟨i,j,rfl,hi,hj⟩:=jt7 hr
 match vb,hv with
 | [v1,v2],hv=>
  obtain ⟨⟨g1,a1,rfl⟩,⟨g2,a2,rfl⟩,_⟩:=hv;have hcon: ∀(H1:List (Ent TT.U)) (w0:World) (S0:Ow) (F:AF TT) (F':PF) (w1:World) (S1:List Nat) (φ1:Nat->RA),kj3 ((gd6 22 3).chk [.ptr i 0,.ptr j 0] H1 N)->Sim TT w0 S0 ⟨F,H1⟩ F' w1 S1 φ1->VRL TT w1 S1 φ1 [.ptr i 0,.ptr j 0] [.pointer (some ⟨g1,0,none⟩),.pointer (some ⟨g2,0,none⟩)]->
    ∃b ad cap,qn3 22 3 H1 [.ptr i 0,.ptr j 0]=some (b,1024)/\ChCon w1 g1 g2 N ad cap b.length/\CR TT w1 S1 (.list (.int .u8)) b (.slice ad b.length cap)/\(ad=none->b.length=0):=by
   intro H1 w0 S0 F F' w1 S1 φ1 hk hs1 hv1;have hk:kj3 (match qn3 22 3 H1 [.ptr i 0,.ptr j 0] with|some (b,n)=>some (decide (n=1024)&&(Nat.beq ((b.length+1023)/1024) N&&Nat.ble b.length 1099511627776))|none=>some false):=hk;cases hr1:qn3 22 3 H1 [.ptr i 0,.ptr j 0] with
   |none=>rw [hr1] at hk;cases hk
   |some bn=>
    obtain ⟨b1,n1⟩:=bn;rw [hr1] at hk;have hk:(decide (n1=1024)&&(Nat.beq ((b1.length+1023)/1024) N&&Nat.ble b1.length 1099511627776))=true:=hk;rw [X3,X3] at hk;obtain ⟨k1,k2,k3⟩:=hk;have k1:=of_decide_eq_true k1;subst k1;obtain ⟨i',j',e,hi1,hj1⟩:=jt7 hr1;simp only [List.cons.injEq,AV.ptr.injEq,and_true] at e;obtain ⟨rfl,rfl⟩:=e;obtain ⟨⟨g1',a1',e1⟩,⟨g2',a2',e2⟩,_⟩:=hv1;simp only [Value.pointer.injEq,X0,Addr.mk.injEq,and_true] at e1 e2;subst e1;subst e2;obtain ⟨ad,cap,c1,c2,c3,c4⟩:=vu2 hs1 hi1 a1';exact ⟨b1,ad,cap,rfl,⟨c1,vs3 hs1 hj1 a2',X1 k2,c2,Y1 k3⟩,c3,c4⟩
  refine ⟨fun k W us=>k<N-> ∃ad cap len,ChCon W g1 g2 N ad cap len/\us= [pcV ad len k],fun W=> ∃ad cap len,ChCon W g1 g2 N ad cap len,?_,?_,?_⟩
  ·intro k H1 v w0 S0 F F' w1 S1 φ1 hk hit hs1 hv1;obtain ⟨b1,ad,cap,q1,q2,q3,q4⟩:=hcon H1 w0 S0 F F' w1 S1 φ1 hk hs1 hv1;have hit:(match qn3 22 3 H1 [.ptr i 0,.ptr j 0] with|some (b,_)=>some [AV.cell ⟨.list (.int .u8),List.take 1024 (List.drop (k*1024) b)⟩]|none=>none)=some v:=hit;rw [q1] at hit;simp only [X0] at hit;subst hit;have hok: ∀a∈([AV.cell ⟨.list (.int .u8),List.take 1024 (List.drop (k*1024) b1)⟩]:List (AV TT.U)),okA H1 a:=fun a ha=>by
    simp only [Z0,N5,or_false] at ha;subst ha;exact zc7 rfl (by intro i hi;cases hi)
   by_cases hkN:k<N
   ·have hcnt:=q2.cnt;exact ⟨[pcV ad b1.length k],fun _=>⟨ad,cap,_,q2,rfl⟩,⟨vw5 q3 q2.le q4 (by omega),trivial⟩,hok⟩
   ·have hcnt:=q2.cnt;have e:List.take 1024 (List.drop (k*1024) b1)= []:=by rw [M3 (by omega)];rfl
    refine ⟨[.slice none 0 0],fun h=>absurd h hkN,⟨?_,trivial⟩,hok⟩;have hn: ∀xs:List Int,xs= []->CR TT w1 S1 (.list (.int .u8)) xs (.slice none 0 0):=fun xs h=>by subst h;exact CR.nilS
    exact hn _ e
  ·intro H1 w0 S0 F F' w1 S1 φ1 hk hs1 hv1;obtain ⟨b1,ad,cap,_,q2,_⟩:=hcon H1 w0 S0 F F' w1 S1 φ1 hk hs1 hv1;exact ⟨ad,cap,_,q2⟩
  ·intro l J hround hend hpure h0;refine vh1 g1 g2 l N J w (fun k W hk hJ=>?_) hend hpure h0;obtain ⟨us,h1,h2⟩:=hround k W hk hJ;obtain ⟨ad,cap,len,q,rfl⟩:=h1 hk;exact ⟨ad,cap,len,q,h2⟩
end Go.X
