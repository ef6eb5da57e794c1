import Derived.Test.YtliopfopmhhdeaaGreatTb
import Derived.Test.YtliopfopmhhdeaaGreatXQ
import Derived.Test.YtliopfopmhhdeaaGreatSh
import Derived.Test.YtliopfopmhhdeaaGreatJn
set_option linter.defProp false
namespace Go.X
open Go.RowKit Go.V Go.Proofs
def k8 (ps:List (List Int)) (n:Int):Bool:=(ps.take n.toNat).any List.isEmpty
def jn2 (ps:List (List Int)) (n:Int):Int:=(((ps.take n.toNat).findIdx List.isEmpty:Nat):Int)
def ys9 (n:Int):Bool:=decide (0<=n)&&decide (n<=40)
def jn0:It1 TT:=⟨[.ptr 0 85 [.ptr 0 91 [.arr (.nl (.int .u8)) 40,.val (.int .i64)]]],fun x=>ys9 x.1.1.2.1,fun x=>k8 x.1.1.1 x.1.1.2.1,fun x=> [⟨.int .i64,jn2 x.1.1.1 x.1.1.2.1⟩]⟩
def qs9 {ps:List (List Int)} {m k:Nat} (hk:k<m) (hl:m<=ps.length) (h: ∀i,i<k->ps.getD i []≠ []) (he:ps.getD k []= []):k8 ps (m:Int)=true/\jn2 ps (m:Int)=(k:Int):=by
 have hlt:k<(ps.take (m:Int).toNat).length:=by simp;omega
 have hg: ∀i,i<m->(ps.take (m:Int).toNat)[i]?=some (ps.getD i []):=fun i hi=>by
  rw [Z3,if_pos (by simpa using hi),Y2,Y0 (by omega)];rfl
 constructor
 ·unfold k8;rw [List.any_eq_true];exact ⟨[],X6 ((hg k hk).trans (by rw [he])),rfl⟩
 ·unfold jn2;congr 1;rw [List.findIdx_eq hlt];have ge: ∀i (hi:i<(ps.take (m:Int).toNat).length),i<m->(ps.take (m:Int).toNat)[i]=ps.getD i []:=fun i hi him=>by
   have:=hg i him;rw [Y0 hi] at this;exact X5 this
  refine ⟨by rw [ge k hlt hk,he];rfl,fun j hj=>?_⟩;rw [ge j (by omega) (by omega)];have:=h j hj;cases hq:ps.getD j [] with
  |nil=>exact absurd hq this
  |cons _ _=>rfl
def jg5 {ps:List (List Int)} {m:Nat} (hl:m<=ps.length) (h: ∀i,i<m->ps.getD i []≠ []):k8 ps (m:Int)=false:=by
 unfold k8;rw [List.any_eq_false];intro l hm;obtain ⟨i,hi⟩:=Y9.1 hm;rw [Z3] at hi;split at hi
 ·rename_i him;have him:i<m:=by simpa using him
  have:=h i him;rw [Y2,hi] at this;cases l with
  |nil=>exact absurd rfl this
  |cons _ _=>simp
 ·cases hi
def vv1 (g0 g l:Nat) (ps:List (List Int)) (m:Nat) (c:Array Value) (J:World->Prop) (w:World) (hm:m<=40) (hb0:Blk w g0 #[.pointer (some ⟨g,0,none⟩)] 85) (hb:Blk w g c 91) (hlen:ps.length=40) (hc40:c[40]?=some (.int .i64 (m:Int)))
  (hc: ∀(j:Nat) (l:List Int),ps[j]?=some l-> ∃(ad:Option Addr) (cap:Nat),c[j]?=some (Value.slice ad l.length cap)/\(l= []->ad=none/\cap=0)/\(ad=none->l= []))
  (hround:k8 ps (m:Int)=true-> ∀W,Chg [] w W->jm1 Tryz.prog l #[.int .i64 (jn2 ps (m:Int))] W fun e W'=>e=.returned (.bool false)/\J W'):
  Calls Tryz.prog 91 #[.func (.yield l) #[] #[],.pointer (some ⟨g0,0,none⟩)] w fun e W'=>(∃v,e=.returned v)/\(k8 ps (m:Int)=true->J W')/\(k8 ps (m:Int)=false->Chg [] w W'):=by
 have key:CWI Tryz.prog (j9 Tryz.f91) (bodyPostM Fence.wide 0 Tryz.prog Tryz.f91 fun e W'=>(∃v,e=.returned v)/\(k8 ps (m:Int)=true->J W')/\(k8 ps (m:Int)=false->Chg [] w W')) 28 [(0,.func (.yield l) #[] #[]),(1,.pointer (some ⟨g0,0,none⟩))] w:=by
  refine CWI.seq (CWI.regionQ (by kernel_rfl) (by kernel_rfl) ?_);refine WQ.load1' (dst:=some 5) (t:=85) (a:=⟨g0,0,none⟩) (by kernel_rfl) (by kernel_rfl) (.pointer (some ⟨g,0,none⟩)) (by unfold World.cell?;have hb0:w.heap[g0]?=_:=hb0;simp [hb0]) ?_;refine WQ.val (dst:=some 6) (.pointer (some ⟨g,0,none⟩)) (fun w=>by kernel_rfl) ?_;refine WQ.val (dst:=some 7) (.pointer (some ⟨g,0,none⟩)) (fun w=>by kernel_rfl) ?_;refine WQ.load1' (dst:=some 8) (t:=85) (a:=⟨g0,0,none⟩) (by kernel_rfl) (by kernel_rfl) (.pointer (some ⟨g,0,none⟩)) (by unfold World.cell?;have hb0:w.heap[g0]?=_:=hb0;simp [hb0]) ?_;refine WQ.val (dst:=some 9) (.pointer (some ⟨g,0,none⟩)) (fun w=>by kernel_rfl) ?_;refine WQ.val (dst:=some 10) (.pointer (some ⟨g,40,none⟩)) (fun w=>by kernel_rfl) ?_;refine WQ.load1' (dst:=some 11) (t:=3) (a:=⟨g,40,none⟩) (by kernel_rfl) (by kernel_rfl) (.int .i64 (m:Int)) (by unfold World.cell?;have hb:w.heap[g]?=_:=hb;simp [hb,hc40]) ?_;refine WQ.sliceP (dst:=some 12) (t:=89) (b:=g) (o1:=0) (n0:=40) (sz:=1) (kh:=.i64) (m:=(m:Int)) (by kernel_rfl) (by kernel_rfl) (by omega) (by omega) (by decide) ?_;refine WQ.val (dst:=some 13) (.int .i64 (m:Int)) (fun w=>by kernel_rfl) ?_;refine WQ.val (dst:=some 14) (.int .i64 0) (fun w=>by kernel_rfl) ?_;refine WQ.keep [0,12,13,14] (F':= [(0,.func (.yield l) #[] #[]),(12,.slice (some ⟨g,0,none⟩) m 40),(13,.int .i64 (m:Int)),(14,.int .i64 0)]) (by kernel_rfl) ?_;refine WQ.fin (w:=w) (by kernel_rfl) fun W0 hW0 a ha=>⟨_,ha,?_⟩;refine CWI.block fun a ha=>wpIn_loop (fun a W=> ∃k:Nat,k<=m/\(∀i,i<k->ps.getD i []≠ [])/\Chg [] w W/\Fr 28 [] [(0,.func (.yield l) #[] #[]),(12,.slice (some ⟨g,0,none⟩) m 40),(13,.int .i64 (m:Int)),(14,.int .i64 (k:Int))] a) (fun a _=>match a.tmps.getD 14 undef with| .int _ x=>((m:Int)-x).toNat|_=>0) ⟨0,U4 _,by intro i hi;omega,hW0,ha⟩ ?_
  rintro a W ⟨k,hk,hall,hcW,hf⟩
  have hμ:(match a.tmps.getD 14 undef with| .int _ x=>((m:Int)-x).toNat|_=>0)=((m:Int)-(k:Int)).toNat:=by rw [(hf.val 14 (.int .i64 (k:Int)) rfl).1]
  rw [hμ];refine CWI.seq (F:= [(0,.func (.yield l) #[] #[]),(12,.slice (some ⟨g,0,none⟩) m 40),(13,.int .i64 (m:Int)),(14,.int .i64 (k:Int))]) (CWI.region ?_) a hf;refine WRI.batch 1 [(0,.func (.yield l) #[] #[]),(12,.slice (some ⟨g,0,none⟩) m 40),(13,.int .i64 (m:Int)),(14,.int .i64 (k:Int)),(15,.bool (decide ((k:Int)<(m:Int))))] (by kernel_rfl) ?_;refine WRI.fin (by kernel_rfl) fun a ha=>⟨_,ha,?_⟩;refine CWI.seq (CWI.cond (decide ((k:Int)<(m:Int))) (by kernel_rfl) (fun ht=>CWI.skip fun a ha=>⟨_,ha,?_⟩) fun hf=>CWI.exit fun a ha=>?_)
  ·have hlt:k<m:=by have:=of_decide_eq_true ht;omega
   have hbW:Blk W g c 91:=hb.pure hcW;obtain ⟨ad,cap,hcell,hnil,hsome⟩:=hc k (ps.getD k []) (by rw [Y2,Y0 (by omega)];rfl);refine CWI.seq (CWI.block (CWI.seq (CWI.region ?_)));refine WRI.batch 1 [(0,.func (.yield l) #[] #[]),(12,.slice (some ⟨g,0,none⟩) m 40),(13,.int .i64 (m:Int)),(14,.int .i64 (k:Int)),(16,.int .i64 (k:Int))] (by kernel_rfl) ?_;refine WRI.index (dst:=some 17) (t:=25) (b:=g) (o:=0) (m:=m) (cap:=40) (kk:=.i64) (i:=(k:Int)) (by kernel_rfl) 1 (by kernel_rfl) (by omega) (by omega) ?_;refine WRI.load1 (dst:=some 18) (t:=22) (a:=⟨g,0+(k:Int).toNat*1,none⟩) (by kernel_rfl) (by kernel_rfl) (.slice ad (ps.getD k []).length cap) (by unfold World.cell?;have hbW:W.heap[g]?=_:=hbW;simp [hbW,hcell]) ?_;refine WRI.batch 2 [(0,.func (.yield l) #[] #[]),(12,.slice (some ⟨g,0,none⟩) m 40),(13,.int .i64 (m:Int)),(14,.int .i64 (k:Int)),(3,.int .i64 (k:Int)),(4,.slice ad (ps.getD k []).length cap)] (by kernel_rfl) ?_;refine WRI.fin (by kernel_rfl) fun a ha=>⟨_,ha,?_⟩;have hiw:IntKind.i64.wrap ((k:Int)+1)=((k+1:Nat):Int):=by
    show IntKind.wrap _ _=_;unfold IntKind.wrap;simp [IntKind.signed,IntKind.bits];omega
   cases had:ad with
   |none=>
    have he:=hsome had;have hmk:=qs9 hlt (by omega) hall he;subst had;obtain ⟨_,rfl⟩:=hnil he;rw [he];refine CWI.seq (CWI.region ?_);refine WRI.batch 5 [(0,.func (.yield l) #[] #[]),(22,.func (.yield l) #[] #[]),(23,.int .i64 (k:Int)),(21,.bool true)] (by kernel_rfl) ?_;refine WRI.yield (dst:=some 24) (l:=l) (us:= [.int .i64 (k:Int)]) (by kernel_rfl) (hmk.2▸hround hmk.1 W hcW) (fun e w' h=>⟨_,h.1⟩) ?_
    rintro v W' ⟨hv,hJ'⟩
    cases hv;refine WRI.batch 2 [(26,.bool true)] (by kernel_rfl) ?_;refine WRI.fin (by kernel_rfl) fun a ha=>⟨_,ha,?_⟩;refine CWI.cond true (by kernel_rfl) (fun _=>CWI.ret fun a ha=>?_) fun h=>(by cases h);show LeavesInM Fence.wide 0 Tryz.prog Tryz.f91 a.tmps _ a.defers .returning W';rw [ha.defers];exact ⟨.tuple #[],by kernel_rfl,⟨_,rfl⟩,fun _=>hJ',fun h=>by rw [hmk.1] at h;cases h⟩
   |some a0=>
    subst had;have hne:ps.getD k []≠ []:=fun he=>by have:=(hnil he).1;cases this
    generalize (ps.getD k []).length=len at *;refine CWI.seq (CWI.region ?_);refine WRI.batch 8 [(0,.func (.yield l) #[] #[]),(12,.slice (some ⟨g,0,none⟩) m 40),(13,.int .i64 (m:Int)),(14,.int .i64 (k:Int)),(26,.bool false)] (by kernel_rfl) ?_;refine WRI.fin (by kernel_rfl) fun a ha=>⟨_,ha,?_⟩;refine CWI.cond false (by kernel_rfl) (fun h=>(by cases h)) fun _=>CWI.skip fun a ha=>⟨_,ha,?_⟩;refine CWI.region (WRI.batch 2 [(0,.func (.yield l) #[] #[]),(12,.slice (some ⟨g,0,none⟩) m 40),(13,.int .i64 (m:Int)),(14,.int .i64 (IntKind.i64.wrap ((k:Int)+1)))] (by kernel_rfl) ?_);rw [hiw];refine WRI.fin (by kernel_rfl) fun a ha=>⟨⟨k+1,by omega,fun i hi=>?_,hcW,ha⟩,?_⟩
    ·rcases Nat.lt_succ_iff_lt_or_eq.1 hi with h|h
     ·exact hall i h
     ·subst h;exact hne
    rw [(ha.val 14 (.int .i64 ((k+1:Nat):Int)) rfl).1];show ((m:Int)-((k+1:Nat):Int)).toNat<((m:Int)-(k:Int)).toNat;omega
  ·have hge: ¬(k:Int)<(m:Int):=of_decide_eq_false hf;have hk':k=m:=by omega
   subst hk';have hno:=jg5 (ps:=ps) (m:=k) (by omega) hall;show Exit.inBlock 0 (bodyPostM Fence.wide 0 Tryz.prog Tryz.f91 fun e W'=>(∃v,e=.returned v)/\(k8 ps (k:Int)=true->J W')/\(k8 ps (k:Int)=false->Chg [] w W')) (.exit 0) a W;refine ys2 ?_;show LeavesInM Fence.wide 0 Tryz.prog Tryz.f91 a.tmps _ a.defers .returning W;rw [ha.defers];exact ⟨.tuple #[],by kernel_rfl,⟨_,rfl⟩,fun h=>(by rw [hno] at h;cases h),fun _=>hcW⟩
 exact yr5 Tryz.func91 (show Tryz.f91.body=some (j9 Tryz.f91) by kernel_rfl) Tryz.ntmps91 (by kernel_rfl) [0,1] (by kernel_rfl) key
def vc3:ke8 TT Tryz.prog 91 jn0:=by
 intro x hpre w S φ vb hsim hvb;obtain ⟨ps,n,hx⟩: ∃(ps:List (List Int)) (n:Int),x=(((ps,n,()),()),()):=⟨x.1.1.1,x.1.1.2.1,rfl⟩;subst hx;have hpre:ys9 n=true:=hpre;unfold ys9 at hpre;rw [X3,decide_eq_true_eq,decide_eq_true_eq] at hpre;obtain ⟨m,rfl⟩: ∃m:Nat,n=(m:Int):=⟨n.toNat,by omega⟩;obtain ⟨g0,c0,a1,a2,a3,a4⟩:=hsim.ents 0 _ rfl;obtain ⟨g,c,b1,b2,b3,b4⟩:=hsim.ents 1 _ rfl;have a5:=a4.vrl TT (by rfl);obtain ⟨q1,q2,q3⟩:=vc7 (T:=TT) b4
 match vb,hvb with
 | [v],hvb=>
 obtain ⟨g',e1,rfl⟩:=hvb.1;have e1:(φ 0).ad=_:=e1;rw [a1] at e1;simp only [X0,Addr.mk.injEq,and_true] at e1;subst e1;have hc0:c0= #[.pointer (some ⟨g,0,none⟩)]:=by
  match hl:c0.toList,a5 with
  | [u],a5=>
   obtain ⟨g',e1,rfl⟩:=a5.1;have e1:(φ 1).ad=_:=e1;rw [b1] at e1;simp only [X0,Addr.mk.injEq,and_true] at e1;subst e1;exact T5.1 hl
 subst hc0;refine ⟨[.int .i64 (jn2 ps (m:Int))],fun _=>⟨rfl,fun j cc v h1 h2=>?_⟩,fun l J hJ=>?_⟩
 ·cases j with
  |zero=>
   simp only [jn0,Y4,X0] at h1 h2;subst h1;subst h2;exact CR.int _ _
  |succ j=>simp [jn0] at h1
 ·exact vv1 g0 g l ps m c J w (by omega) a2 b2 q1 (by simpa using q2) (fun (j:Nat) (l:List Int) hj=>by obtain ⟨ad,cap,k1,k2,k3,_⟩:=q3 j l hj;have k1:c.toList[j]?=some (Value.slice ad (List.length (α:=Int) l) cap):=k1;exact ⟨ad,cap,by simpa using k1,k2,k3⟩) hJ
noncomputable def sorted_sp:GSpec TT:=⟨[.fn 95 [] [.ptr 0 77 [.pm .i64 91 3]]],[.blk 77 [.mpo 1],.pm .i64 91 3],[.row 3 (.int .i64)],fun x=>zs0 x.1.2.1.1⟩
def vm1:GOk TT Tryz.prog 66 sorted_sp:=qe8 Tryz.sorted0Call (by kernel_rfl)
def u8s (l:List Int):List UInt8:=l.map fun x=>UInt8.ofNat x.toNat
def zd1 (l:List Int):Bool:=l.all fun x=>decide (0<=x)&&decide (x<=255)
def qb7 (ls:List (List Int)):Bool:= !ls.isEmpty&&(ls.all (fun l=> !l.isEmpty&&zd1 l)&&Nat.ble ls.flatten.length 1099511627776)
def jo9 (ps:List (List Int)) (n:Int) (lo m:Nat):Option (((List (List Int)×Int×Unit)×Unit)×(List Int×Unit)):=match qb7 ((ps.drop lo).take m) with|true=>some (((ps,n,()),()),(((ps.drop lo).take m).flatten,()))|false=>none
noncomputable def join_sp:GSpec TT:=⟨[.asn 91 [.arr (.nl (.int .u8)) 40,.val (.int .i64)] 0 1 40,.nils],[.blk 91 [.arr (.nl (.int .u8)) 40,.val (.int .i64)]],[.row 5 (.int .u8)],fun x=>jo9 x.1.1.1 x.1.1.2.1 x.1.2.1 x.1.2.2⟩
def ke5 {x:Int} (h:0<=x/\x<=255):((UInt8.ofNat x.toNat).toNat:Int)=x:=by
 rw [UInt8.toNat_ofNat'];omega
def CR.bytes {w:World} {S:List Nat} {l:List Int} {v:Value} (h:CR TT w S (.list (.int .u8)) l v): ∃ad cap,v=.slice ad l.length cap/\Rg w ad (l.map (Value.int .u8)):=by
 cases h with
 |list _ _ ad cap u hcap hnil had hcell hrel=>
  refine ⟨ad,cap,rfl,fun i x hx=>?_⟩;rw [W4] at hx;cases hi:l[i]? with
  |none=>rw [hi] at hx;cases hx
  |some y=>
   rw [hi] at hx;simp only [Z8,X0] at hx;subst hx;have hne:l≠ []:=fun e=>by subst e;simp at hi
   have hc:(l[i]?.map fun x=>(zb1 TT (.int .u8) x)[0]?)=some (some (⟨.int .u8,y⟩:Cell TT.U)):=by rw [hi];rfl
   have h1:=hcell i 0 _ hc;have h2:=hrel i 0 _ hc;have h2:CR TT w S (.int .u8) y (u i 0):=h2;obtain ⟨g1,g2,_⟩:=had hne;generalize u i 0=z at h1 h2;cases h2;have h1:w.cell? ⟨bk ad,of ad+(i*1+0),none⟩=some (.int .u8 y):=h1;rw [Nat.mul_one,J6] at h1;exact ⟨g1,h1⟩
def vs4 (w:World) (S:List Nat) (ks:List Int):CellsR TT w S ((ks:List (den TT.U (.int .u8))).flatMap (zb1 TT (.int .u8))) (ks.map (Value.int .u8)):=by
 have hf:(ks:List (den TT.U (.int .u8))).flatMap (zb1 TT (.int .u8))=ks.map fun x:Int=>(⟨.int .u8,x⟩:Cell TT.U):=by
  induction ks with
  |nil=>rfl
  |cons a r ih=>rw [U1,<-ih];rfl
 rw [hf];refine ⟨by simp,fun j c v h1 h2=>?_⟩;rw [W4] at h1 h2;cases hj:ks[j]? with
 |none=>rw [hj] at h1;cases h1
 |some x=>
  rw [hj] at h1 h2;simp only [Z8,X0] at h1 h2;subst h1;subst h2;exact CR.int _ _
def vc1:GOk TT Tryz.prog 65 join_sp:=by
 intro x y hy w S φ hsim vs hvs _;obtain ⟨ps,n,lo,m,hx⟩: ∃(ps:List (List Int)) (n:Int) (lo m:Nat),x=(((ps,n,()),lo,m),(),()):=⟨x.1.1.1,x.1.1.2.1,x.1.2.1,x.1.2.2,rfl⟩;subst hx;have hy:jo9 ps n lo m=some y:=hy;unfold jo9 at hy;split at hy<;>try (cases hy;done)
 rename_i hok;have hy:=X5 hy;subst hy;have hlsl:((ps.drop lo).take m).length=min m (ps.length-lo):=by simp
 have hget: ∀k,k<m->((ps.drop lo).take m)[k]?=ps[lo+k]?:=fun k hk=>by rw [Z3,if_pos hk,Q6]
 generalize hls:(ps.drop lo).take m=ls at hok hlsl hget;unfold qb7 at hok;simp only [X3,U9] at hok;obtain ⟨h2,h3,h5⟩:=hok;have h5:=Y1 h5;have hlne:ls≠ []:=fun e=>by subst e;cases h2
 have hpc: ∀l∈ls,l≠ []/\zd1 l=true:=fun l hl=>by
  have:=Y8.1 h3 l hl;rw [X3,U9] at this;exact ⟨fun e=>(by subst e;cases this.1),this.2⟩
 have hfne:ls.flatten≠ []:=by
  obtain ⟨a,r,rfl⟩: ∃a r,ls=a::r:=by cases ls with|nil=>exact absurd rfl hlne|cons a r=>exact ⟨a,r,rfl⟩
  intro e;rw [List.flatten_cons,R6] at e;exact (hpc a (by simp)).1 e.1
 obtain ⟨g,c,b1,b2,b3,b4⟩:=hsim.ents 0 _ rfl;obtain ⟨q1,q2,q3⟩:=vc7 (T:=TT) b4;have q1:ps.length=40:=q1
 match vs,hvs with
 | [v1,v2],hvs=>
 obtain ⟨g',ad,e1,rfl,e2,e3⟩:=hvs.1;have e1:(φ 0).ad=_:=e1;have e2:lo+m<=40:=e2;have e3:lo=40\/ad=⟨g',0+lo*1,none⟩:=e3;rw [b1] at e1;simp only [X0,Addr.mk.injEq,and_true] at e1;subst e1;have hv2:v2=.slice none 0 0:=hvs.2.1;subst hv2;have hpos:0<ls.length:=List.length_pos_iff.2 hlne;have had:ad=⟨g,lo,none⟩:=by
  rcases e3 with e3|e3
  ·omega
  ·rw [e3];simp
 subst had;have hlm:ls.length=m:=by omega
 have hcell: ∀k,k<m-> ∃(p:Option Addr) (cap:Nat) (l:List Int),ls[k]?=some l/\w.cell? ⟨g,lo+k,none⟩=some (.slice p l.length cap)/\CR TT w S (.list (.int .u8)) l (.slice p l.length cap):=fun k hk=>by
  obtain ⟨l,hl⟩: ∃l,ps[lo+k]?=some l:=⟨ps[lo+k]'(by omega),Y0 _⟩;obtain ⟨p,cap,k1,_,_,k4⟩:=q3 _ l hl;refine ⟨p,cap,l,by rw [hget k hk];exact hl,?_,k4⟩;unfold World.cell?;have b2:w.heap[g]?=_:=b2;have k1:c.toList[lo+k]?=some (Value.slice p (List.length (α:=Int) l) cap):=k1;have k1:c[lo+k]?=some (Value.slice p l.length cap):=by simpa using k1
  simp [b2,k1]
 have hbytes: ∀ {k:Nat} {l:List Int},ls[k]?=some l->l≠ []/\zd1 l=true:=fun {k l} hl=>hpc l (X6 hl)
 let R:List RowA:=(List.range m).map fun k=>match c[lo+k]? with|some (.slice p n cap)=>⟨p,n,cap⟩|_=>⟨none,0,0⟩
 have hRl:R.length=m:=by simp [R]
 have hR: ∀(k:Nat) (r:RowA),R[k]?=some r-> ∃l:List Int,k<m/\ls[k]?=some l/\w.cell? ⟨g,lo+k,none⟩=some r.val/\r.len=l.length/\l≠ []/\Rg w r.ad (l.map (Value.int .u8)):=fun k r hr=>by
  have hk:k<m:=by have:=(X2.1 hr).1;omega
  obtain ⟨p,cap,l,k1,k2,k3⟩:=hcell k hk;obtain ⟨ad,cap',k4,k5⟩:=CR.bytes k3;simp only [Value.slice.injEq,true_and] at k4;obtain ⟨rfl,rfl⟩:=k4;have hr:((List.range m).map fun k=>(match c[lo+k]? with|some (.slice p n cap)=>(⟨p,n,cap⟩:RowA)|_=>⟨none,0,0⟩))[k]?=some r:=hr;rw [W4,List.getElem?_range hk] at hr;have k6:=k2;unfold World.cell? at k6;have b2:w.heap[g]?=_:=b2;simp [b2] at k6;simp only [Z8,k6,X0] at hr;subst hr;exact ⟨l,hk,k1,k2,rfl,(hbytes k1).1,k5⟩
 have run:=vt9 (L:=R) (ls:=ls) (g:=g) (lo:=lo) (capm:=40-lo) (w:=w) (by omega) (by omega) (by omega) (by omega) (fun k u hu=>by
   rw [W4] at hu;cases hk:R[k]? with
   |none=>rw [hk] at hu;cases hu
   |some r=>
    rw [hk] at hu;simp only [Z8,X0] at hu;subst hu;obtain ⟨_,_,_,h,_⟩:=hR k r hk;exact ⟨rfl,h⟩)
  (fun k r hr=>by obtain ⟨l,_,k2,_,k4,k5,k6⟩:=hR k r hr;exact ⟨l,k2,k4,k5,k6⟩) h5
 rw [hRl] at run;refine run.mono ?_;intro e w' hret;cases e with
 |returned v'=>
  obtain ⟨hc,ad,cap,rfl,ho⟩:=hret;rcases ho.cases with ⟨_,h0,_⟩|⟨cb,h1,hge,hb,_⟩
  ·exact absurd (R7.1 h0) hfne
  ·have hgl:=hb.lt;rw [h1] at ho⊢;have h2:=hsim.add (g:=bk ad) (r:=⟨some ⟨bk ad,0,none⟩,ls.flatten.length,cap,[]⟩) hc hge hgl (fun a ha=>zw1 ha) (e:=.row 5 (.int .u8) ls.flatten)
    ⟨w.heap.size,_,by rw [j6];exact ho,by rw [j6];exact rfl,hc.size,vs4 _ _ _,fun a ha=>by rw [j6] at ha;simp only [X0] at ha;subst ha;simp⟩ (fun j hj=>by cases hj)
   have hids: ∀i∈q7 ([.own 1]:List (AV TT.U)),i<2:=by intro i hi;simp [q7,AV.ids] at hi;omega
   have hv:VR TT w' (bk ad::S) (zu8 φ 1 ⟨some ⟨bk ad,0,none⟩,ls.flatten.length,cap,[]⟩) (.own 1) (.slice (some ⟨bk ad,0,none⟩) ls.flatten.length cap):=by rw [VR,j6]
   exact ⟨_,_,_,[.slice (some ⟨bk ad,0,none⟩) ls.flatten.length cap],h2,⟨hv,trivial⟩,rfl,hids⟩
 |_=>exact hret.elim
end Go.X
