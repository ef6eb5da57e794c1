import Derived.Test.YtliopfopmhhdeaaGreatA4
import Derived.Laws.BytesString
import Derived.Laws.IdiomStrings
set_option linter.defProp false
namespace Go.X
open Go.RowKit Go.V
section
variable {T:Tab} {P:Program} {C:Ctx T} {w w':World} {S S':List Nat} {φ φ':Nat->RA} {w0:World} {S0:Ow} {F:AF T} {H:List (Ent T.U)} {F':PF}
variable {ops:Array Oper} {Q:Exit->Act->World->Prop} {k n:Nat} {ds:List Deferred} {o:Oper}
def yn5 (Q:Exit->Act->World->Prop) (n:Nat) (ds:List Deferred) (w0:World) (S0:Ow) (a:AV T.U) (st:St T):Prop:=
 ∀F1 w1 S1 φ1 v,Sim T w0 S0 st F1 w1 S1 φ1->VR T w1 S1 φ1 a v->okA st.H a-> ∀act,Fr n ds F1 act->Q (.panic [{v:=v,recovered:=false}]) act w1
def VRL.append: ∀ {aS bs:List (AV T.U)} {us vs:List Value},VRL T w S φ aS us->VRL T w S φ bs vs->VRL T w S φ (aS++bs) (us++vs)
 | [],_,[],_,_,h=>h
 | [],_,_::_,_,h,_=>h.elim
 |_::_,_,[],_,h,_=>h.elim
 |_::_,_,_::_,_,h,h2=>⟨h.1,VRL.append h.2 h2⟩
def yh4: ∀(aS bs:List (AV T.U)),j8 (aS++bs)=j8 aS++j8 bs
 | [],_=>rfl
 |a::r,bs=>by rw [M8,j8,yh4 r bs,j8,Q2]
def qu2: ∀ {aS:List (AV T.U)},aS.all zh1=true->(∀i∈j8 aS,i<H.length)-> ∀a∈aS,okA H a
 | [],_,_,a,ha=>by cases ha
 |b::r,h,hi,a,ha=>by
  simp only [J1,X3] at h;rw [j8] at hi;rcases Z0.1 ha with rfl|ha
  ·exact zf6 h.1 fun i hj=>hi i (X4.2 (.inl hj))
  ·exact qu2 h.2 (fun i hj=>hi i (X4.2 (.inr hj))) a ha
def zy9 {f:FuncId} (h:zl0 P f=true) (args:Array Value) (w:World):(callFunc f args).run P w=.ok (.enter f args) w:=by
 unfold zl0 at h;split at h
 ·rename_i fn hf;simp only [X3,V4,beq_eq_false_iff_ne,ne_eq] at h;have hb:fn.body≠none:=by intro e;rw [e] at h;cases h.2
  simp [callFunc,hf,h.1,hb]
 ·cases h
def jc4 {c:Call} {f:Operand} {g:FuncId} {first caps aS:List (AV T.U)} (hop:o.op=.call c) (hc:c.callee=.value f) (hf:aev T F f=some (.fn (.func g) first caps)) (ha:zn8 T F c.args.toList=some aS)
  (he:zl0 P g=true) (hall:(first++aS++caps).all zh1=true) (h:Sim T w0 S0 ⟨F,H⟩ F' w S φ):
  ∃vs:List Value,VRL T w S φ (first++aS++caps) vs/\(∀a∈first++aS++caps,okA H a)/\ ∀w1,(execOp (evD F') o).run P w1=.ok (.enter g vs.toArray) w1:=by
 obtain ⟨X,h1,va,vb,rfl,h3,h4⟩:=z8 h.fr hf;have h5:=yb5 h.fr ha;have hids: ∀i∈j8 (first++aS++caps),i<H.length:=by
  intro i hi;rw [yh4,yh4] at hi;have hfi:=(zb5 h hf).1;rcases X4.1 hi with hi|hi
  ·rcases X4.1 hi with hi|hi
   ·exact hfi i (by rw [AV.ids];exact X4.2 (.inl hi))
   ·exact jh4 h ha i hi
  ·exact hfi i (by rw [AV.ids];exact X4.2 (.inr hi))
 refine ⟨_,(h3.append h5).append h4,qu2 hall hids,fun w1=>?_⟩;simp [execOp,hop,resolve,hc,j6 h1,Deferred.ofValue,invoke,zy9 he]
def vo5 {R:Type} {r:R} {c:Call} {f:Operand} {g:FuncId} {first caps aS:List (AV T.U)} {cs:CallSpec T} (hd:dec ops k n F'=some o) (hop:o.op=.call c) (hc:c.callee=.value f) (hf:aev T F f=some (.fn (.func g) first caps)) (ha:zn8 T F c.args.toList=some aS)
  (he:zl0 P g=true) (hs:zc2 T P g cs) (hall:(first++aS++caps).all zh1=true) {K0 Kp:AV T.U->List (Ent T.U)->Option R} (hK0:cs.call (first++aS++caps) H K0 Kp=some r) (h:Sim T w0 S0 ⟨F,H⟩ F' w S φ)
  (K: ∀b H1,K0 b H1=some r->zp5 P ops Q (k+1) n ds w0 S0 (⟨za1 T F o.dst b,H1⟩:St T)) (Kpan: ∀b H1,Kp b H1=some r->yn5 Q n ds w0 S0 b (⟨F,H1⟩:St T)):WR P ops Q k n ds F' w:=by
 obtain ⟨vs,h1,h2,h3⟩:=jc4 hop hc hf ha he hall h;refine .enter (f:=g) (args:=vs.toArray) hd (h3 w) (hs _ H K0 Kp r hK0 w0 S0 F F' w S φ h _ h1 h2) ?_ ?_ ?_
 ·rintro v w'' ⟨a,H1,g1,S1,φ1,g2,g3,g4⟩
  exact K a H1 g1 _ _ ⟨S1,φ1,g2.slot g3 g4⟩
 ·rintro ch w'' ⟨a,H1,g1,v,rfl,S1,φ1,g2,g3,g4⟩ act hact
  exact Kpan a H1 g1 _ _ _ _ _ g2 g3 g4 act hact
 ·intro w'' hR;exact hR.elim
def jm4 (kk:IntKind) (z:Int):okA H (cI T kk z):=⟨fun i hi=>(by cases hi),trivial⟩
def ve7 {t:TypeId} {a:AV T.U} {z:Int} (hl:lenOf P t H a=some z) (h:Sim T w0 S0 ⟨F,H⟩ F' w S φ) {v:Value} (hv:VR T w S φ a v) (ty:TypeId) (w1:World):(Builtin.len_ #[t] ty #[v]).run P w1=.ok (.int .i64 z) w1:=by
 unfold lenOf at hl;split at hl
 ·rename_i e hu;split at hl
  ·rename_i m hm;simp only [X0] at hl;subst hl;have hv': ∃ad cap,v=.slice ad m cap:=by
    unfold gc8 at hm;split at hm
    ·simp only [X0] at hm;subst hm;have hv:CR T w S _ _ v:=hv;cases hv;exact ⟨_,_,rfl⟩
    ·split at hm
     ·rename_i e' t' xs hi;simp only [X0] at hm;subst hm;rw [VR] at hv;subst hv;obtain ⟨B,vals,_,q2,_⟩:=h.ents _ _ hi;rw [q2];exact ⟨_,_,rfl⟩
     ·rename_i hi;simp only [X0] at hm;subst hm;rw [VR] at hv;subst hv;obtain ⟨B,vals,_,q2,_⟩:=h.ents _ _ hi;rw [q2];exact ⟨_,_,rfl⟩
     ·cases hm
    ·simp only [X0] at hm;subst hm;obtain ⟨ad,rfl,_⟩:=hv;exact ⟨_,_,rfl⟩
    ·simp only [X0] at hm;subst hm;obtain ⟨g,ad,_,rfl,_⟩:=hv;exact ⟨_,_,rfl⟩
    ·simp only [X0] at hm;subst hm;rw [VR] at hv;subst hv;exact ⟨_,_,rfl⟩
    ·cases hm
   obtain ⟨ad,cap,rfl⟩:=hv';simp [Builtin.len_,run_underlying hu,goInt]
  ·cases hl
 ·rename_i hu;split at hl
  ·simp only [X0] at hl;subst hl;have:=zo7 hv;subst this;simp [Builtin.len_,run_underlying hu,goInt]
  ·cases hl
 ·cases hl
def vq9 {aS:List (AV T.U)} {a:AV T.U} (ha:kw8 T aS=some a) {vs:List Value} (hv:VRL T w S φ aS vs) (t:Array TypeId) (ty:TypeId): ∃v,(∀w1,(Builtin.min_ t ty vs.toArray).run P w1=.ok v w1)/\VR T w S φ a v/\okA H a:=by
 unfold kw8 at ha;split at ha
 ·simp only [X0] at ha;subst ha
  match vs,hv with
  | [v],hv=>have:=v7 hv.1;subst this;exact ⟨_,fun w1=>by simp [Builtin.min_],VR.int _ _,jm4 _ _⟩
 ·split at ha
  ·rename_i hk;have:=k9 hk;subst this;simp only [X0] at ha;subst ha
   match vs,hv with
   | [u,v],hv=>have:=v7 hv.1;subst this;have:=v7 hv.2.1;subst this;exact ⟨_,fun w1=>by simp [Builtin.min_,Builtin.min2,jp1],VR.int _ _,jm4 _ _⟩
  ·cases ha
 ·cases ha
def vq8 {aS:List (AV T.U)} {a:AV T.U} (ha:kw7 T aS=some a) {vs:List Value} (hv:VRL T w S φ aS vs) (t:Array TypeId) (ty:TypeId): ∃v,(∀w1,(Builtin.max_ t ty vs.toArray).run P w1=.ok v w1)/\VR T w S φ a v/\okA H a:=by
 unfold kw7 at ha;split at ha
 ·simp only [X0] at ha;subst ha
  match vs,hv with
  | [v],hv=>have:=v7 hv.1;subst this;exact ⟨_,fun w1=>by simp [Builtin.max_],VR.int _ _,jm4 _ _⟩
 ·split at ha
  ·rename_i hk;have:=k9 hk;subst this;simp only [X0] at ha;subst ha
   match vs,hv with
   | [u,v],hv=>have:=v7 hv.1;subst this;have:=v7 hv.2.1;subst this;exact ⟨_,fun w1=>by simp [Builtin.max_,Builtin.max2,gc4],VR.int _ _,jm4 _ _⟩
  ·cases ha
 ·cases ha
def ze4 {α:Type} {a:Array α} {x:α} (h:a.toList= [x]):a= #[x]:=by rw [<-Array.toArray_toList (xs:=a),h]
def qb3 {a b:AV T.U} {t:TypeId} {ok:Bool} (h:yt9 T P a t ok=some b): ∀i∈b.ids,i∈a.ids:=by
 unfold yt9 at h;split at h
 ·split at h
  ·cases h
  ·split at h
   ·split at h
    ·simp only [X0] at h;subst h;intro i hi;simpa [AV.ids,j8] using hi
    ·simp only [X0] at h;subst h;intro i hi;simpa [AV.ids] using hi
   ·split at h
    ·rename_i z hz;simp only [X0] at h;subst h;unfold qs1 at hz;split at hz
     ·split at hz
      ·simp only [X0] at hz;subst hz;intro i hi;simp [AV.ids,j8,jv4] at hi
      ·cases hz
     ·cases hz
    ·cases h
 ·cases h
def qb4 {a b:AV T.U} {t xt:TypeId} {ok:Bool} (h:yt9 T P a t ok=some b) {v:Value} (hv:VR T w S φ a v): ∃u,(∀w1,(Instr.typeAssert v xt t ok).run P w1=.ok u w1)/\VR T w S φ b u:=by
 unfold yt9 at h;split at h
 ·rename_i d t' x hu;obtain ⟨u,rfl,hu'⟩:=hv;split at h
  ·cases h
  ·rename_i hni;split at h
   ·rename_i hb;have:=X1 hb;subst this;split at h
    ·simp only [X0] at h;subst h;refine ⟨.tuple #[u,.bool true],fun w1=>?_,⟨_,rfl,hu',VR.bool _,trivial⟩⟩;cases d<;>first|(exact (hni _ rfl).elim)|simp [Instr.typeAssert,run_underlying hu]
    ·simp only [X0] at h;subst h;refine ⟨u,fun w1=>?_,hu'⟩;cases d<;>first|(exact (hni _ rfl).elim)|simp [Instr.typeAssert,run_underlying hu]
   ·rename_i hb;have hne:t'≠t:=by intro e;subst e;simp at hb
    split at h
    ·rename_i z hz;simp only [X0] at h;subst h;unfold qs1 at hz;split at hz
     ·rename_i i hi;split at hz
      ·rename_i zv hzv;simp only [X0] at hz;subst hz;refine ⟨.tuple #[zv,.bool false],fun w1=>?_,⟨_,rfl,jv5 T zv,VR.bool _,trivial⟩⟩;cases d<;>first|(exact (hni _ rfl).elim)|simp [Instr.typeAssert,run_underlying hu,hne,zeroValue,typeInfo,hi,hzv]
      ·cases hz
     ·cases hz
    ·cases h
 ·cases h
def CellsR.cons {c:Cell T.U} {cs:List (Cell T.U)} {vs:List Value} (h:CellsR T w S (c::cs) vs): ∃v r,vs=v::r/\yj1 T w S c v/\CellsR T w S cs r:=by
 obtain ⟨h1,h2⟩:=h;cases vs with
 |nil=>cases h1
 |cons v r=>exact ⟨v,r,rfl,h2 0 c v rfl rfl,by simpa using h1,fun j c' v' hc hv=>h2 (j+1) c' v' (by simpa using hc) (by simpa using hv)⟩
def jo0: ∀(xs:List (den T.U (.int .u8))) {vals:List Value},CellsR T w S (xs.flatMap (za3 T (.int .u8))) vals->vals=List.map (fun x:Int=>Value.int .u8 x) xs
 | [],vals,h=>by
  obtain ⟨h1,_⟩:=h;cases vals with
  |nil=>rfl
  |cons _ _=>cases h1
 |x::r,vals,h=>by
  have h:CellsR T w S (⟨.int .u8,x⟩::r.flatMap (za3 T (.int .u8))) vals:=h;obtain ⟨v,vs,rfl,h1,h2⟩:=h.cons;rw [jo0 r h2];have:=v7 (T:=T) (φ:=fun _=>⟨none,0,0,[]⟩) (v:=v) h1;rw [this];rfl
def jr6 {rd ids:List Nat} {w1:World} (h:Sim T w0 S0 ⟨F,H⟩ F' w S φ) (hc:Chg S w w1) (hsm:Same φ rd w w1) (hrd: ∀i∈ids,i∈rd):yq9 T w1 S φ H ids:=by
 intro i hi en hy hm;have hent:=h.ents i _ hy;cases en with
 |row e1 t1 ys=>
  obtain ⟨B,vals,o1,o2,o3,o4,o5⟩:=hent;refine ⟨B,vals,?_,o2,W9 o3 hc.size,o4.chg T hc (fun _ h=>h) (fun b hb=>.inl hb),o5⟩;rcases o1.cases with ⟨g1,g2,g3,g4⟩|⟨c,had,hB,hblk,hle,hmx,hsz,ht⟩
  ·rw [g1,g2,g3,g4];exact Own.nil _ _ _ _
  ·have hq:=hsm i (hrd i hi) _ had hblk.lt;have hblk':Blk w1 (bk (φ i).ad) c e1:=hq.trans hblk;rw [had];exact Own.ofBlk hblk' hB hle hmx hsz _ ht
 |blk e1 cs=>
  obtain ⟨g,c,o1,o2,o3,o4⟩:=hent;exact ⟨g,c,o1,(hsm i (hrd i hi) _ o1 o2.lt).trans o2,o3,o4.chg T hc (fun _ h=>h) (fun b hb=>.inl hb)⟩
 |map k es=>cases hm
 |tmap k t m=>cases hm
 |drow _ _ _ _ _=>cases hm
 |pmap _ _ _ _ _=>cases hm
 |hid=>cases hm
 |gone=>cases hm
def vd4 {Z:Prop} {R:Type} {r:R} {rd:List Nat} {s d e:TypeId} {x:Operand} (hop:o.op=.convert s d x) {a:AV T.U} (hx:aev T F x=some a) (hs:P.underlying s=some (.slice e)) (hdu:P.underlying d=some .string) (he:P.underlying e=some (.int .u8))
  {K0:AV T.U->Option R} (hK0:rdF T H (.list (.int .u8)) a (fun xs=>K0 (.cell ⟨.str,zs7 xs⟩))=some r) (hrd: ∀i∈a.ids,i∈rd) (h:Sim T w0 S0 ⟨F,H⟩ F' w S φ) (K: ∀a v,K0 a=some r->QR P F' o S φ rd w v->VR T w S φ a v->okA H a->Z):Z:=by
 obtain ⟨X,h1,h2⟩:=z8 h.fr hx;obtain ⟨xs,hK,hdet⟩:=jg2 (t:=.list (.int .u8)) hK0;refine K _ (.string (zs7 xs)) hK ?_ (CR.str _) (zm3 rfl (by intro _ _ _ _ e;cases e));intro w1 hc hsm;have hrows:yq9 T w1 S φ H a.ids:=jr6 h hc hsm hrd;obtain ⟨xs',hx',hv⟩:=va4 (w:=w1) (t:=.list (.int .u8)) (K:=some) (by rw [hdet]) hrows (h2.chg T hc (fun _ h=>h) fun b hb=>.inl hb) φ;have hx':xs'=xs:=X5 hx';rw [hx'] at hv;have hcr:CR T w1 [] (.list (.int .u8)) xs X:=hv;have hsl: ∃ad cap,X=.slice ad (List.length (α:=Int) xs) cap:=by
  cases hcr with
  |list _ _ ad cap u _ _ _ _ _=>exact ⟨ad,cap,rfl⟩
 obtain ⟨ad,cap,rfl⟩:=hsl;obtain ⟨_,hnil,vals,hrg,hcl⟩:=ji5 hcr;have hvals:=jo0 _ hcl;have hexec:execOp (evD F') o=(do return Next.value (<-convert s d (evD F' x))):=by
  cases o;simp only at hop;subst hop;rfl
 have hcv:(convert s d (.slice ad (List.length (α:=Int) xs) cap)).run P w1=.ok (.string (zs7 xs)) w1:=by
  rw [run_convert_bytes_string w1 s d e ad _ cap hs he hdu];cases had:ad with
  |none=>
   have:xs= []:=T4 (hnil had).1;subst this;rfl
  |some a0=>
   subst had;have hcells:=run_loadCells_list (P:=P) (w:=w1) a0 vals (fun j v hj=>by
    have:=(hrg j v hj).2;by_cases hne:xs= []
    ·subst hne;rw [hvals] at hj;cases hj
    ·cases hcr with
     |list _ _ _ _ u hcap hnil' had' _ _=>
      obtain ⟨e1,_,_⟩:=had' hne;simp only [X0] at e1;rw [e1,Addr.add];split
      ·rename_i h0;simpa [h0] using this
      ·simpa using this)
   have hl:vals.length=List.length (α:=Int) xs:=by rw [hvals];exact U7 ..
   rw [hl,hvals] at hcells;exact run_bytesToString w1 a0 _ cap xs hcells
 rw [hexec,j6 h1];show ((convert s d (.slice ad (List.length (α:=Int) xs) cap)) >>= fun y=>pure (Next.value y)).run P w1=_;rw [Sem.run_bind,hcv];rfl
def vo4 {g:Nat} {e:TypeId} {fz:Nat×Nat} {b:ByteArray} {cap:Nat} (hb:w.heap[g]?=some (.cells (bytesRow b cap) e fz)) (hge:b.size<=cap) (hg:g∉S):CR T w S (.list (.int .u8)) (zt4 b) (.slice (some ⟨g,0,none⟩) b.size cap):=by
 have hl:List.length (α:=den T.U (.int .u8)) (zt4 b)=b.size:=by
  exact jt7 b
 have hlt:=(Y3.1 hb).1;have hone: ∀(k j:Nat) (c:Cell T.U),((zt4 b:List (den T.U (.int .u8)))[k]?.map fun x=>(za3 T (.int .u8) x)[j]?)=some (some c)-> ∃y:UInt8,b.data[k]?=some y/\j=0/\c=⟨.int .u8,(y.toNat:Int)⟩:=by
  intro k j c h;have h:((b.data.toList.map fun b=>(b.toNat:Int))[k]?.map fun x=>([⟨.int .u8,x⟩]:List (Cell T.U))[j]?)=some (some c):=h;rw [W4,Array.getElem?_toList] at h;cases hk:b.data[k]? with
  |none=>rw [hk] at h;cases h
  |some y=>
   rw [hk] at h;have h:([⟨.int .u8,(y.toNat:Int)⟩]:List (Cell T.U))[j]?=some c:=X5 h;cases j with
   |zero=>exact ⟨y,rfl,rfl,(X5 h).symm⟩
   |succ j=>cases h
 have key:=CR.list (T:=T) (w:=w) (S:=S) (.int .u8) (zt4 b) (some ⟨g,0,none⟩) cap (fun k _=>.int .u8 (((b.data[k]?).getD 0).toNat:Int)) (by rw [hl];exact hge) (fun h=>by cases h) (fun _=>⟨rfl,hlt,hg⟩)
  (fun k j c h=>by
   obtain ⟨y,h1,h2,_⟩:=hone k j c h;subst h2;have hk:=(Y3.1 h1).1;show w.cell? ⟨g,0+(k*1+0),none⟩=_;have e1:0+(k*1+0)=k:=by omega
   rw [e1];unfold World.cell?;simp only [hb];show (bytesRow b cap)[k]?=_;unfold bytesRow;rw [Array.getElem?_append_left (by rw [Array.size_map];exact hk),Array.getElem?_map,h1];rfl)
  (fun k j c h=>by
   obtain ⟨y,h1,h2,rfl⟩:=hone k j c h;show CR T w S (.int .u8) (y.toNat:Int) (.int .u8 (((b.data[k]?).getD 0).toNat:Int));rw [h1];exact .int _ _)
 rwa [hl] at key
def CR.same (hs:w.heap.size<=w'.heap.size) (hc: ∀(a:Addr) (v:Value),w.cell? a=some v->w'.cell? a=some v) {t:Ty} {x:den T.U t} {v:Value} (h:CR T w S t x v):CR T w' S t x v:=by
 induction h with
 |int k x=>exact .int k x
 |bool b=>exact .bool b
 |str s=>exact .str s
 |nl e xs ad cap _ hn ih=>exact .nl e xs ad cap ih hn
 |list e xs ad cap u hcap hnil had hcell hrel ih=>
  refine .list e xs ad cap u hcap hnil (fun hx=>?_) (fun k j c hk=>hc _ _ (hcell k j c hk)) ih;obtain ⟨h1,h2,h3⟩:=had hx;exact ⟨h1,V3 h2 hs,h3⟩
def Sim.less (h:Sim T w0 S0 ⟨F,H⟩ F' w S φ) {g:Nat} (hfree: ∀(j:Nat) (e:Ent T.U),H[j]?=some e->e.live=true-> ∀a,At (φ j) a->a.block≠g) (hg:g∈S0.chg\/w0.heap.size<=g):Sim T w0 S0 ⟨F,H⟩ F' w (S.filter fun b=> !Nat.beq b g) φ:=by
 have hsub: ∀b∈S.filter (fun b=> !Nat.beq b g),b∈S:=fun b hb=>(W3.1 hb).1;have hin: ∀ {b:Nat},b∈S->b≠g->b∈S.filter fun b=> !Nat.beq b g:=fun hb hne=>W3.2 ⟨hb,by cases hq:Nat.beq _ g with|true=>exact absurd (X1 hq) hne|false=>rfl⟩;refine ⟨fun j a ha=>?_,h.ids,h.chg,fun b hb=>h.own b (hsub b hb),fun b hb q1 q2=>hin (h.ex b hb q1 q2) (fun e=>?_),fun j f hf hl a ha=>⟨hin (h.lives j f hf hl a ha).1 (hfree j f hf hl a ha),(h.lives j f hf hl a ha).2⟩,h.pins,fun j f hf=>?_,h.eids,h.apart⟩
 ·obtain ⟨v,h1,h2⟩:=h.fr j a ha;exact ⟨v,h1,h2.chg T (Chg.refl [] w) (by simp) fun b hb=>.inl (hsub b hb)⟩
 ·subst e;rcases hg with hg|hg
  ·exact q1 hg
  ·omega
 ·exact (h.ents j f hf).chg T (Chg.refl [] w) (by simp) (fun b hb=>.inl (hsub b hb)) fun hl a ha=>⟨by simp,hin (zd5 h hf hl ha) (hfree j f hf hl a ha)⟩
def qb8 (w:World) (a:Addr) (n:Nat) (b:Addr):(w.freeze a n).cell? b=w.cell? b:=by
 unfold World.freeze;split
 ·rfl
 ·unfold World.cell?;simp only [Array.getElem?_modify];by_cases he:a.block=b.block
  ·rw [if_pos he];cases hq:w.heap[b.block]? with
   |none=>rfl
   |some q=>cases q<;>rfl
  ·rw [if_neg he]
def qn4 (w:World) (g k n:Nat):Chg [g] w (w.freeze ⟨g,k,none⟩ n):=by
 unfold World.freeze;split
 ·exact Chg.refl [g] w
 ·refine ⟨rfl,rfl,rfl,by simp,fun j hj hm=>?_⟩;simp only [Q5] at hm;show (w.heap.modify g _)[j]?=_;rw [Array.getElem?_modify,if_neg (Ne.symm hm)]
def vd3 {s e:TypeId} {x:Operand} (hd:dec ops k n F'=some o) (hop:o.op=.convert s s x) {i:Nat} (hx:aev T F x=some (.own i)) (hs:P.underlying s=some (.slice e)) (he:P.underlying e=some (.int .u8)) {et:TypeId} {xs:List (den T.U (.int .u8))} (hi:H[i]?=some (.row et (.int .u8) xs)) (hne:xs≠ [])
  (h:Sim T w0 S0 ⟨F,H⟩ F' w S φ) (K:zp5 P ops Q (k+1) n ds w0 S0 (⟨za1 T F o.dst (.cell ⟨.list (.int .u8),xs⟩),H.set i .gone⟩:St T)):WR P ops Q k n ds F' w:=by
 obtain ⟨X,h1,h2⟩:=z8 h.fr hx;rw [VR] at h2;subst h2;have hent:=h.ents i _ hi;obtain ⟨B,vals,q1,q2,q3,q4,q5⟩:=id hent;have hg: ∃g,(φ i).ad=some ⟨g,0,none⟩:=by
  rcases q1.cases with ⟨_,hn,_⟩|⟨c,had,_⟩
  ·rw [q2] at hn;exact absurd (T4 hn) hne
  ·exact ⟨_,had⟩
 obtain ⟨g,had⟩:=hg;have hu1: ∀w,(underlying s).run P w=.ok (.slice e) w:=run_underlying hs;have hu2: ∀w,(underlying e).run P w=.ok (.int .u8) w:=run_underlying he;have hrun: ∃w',(convert s s (.slice (φ i).ad (φ i).n (φ i).cap)).run P w=.ok (.slice (φ i).ad (φ i).n (φ i).cap) w'/\Chg [g] w w'/\ ∀b,w'.cell? b=w.cell? b:=by
  rw [had];cases hsh:w.shape? g with
  |none=>exact ⟨w,by simp [convert,hu1,hu2,markStringish,hsh,Result.andThen],Chg.refl [g] w,fun _=>rfl⟩
  |some q=>exact ⟨w.freeze ⟨g,q.2,none⟩ 1,by simp [convert,hu1,hu2,markStringish,hsh,Result.andThen],qn4 w g _ 1,qb8 w _ 1⟩
 obtain ⟨w',hr,hc,hcell⟩:=hrun;have h3:=h.upd (w':=w') (i:=i) (e:=.gone) hi rfl (Tc:= [g]) hc (fun b hb=>⟨_,.inl had,by simp at hb;exact hb.symm⟩) trivial (fun j hj=>by cases hj) (by intro _ _ _ h;cases h);have hgone: ∀(j:Nat) (e:Ent T.U),(H.set i .gone)[j]?=some e->e.live=true->j≠i/\H[j]?=some e:=by
  intro j e he hl;by_cases hji:j=i
  ·subst hji;have hlt:=(X2.1 he).1;rw [Q0 (by simpa using hlt)] at he;simp only [X0] at he;subst he;cases hl
  ·rw [Z5 (Ne.symm hji)] at he;exact ⟨hji,he⟩
 have h4:=h3.less (g:=g) (fun j f hf hl a ha he=>by
  obtain ⟨hji,hf⟩:=hgone j f hf hl;exact h.apart j i f _ hf hi hl rfl hji a _ ha (.inl had) he) (h.lives i _ hi rfl _ (.inl had)).2
 have hcr:CR T w (S.filter fun b=> !Nat.beq b g) (.list (.int .u8)) xs (.slice (φ i).ad (φ i).n (φ i).cap):=jm0 hent (fun b hb=>(W3.1 hb).1) (fun a ha hm=>by
  rw [had] at ha;simp only [X0] at ha;subst ha;have:=(W3.1 hm).2;simp [J7] at this)
 refine WR.val (v:=.slice (φ i).ad (φ i).n (φ i).cap) hd ?_ (K _ _ ⟨_,φ,h4.slot (a:=.cell ⟨.list (.int .u8),xs⟩) (hcr.same hc.size fun a v hv=>(hcell a).trans hv) (zm3 rfl (by intro _ _ _ _ e;cases e))⟩);cases o;simp only at hop;subst hop;show ((convert s s (evD F' x)) >>= fun y=>pure (Next.value y)).run P w=_;rw [j6 h1,Sem.run_bind,hr];rfl
def qm9 {s d e:TypeId} {x:Operand} (hd:dec ops k n F'=some o) (hop:o.op=.convert s d x) {b:ByteArray} (hx:aev T F x=some (.cell ⟨.str,b⟩)) (hs:P.underlying s=some .string) (hdu:P.underlying d=some (.slice e)) (he:P.underlying e=some (.int .u8))
  (h:Sim T w0 S0 ⟨F,H⟩ F' w S φ) (K:zp5 P ops Q (k+1) n ds w0 S0 (⟨za1 T F o.dst (.cell ⟨.list (.int .u8),zt4 b⟩),H⟩:St T)):WR P ops Q k n ds F' w:=by
 obtain ⟨X,h1,h2⟩:=z8 h.fr hx;have h2:CR T w S .str b X:=h2;cases h2;have hr:=run_bytes_of_string (P:=P) w s d e b hs hdu he;generalize hcap:grownCap w b.size 0 e=cap at hr;have hge:b.size<=cap:=by rw [<-hcap];exact grownCap_ge w b.size 0 e
 have hc:Chg [] w (w.drew.alloc (.cells (bytesRow b cap) e ((bytesRow b cap).size,(bytesRow b cap).size+1))):=(Chg.drew w).pure (Chg.alloc _ _);refine WR.val (v:=.slice (some ⟨w.heap.size,0,none⟩) b.size cap) hd ?_ (K _ _ ⟨S,φ,(h.pure hc).slot (a:=.cell ⟨.list (.int .u8),zt4 b⟩) (vo4 (heap_alloc_new w.drew _) hge fun hm=>Nat.lt_irrefl _ (h.own _ hm).2) (zm3 rfl (by intro _ _ _ _ e;cases e))⟩);cases o;simp only at hop;subst hop;show ((convert s d (evD F' x)) >>= fun y=>pure (Next.value y)).run P w=_;rw [j6 h1,Sem.run_bind,hr];rfl
def qm4 {t:TypeId} {len:Nat} {ps:Array (Nat×Operand)} (hd:dec ops k n F'=some o) (hop:o.op=.buildSlice t len ps) {l:List (Nat×AV T.U)} (hl:zu0 T F ps.toList=some l) {e:TypeId} {sz:Nat} {cs:List (AV T.U)} (hb:jk1 T P t len l=some (e,sz,cs))
  (h:Sim T w0 S0 ⟨F,H⟩ F' w S φ) (K:zp5 P ops Q (k+1) n ds w0 S0 (⟨za1 T F o.dst (.sl H.length sz 0 len),H++ [.blk e cs]⟩:St T)):WR P ops Q k n ds F' w:=by
 unfold jk1 at hb;split at hb
 ·rename_i et s1 by_ zc he;split at hb
  ·rename_i hok;simp only [X3] at hok;have hs1:=Y1 hok.1;have h16:=Y1 hok.2;split at hb
   ·rename_i cs1 hcs;split at hb
    case h_2=>cases hb
    rename_i hna;simp only [X0,X7] at hb;obtain ⟨rfl,rfl,rfl⟩:=hb;obtain ⟨i,zv,hu,hin,hzv,hsi,_,hzc,hzl⟩:=zb4 he;subst hzc;obtain ⟨e1,e2⟩:=zx1 h.fr hl;have hz0:VRL T w S φ ((List.range (len*s1)).map fun j=>yo6 T (zv.cells[j%s1]!)) ((Array.range (len*i.size)).map (zv.cells[· %zv.cells.size]!)).toList:=by
     rw [hsi,hzl,M6,T5];generalize List.range (len*s1)=rr;induction rr with
     |nil=>trivial
     |cons a r ih=>exact ⟨yi3 T _,ih⟩
    obtain ⟨c',g1,g2⟩:=ya3 hz0 e1 e2 hcs;have hbs:zv9 P t len (ps.toList.map fun p=>(p.1,evD F' p.2))=some (et,c'):=by
     unfold zv9;rw [hu];simp only [hin];rw [hsi,W5 h16];simp only;rw [hsi] at g1;have hfin:Instr.fill (fun j=>some (j*s1,s1)) ((Array.range (len*s1)).map (zv.cells[· %zv.cells.size]!)) (ps.toList.map fun p=>(p.1,evD F' p.2))=some c':=g1;cases hz:Nat.beq (len*s1) 0 with
     |true=>
      have:=X1 hz;simp only;rw [this] at hfin⊢;have hr0:Array.range 0= #[]:=rfl;rw [hr0] at hfin⊢;have em: ∀f:Nat->Value,Array.map f #[]= #[]:=fun f=>by simp
      rw [em] at hfin⊢;rw [hfin]
     |false=>simp only [hzv,hfin]
    have hpi: ∀i∈j8 cs1,i<H.length:=yj7 hcs (fun i hi=>by
     obtain ⟨a,ha,hia⟩:=zq0 hi;obtain ⟨j,_,rfl⟩:=U3.1 ha;rw [ys2] at hia;cases hia) (yo8 h hl)
    refine WR.bslice c' (jh6 hd hop hbs) fun g w' hN=>?_;have hS: ∀b∈g::S,b∈S\/w.heap.size<=b:=by
     intro b hb;rcases Z0.1 hb with rfl|hb
     ·exact .inr hN.fresh
     ·exact .inl hb
    have hadd:=h.add (r:=⟨some ⟨g,0,none⟩,len,len,[]⟩) hN.chg hN.fresh hN.blk.lt (fun a ha=>zv3 ha) (e:=.blk et cs1)
     ⟨g,c',by rw [j5],hN.blk,by simp,BR.of T ((g2.chg T hN.chg (by simp) hS).phi fun i hi=>zb8 (by have:=hpi i hi;omega)) hna⟩ (by intro j hj;have:=hpi j hj;omega)
    refine K _ _ ⟨_,_,hadd.slot (a:=.sl H.length s1 0 len) ?_ ⟨by intro i hi;simp [AV.ids] at hi;subst hi;simp,trivial⟩⟩;rw [VR,j5];exact ⟨some ⟨g,0,none⟩,rfl,by simp,.inr ⟨g,rfl,by simp⟩,fun h=>(by cases h),fun _=>rfl⟩
   ·cases hb
  ·cases hb
 ·cases hb
def yv4 {v:Value} (hd:dec ops k n F'=some o) (hr:(execOp (evD F') o).run P w=.ok (.value v) w') (K:WR P ops Q (k+1) n ds (upd F' o.dst v) w'):WR P ops Q k n ds F' w:=WR.val hd hr K
def kq3 {t:TypeId} {a:AV T.U} {z:Int} (hl:kw3 P t H a=some z) (h:Sim T w0 S0 ⟨F,H⟩ F' w S φ) {v:Value} (hv:VR T w S φ a v) (ty:TypeId) {w1:World} (hsm:Same φ (jz3 [a]) w w1):(Builtin.len_ #[t] ty #[v]).run P w1=.ok (.int .i64 z) w1:=by
 unfold kw3 at hl;split at hl<;>try (cases hl;done)
 rename_i kt et hu;split at hl<;>try (cases hl;done)
 rename_i i;split at hl<;>try (cases hl;done)
 rename_i kd ty es hi;simp only [X0] at hl;subst hl;obtain ⟨g,hg,rfl⟩:=hv;obtain ⟨g',l,cl,a1,a2,a3,a4,a5⟩:=h.ents i _ hi;rw [hg] at a1;simp only [X0,Addr.mk.injEq,and_true] at a1;subst a1;have hm1:w1.heap[g]?=some (.map l cl):=(hsm i (by simp [jz3]) _ hg a2.lt).trans a2;have hlen: ∀ {es:List (Int×den T.U ty)} {l:List MapEntry},TR T w S kd ty es l->es.length=l.length:=by
  intro es;induction es with
  |nil=>intro l h;cases l with|nil=>rfl|cons _ _=>exact h.elim
  |cons p r ih=>intro l h;obtain ⟨x,a⟩:=p;cases l with|nil=>exact h.elim|cons e s=>simp [ih h.2.2]
 have:=hlen a4;simp [Builtin.len_,run_underlying hu,MapKept.run_getObj_map hm1,Result.andThen,this,goInt]
def vd6 {m:AV T.U} {xm xk:Operand} {t:TypeId} {at2:List TypeId} {kx:IntKind} {x:Int} {c:Call} (hd:dec ops k n F'=some o) (hop:o.op=.call c) (hc:c.callee=.builtin .delete) (ha:c.args.toList= [xm,xk]) (hat:c.argTypes.toList=t::at2) (hm:aev T F xm=some m) (hk:aev T F xk=some (cI T kx x))
  {H1:List (Ent T.U)} (hi:kd9 T P t H m kx x=some H1) (h:Sim T w0 S0 ⟨F,H⟩ F' w S φ) (K:zp5 P ops Q (k+1) n ds w0 S0 (⟨za1 T F o.dst (.tup []),H1⟩:St T)):WR P ops Q k n ds F' w:=by
 obtain ⟨M,h1,h2⟩:=z8 h.fr hm;obtain ⟨X,h3,h4⟩:=z8 h.fr hk;have e:=v7 h4;subst e;unfold kd9 at hi;split at hi<;>try (cases hi;done)
 rename_i i kd kt et hmk;have hargs:c.args= #[xm,xk]:=by rw [<-Array.toArray_toList (xs:=c.args),ha]
 have hatt:c.argTypes=(t::at2).toArray:=by rw [<-hat]
 split at hi<;>try (cases hi;done)
 ·rename_i kd' es hHi;split at hi<;>try (cases hi;done)
  rename_i hb;rw [X3] at hb;have b1:=k9 hb.1;have b2:=k9 hb.2;subst b1;subst b2;simp only [X0] at hi;subst hi;obtain ⟨g,hg,rfl⟩:=h2;obtain ⟨g',l,cl,a1,a2,a3,a4,a5⟩:=h.ents i _ hHi;rw [hg] at a1;simp only [X0,Addr.mk.injEq,and_true] at a1;subst a1;obtain ⟨w',hr,hs⟩:=kf5 (x:=x) (ty':=o.type) (at2:=at2) hmk h hHi hg a2 a3 a4 a5;refine yv4 (v:=.tuple #[]) hd (w':=w') ?_ (K _ _ ⟨S,φ,hs.slot (a:=.tup []) ⟨#[],rfl,trivial⟩ ⟨fun i hi=>(by cases hi),trivial⟩⟩);rw [<-hatt] at hr;cases o;simp only at hop hr;subst hop;simp [execOp,resolve,hc,invoke,builtin,hargs,j6 h1,j6 h3,hr]
 ·rename_i kd' ty es hHi;split at hi<;>try (cases hi;done)
  rename_i hb;rw [X3] at hb;have b1:=k9 hb.1;have b2:=k9 hb.2;subst b1;subst b2;simp only [X0] at hi;subst hi;obtain ⟨g,hg,rfl⟩:=h2;obtain ⟨g',l,cl,a1,a2,a3,a4,a5⟩:=h.ents i _ hHi;rw [hg] at a1;simp only [X0,Addr.mk.injEq,and_true] at a1;subst a1;obtain ⟨w',hr,hs⟩:=vv2 (x:=x) (ty':=o.type) (at2:=at2) hmk h hHi hg a2 a3 a4 a5;refine yv4 (v:=.tuple #[]) hd (w':=w') ?_ (K _ _ ⟨S,φ,hs.slot (a:=.tup []) ⟨#[],rfl,trivial⟩ ⟨fun i hi=>(by cases hi),trivial⟩⟩);rw [<-hatt] at hr;cases o;simp only at hop hr;subst hop;simp [execOp,resolve,hc,invoke,builtin,hargs,j6 h1,j6 h3,hr]
def vo7 {R:Type} {r:R} {x:Operand} {t:TypeId} {c:Call} (hd:dec ops k n F'=some o) (hop:o.op=.call c) (hc:c.callee=.builtin .clear) (ha:c.args.toList= [x]) (hat:c.argTypes.toList= [t]) {s:AV T.U} (hx:aev T F x=some s)
  {K0:AV T.U->List (Ent T.U)->Option R} (hK0:yl9 T P t H s K0=some r) (h:Sim T w0 S0 ⟨F,H⟩ F' w S φ) (K: ∀b H1,K0 b H1=some r->zp5 P ops Q (k+1) n ds w0 S0 (⟨za1 T F o.dst b,H1⟩:St T)):WR P ops Q k n ds F' w:=by
 obtain ⟨X,h1,h2⟩:=z8 h.fr hx;unfold yl9 at hK0;split at hK0<;>try (cases hK0;done)
 ·rename_i i;split at hK0<;>try (cases hK0;done)
  rename_i kd ty es kt et hi hu;obtain ⟨g,hg,rfl⟩:=h2;obtain ⟨g',l,cl,a1,a2,a3,a4,a5⟩:=h.ents i _ hi;rw [hg] at a1;simp only [X0,Addr.mk.injEq,and_true] at a1;subst a1;have hb:w.heap[g]?=some (.map l cl):=a2;have hargs:c.args= #[x]:=ze4 ha;have hatt:c.argTypes= #[t]:=ze4 hat;refine yv4 (v:=.tuple #[]) hd (w':= {w with heap:=w.heap.setIfInBounds g (.map #[] cl)}) ?_ (K _ _ hK0 _ _ ⟨S,φ,(yi7 (l':= #[]) (c':=cl) (es':= []) h hi hg a2 a3 (by simp only [TR]) (MapKept.stamped_empty cl)).slot (a:=.tup []) ⟨#[],rfl,trivial⟩ ⟨fun i hi=>(by cases hi),trivial⟩⟩);cases o;simp only at hop;subst hop;simp [execOp,resolve,hc,invoke,builtin,hargs,hatt,j6 h1,Builtin.clear_,run_underlying hu,MapKept.run_getObj_map hb,MapKept.run_setObj_map _ hb,Result.andThen]
 rename_i i sz o1 m;split at hK0<;>try (cases hK0;done)
 rename_i e ty xs hi;split at hK0<;>try (cases hK0;done)
 rename_i et s1 by_ zc he;split at hK0<;>try (cases hK0;done)
 rename_i z hsz hz;simp only [X3] at hsz;have:=X1 hsz.1;subst this;have:=X1 hsz.2;subst this;split at hK0<;>try (cases hK0;done)
 rename_i x0 hx0;obtain ⟨hle,hK⟩:=q7 hK0;obtain ⟨ii,zv,hu,hin,hzv,hsi,_,hzc,hzl⟩:=zb4 he;subst hzc;obtain ⟨ad,rfl,hcap,hn,hnil,_⟩:=h2;have hargs:c.args= #[x]:=ze4 ha;have hatt:c.argTypes= #[t]:=ze4 hat;have hval: ∀w',(Builtin.clear_ #[t] o.type #[Value.slice ad m ((φ i).cap-o1)]).run P w=.ok (.tuple #[]) w'->(execOp (evD F') o).run P w=.ok (.value (.tuple #[])) w':=by
  intro w' hr;have:execOp (evD F') o=(do return Next.value (<-Builtin.clear_ #[t] o.type #[Value.slice ad m ((φ i).cap-o1)])):=by
   cases o;simp only at hop;subst hop;simp only [execOp,resolve,hc,invoke,builtin,hargs,hatt,Array.map_singleton,j6 h1]<;>rfl
  rw [this];simp only [Sem.run_bind,hr,Result.andThen_ok];rfl
 have hi':H[i]?=some (.row e ty xs):=hi;by_cases hm:m=0
 ·subst hm;have hsame:H.set i (.row e ty (xs.take o1++(List.replicate 0 x0++xs.drop (o1+0))))=H:=by
   rw [List.replicate_zero,M9,J8,Q8];obtain ⟨hlt,hg⟩:=X2.1 hi';rw [<-hg,T3]
  rw [hsame] at hK;have hrun:(Builtin.clear_ #[t] o.type #[Value.slice ad 0 ((φ i).cap-o1)]).run P w=.ok (.tuple #[]) w:=by
   unfold Builtin.clear_;cases ad<;>simp [run_underlying hu,Sem.run_bind,Sem.run_pure,Result.andThen_ok]
  exact jm3 hd (hval w hrun) h (a:=.tup []) ⟨#[],rfl,trivial⟩ ⟨fun i hi=>(by cases hi),trivial⟩ (K _ _ hK)
 ·rcases hn with hn|⟨g,hg1,hg2⟩
  ·exact absurd hn hm
  ·subst hg2;obtain ⟨g',carr,B,vals,a1,a2,a3,a4,a5,a6,a7,a8,a9,a10,a11,a12⟩:=jb4 h hi (by omega);rw [hg1] at a1;simp only [X0,Addr.mk.injEq,and_true] at a1;subst a1;have hzlen:(Builtin.zeroCells zv.cells m).toList.length=m*szT T ty:=by simp [Builtin.zeroCells,hzl]
   have hmul:(o1+m)*szT T ty<=xs.length*szT T ty:=Q9 _ hle;have hmul2:xs.length*szT T ty<=(φ i).cap*szT T ty:=Q9 _ a11;rw [V6] at hmul;have hz1:CellsR T w S (za3 T ty x0) zv.cells.toList:=by rw [zm8 T hx0];exact yc9 hz
   have hzc:CellsR T w S ((List.replicate m x0).flatMap (za3 T ty)) (Builtin.zeroCells zv.cells m).toList:=by
    refine ⟨by rw [u9 (v8 T ty),Z9,hzlen],fun j c v h1 h2=>?_⟩;have hj:=(X2.1 h1).1;rw [u9 (v8 T ty),Z9] at hj;rw [zu7 (v8 T ty x0) _ _ hj] at h1;refine hz1.2 _ c v h1 ?_;have hpos:0<szT T ty:=by
     rcases M7 (szT T ty) with h0|h0
     ·rw [h0] at hj;omega
     ·exact h0
    rw [<-hzl] at hpos;unfold Builtin.zeroCells at h2;simp only [M6,T5,W4] at h2;rw [hzl,List.getElem?_range hj] at h2;simp only [Z8,X0] at h2;subst h2;rw [<-hzl,Array.getElem?_toList,Z6 (Nat.mod_lt _ hpos)];congr 1;rw [getElem!_pos zv.cells _ (Nat.mod_lt _ hpos)]
   have hone: ∀v∈(Builtin.zeroCells zv.cells m).toList,v.oneCell'=true:=hzc.one;obtain ⟨w',r1,r2,r3⟩:=zi3 P e g (Builtin.zeroCells zv.cells m).toList (0+o1*szT T ty) 0 carr w a4 (by rw [hzlen];omega) hone;have hrun:(Builtin.clear_ #[t] o.type #[Value.slice (some ⟨g,0+o1*szT T ty,none⟩) m ((φ i).cap-o1)]).run P w=.ok (.tuple #[]) w':=by
    unfold Builtin.clear_;cases m with
    |zero=>exact absurd rfl hm
    |succ m=>
     have hzr:(zeroValue et).run P w=.ok zv w:=by simp [zeroValue,typeInfo,hin,hzv,Sem.run_bind,Sem.run_pure,Result.andThen_ok]
     have r1':=r1;rw [U0] at r1';simp [run_underlying hu,Sem.run_bind,Sem.run_pure,Result.andThen_ok,hzr,r1']
   refine yv4 hd (hval w' hrun) ?_;refine K _ _ hK _ _ ⟨S,φ,(h.upd (e:=.row e ty (xs.take o1++(List.replicate m x0++xs.drop (o1+m)))) hi rfl r3 (fun b hb=>?_) ⟨B,(zz4 carr (0+o1*szT T ty+0) (Builtin.zeroCells zv.cells m).toList).toList.take (xs.length*szT T ty),?_,?_,W9 a10 r3.size,?_,?_⟩ ?_ ?_).slot (a:=.tup []) ⟨#[],rfl,trivial⟩ ⟨fun i hi=>(by cases hi),trivial⟩⟩
   ·simp at hb;subst hb;exact ⟨_,.inl hg1,rfl⟩
   ·rw [hg1,a2];exact Own.ofBlk r2 a9 a11 (by have:=a12;unfold maxLen at this;omega) (by rw [yk9];exact a5) _ rfl
   ·rw [a2];simp;omega
   ·have hxs:xs=xs.take o1++((xs.drop o1).take m++xs.drop (o1+m)):=by
     rw [<-List.drop_drop,Q8,Q8]
    have hnew:(xs.take o1++(List.replicate m x0++xs.drop (o1+m))).flatMap (za3 T ty)=zi7 (xs.flatMap (za3 T ty)) (o1*szT T ty) ((List.replicate m x0).flatMap (za3 T ty)):=by
     conv=>rhs;rw [hxs]
     have hp:=yi4 ((List.replicate m x0).flatMap (za3 T ty)) ((xs.take o1).flatMap (za3 T ty)) (((xs.drop o1).take m).flatMap (za3 T ty)) ((xs.drop (o1+m)).flatMap (za3 T ty)) 0
      (by rw [u9 (v8 T ty),u9 (v8 T ty),Z9,Y6,Q7,V7 (by omega),U0];exact W8 _)
     rw [u9 (v8 T ty),Y6,V7 (by omega),J8] at hp;rw [J2,J2,J2,J2,<-List.append_assoc ((xs.take o1).flatMap (za3 T ty)) (((xs.drop o1).take m).flatMap (za3 T ty)),hp,Q2];congr 2;have hl2:((xs.drop o1).take m).length=m:=by rw [Y6,Q7];omega
     have: ∀(l cs:List (Cell T.U)),l.length=cs.length->zi7 cs 0 l=l:=by
      have gen: ∀(l pre cs:List (Cell T.U)),l.length=cs.length->zi7 (pre++cs) pre.length l=pre++l:=by
       intro l;induction l with
       |nil=>intro pre cs h;cases cs with|nil=>rfl|cons _ _=>simp at h
       |cons a r ih=>
        intro pre cs h;cases cs with
        |nil=>simp at h
        |cons b q=>
         rw [zi7,List.set_append_right _ _ (W8 _),N3,List.set_cons_zero];have:=ih (pre++ [a]) q (by simpa using h);simpa using this
      intro l cs h;simpa using gen l [] cs h
     rw [this _ _ (by rw [u9 (v8 T ty),u9 (v8 T ty),Z9,hl2])]
    rw [hnew,ya9,yk8,J8,U0,a6];exact (CellsR.put hzc a7).chg T r3 (by intro b hb;simp at hb;subst hb;exact a8) (fun b hb=>.inl hb)
   ·intro a ha;rw [hg1] at ha;simp only [X0] at ha;subst ha;exact a8
   ·intro q hq;cases hq
   ·intro e1 t1 zs he;simp only [Ent.row.injEq] at he;obtain ⟨rfl,rfl,hh⟩:=he;have:=eq_of_heq hh;subst this;exact ⟨e,xs,rfl,by simp;omega⟩
end
end Go.X
namespace Go.X
open Go.RowKit Go.V
section
variable {T:Tab} {P:Program} {C:Ctx T} {w w':World} {S S':List Nat} {φ φ':Nat->RA} {w0:World} {S0:Ow} {F:AF T} {H:List (Ent T.U)} {F':PF}
variable {ops:Array Oper} {Q:Exit->Act->World->Prop} {k n:Nat} {ds:List Deferred} {o:Oper}
def zo6 {F:AF T}: ∀ {l:List Operand} {aS:List (AV T.U)},zn8 T F l=some aS->l.length=aS.length
 | [],aS,h=>by simp only [zn8,X0] at h;subst h;rfl
 |x::r,aS,h=>by
  unfold zn8 at h;split at h
  ·rename_i a l ha hl;simp only [X0] at h;subst h;simp [zo6 hl]
  ·cases h
def ki4 {Z:Prop} {R:Type} {r:R} (hd:dec ops k n F'=some o) {K0:AV T.U->Option R} (hs:zq9 P o ⟨F,H⟩ K0=some r) (h:Sim T w0 S0 ⟨F,H⟩ F' w S φ)
  (K: ∀a v,K0 a=some r->QR P F' o S φ (qq3 o F) w v->VR T w S φ a v->okA H a->Z):Z:=by
 unfold zq9 at hs;simp only at hs;split at hs
 ·rename_i a ha;split at hs
  ·rename_i hm;obtain ⟨v,h1,h2⟩:=vh1 (P:=P) ha h.fr o rfl;exact K _ v hs (fun w1 _ _=>h1 w1) h2 (vs4 h ha hm)
  ·cases hs
 ·split at hs
  ·rename_i hop;split at hs
   ·rename_i hc hx hy;exact kq9 hd hop hc hx hy hs h K
   ·cases hs
  ·rename_i hop;split at hs
   ·rename_i hx hy;exact kx8 hd hop hx hy hs h K
   ·cases hs
  ·rename_i hop;split at hs
   ·rename_i p hx;split at hs
    ·rename_i a hl;exact vx3 hd hop hx hl h (fun i hi=>by unfold qq3;rw [hop];simp only [hx];exact hi) fun v=>K _ v hs
    ·cases hs
   ·cases hs
  ·rename_i hop;split at hs
   ·rename_i hs1 hd1 ha;split at hs
    ·rename_i he;exact vd4 hop ha hs1 hd1 he hs (fun i hi=>by simp only [qq3,hop,ha];exact hi) h K
    ·cases hs
   ·cases hs
  ·rename_i t0 x0 y0 hop;split at hs
   ·rename_i s0 j0 hu hx hy;unfold qa8 at hs;split at hs
    ·rename_i b hb;obtain ⟨X,h1,h2⟩:=z8 h.fr hx;obtain ⟨Y,h3,h4⟩:=z8 h.fr hy;have e1:=zo7 h2;have e2:=v7 h4;subst e1;subst e2;refine K _ (.int .u8 b.toNat) hs (fun w1 _ _=>?_) (VR.int _ _) (jm4 _ _);simp only [execOp,hop,j6 h1,j6 h3,Instr.index,asIntOf,Sem.run_bind,Sem.run_pure,Result.andThen_ok,run_underlying hu];rw [hb];rfl
    ·cases hs
   ·cases hs
  ·rename_i hop;split at hs
   ·rename_i hx hy;exact ke7 hd hop hx hy hs h K
   ·cases hs
  ·rename_i hop;split at hs
   ·rename_i hx hlo hhi;split at hs
    ·cases hs
    ·rename_i hne;refine ki8 hd hop hx hlo hhi ?_ hs h K
     grind
   ·cases hs
  ·rename_i x0 xt0 at0 ok0 hop;split at hs
   ·rename_i a hx;split at hs
    ·rename_i b hb;split at hs
     ·rename_i hne;obtain ⟨v,h1,h2⟩:=z8 h.fr hx;obtain ⟨u,h3,h4⟩:=qb4 (xt:=xt0) hb h2;refine K _ u hs (fun w1 _ _=>?_) h4 (zf6 hne fun i hi=>(zb5 h hx).1 i (qb3 hb i hi));simp [execOp,hop,j6 h1,h3]
     ·cases hs
    ·cases hs
   ·cases hs
  ·rename_i c hop;split at hs
   ·cases hs
   ·rename_i aS has;have h5:=yb5 h.fr has;split at hs
    ·rename_i hc;split at hs
     ·rename_i a t hat;split at hs
      ·rename_i z hz;have e1:=ze4 hat;have hv: ∃v,(c.args.map (evD F'))= #[v]/\VR T w S φ a v:=by
        have h6:VRL T w S φ [a] (c.args.toList.map (evD F')):=h5
        match hm:c.args.toList.map (evD F'),h6 with
        | [v],h6=>exact ⟨v,ze4 (by simpa using hm),h6.1⟩
       obtain ⟨v,hv1,hv2⟩:=hv;exact K _ _ hs (fun w1 _ _=>by simp [execOp,hop,resolve,hc,invoke,hv1,e1,builtin,ve7 hz h hv2]) (VR.int _ _) (jm4 _ _)
      ·split at hs
       ·rename_i z hz;have e1:=ze4 hat;have hv: ∃v,(c.args.map (evD F'))= #[v]/\VR T w S φ a v:=by
         have h6:VRL T w S φ [a] (c.args.toList.map (evD F')):=h5
         match hm:c.args.toList.map (evD F'),h6 with
         | [v],h6=>exact ⟨v,ze4 (by simpa using hm),h6.1⟩
        obtain ⟨v,hv1,hv2⟩:=hv;refine K _ _ hs (fun w1 _ hsm=>?_) (VR.int _ _) (jm4 _ _);have hsm':Same φ (jz3 [a]) w w1:=fun i hi=>hsm i (by unfold qq3;rw [hop];simp only [hc,has];exact hi);simp [execOp,hop,resolve,hc,invoke,hv1,e1,builtin,kq3 hz h hv2 _ hsm']
       ·cases hs
     ·cases hs
    ·rename_i hc;split at hs
     ·rename_i a ha;obtain ⟨v,h1,h2,h3⟩:=vq9 (P:=P) (H:=H) ha h5 c.argTypes o.type;have h1': ∀w,(Builtin.min_ c.argTypes o.type (c.args.map (evD F'))).run P w=.ok v w:=fun w=>by simpa [<-Array.toList_map] using h1 w
      exact K _ v hs (fun w1 _ _=>by simp [execOp,hop,resolve,hc,invoke,builtin,h1']) h2 h3
     ·cases hs
    ·rename_i hc;split at hs
     ·rename_i a ha;obtain ⟨v,h1,h2,h3⟩:=vq8 (P:=P) (H:=H) ha h5 c.argTypes o.type;have h1': ∀w,(Builtin.max_ c.argTypes o.type (c.args.map (evD F'))).run P w=.ok v w:=fun w=>by simpa [<-Array.toList_map] using h1 w
      exact K _ v hs (fun w1 _ _=>by simp [execOp,hop,resolve,hc,invoke,builtin,h1']) h2 h3
     ·cases hs
    ·cases hs
  ·cases hs
def qn2 {t:TypeId} {n0 sz:Nat} (hai:zf8 P t=some (n0,sz)) (h:ka4 P t=true): ∃e d,P.underlying t=some (.array n0 e)/\P.underlying e=some d/\ya1 d=false:=by
 obtain ⟨e,inf,hu,_,_,_⟩:=zd9 hai;unfold ka4 at h;rw [hu] at h;simp only at h;split at h
 ·rename_i d hd;exact ⟨e,d,hu,hd,by simpa using h⟩
 ·cases h
def vy8 {Z:Prop} {R:Type} {r:R} (hd:dec ops k n F'=some o) {K0:AV T.U->Option R} (hs:zx2 P o ⟨F,H⟩ K0=some r) (h:Sim T w0 S0 ⟨F,H⟩ F' w S φ)
  (K: ∀a v,K0 a=some r->QR P F' o S φ (qq3 o F) w v->VR T w S φ a v->okA H a->Z):Z:=by
 unfold zx2 at hs;split at hs
 ·unfold yl0 at hs;simp only at hs;split at hs
  ·rename_i hop;split at hs
   ·rename_i hai hx hy;exact vp6 hd hop hai hx hy hs h K
   ·cases hs
  ·rename_i hop;split at hs
   ·rename_i hai hx hy hel;obtain ⟨e,d,q1,q2,q3⟩:=qn2 hai hel;exact vp7 hop hai q1 q2 q3 hx hy hs h K
   ·cases hs
  ·rename_i hop;split at hs
   ·rename_i hai hx hlo hhi;exact vu9 hd hop hai hx hlo hhi hs h K
   ·cases hs
  ·rename_i hop;split at hs
   ·rename_i hai hx;exact kd4 hop hai hx hs h K
   ·cases hs
  ·rename_i t x hop;split at hs
   ·rename_i n0 sz p hai hx;have hrd: ∀i∈p.ids,i∈qq3 o F:=fun i hi=>by unfold qq3;rw [hop];simp only [hx];exact hi
    refine kf1 hd hop hai (fun hok=>?_) hx hs h hrd K fun hD=>?_
    ·unfold yt2;split at hok
     ·rename_i inf hinf;rw [hinf];exact congrArg some (X1 hok)
     ·cases hok
    ·obtain ⟨a,hl,hK⟩:=zd8 hD;exact vx3 hd hop hx hl h hrd fun v=>K _ v hK
   ·cases hs
  ·rename_i hop;split at hs
   ·rename_i a hx;split at hs
    ·rename_i hsa;obtain ⟨v,h1,h2⟩:=z8 h.fr hx;exact K _ v hs (vi2 hop hsa h1 h2) h2 (zb5 h hx)
    ·cases hs
   ·cases hs
  ·rename_i hop;split at hs
   ·rename_i m kx x hm hk;have hrd: ∀i∈m.ids,i∈qq3 o F:=fun i hi=>by unfold qq3;rw [hop];simp only [hm];exact hi
    refine kf2 hd hop hm hk hs h hrd fun a v hK hq hv hi=>?_;split at hK
    ·rename_i hne;exact K _ v hK hq hv (zf6 hne hi)
    ·cases hK
   ·cases hs
  ·cases hs
 ·exact ki4 hd hs h K
def vi8 {R:Type} {r:R} (hE:za0 T P C.E) {c:Call} (hd:dec ops k n F'=some o) (hop:o.op=.call c) {K:AV T.U->List (Ent T.U)->Option R} {Kp:AV T.U->List (Ent T.U)->Option R} (hs:yj4 P C c ⟨F,H⟩ K Kp=some r) (h:Sim T w0 S0 ⟨F,H⟩ F' w S φ)
  (HK: ∀b H1,K b H1=some r->zp5 P ops Q (k+1) n ds w0 S0 (⟨za1 T F o.dst b,H1⟩:St T)) (HP: ∀b H1,Kp b H1=some r->yn5 Q n ds w0 S0 b (⟨F,H1⟩:St T)):WR P ops Q k n ds F' w:=by
 unfold yj4 at hs;split at hs
 ·cases hs
 ·rename_i aS has;have h5:=yb5 h.fr has;split at hs
  ·rename_i f hc;split at hs
   ·rename_i g first caps hf
    split at hs
    ·rename_i cs he hcs;split at hs
     ·rename_i hall;exact vo5 hd hop hc hf has he (hE g cs hcs).1 hall hs h HK HP
     ·cases hs
    ·cases hs
   ·cases hs
  ·rename_i hc;split at hs
   ·rename_i s x t t' hat;split at hs
    ·rename_i e htt he;have:=X1 htt;subst this
     match hl:c.args.toList,has with
     | [x0,y0],has=>
      unfold zn8 at has;split at has
      ·rename_i a1 l1 hx hl1;simp only [X0,List.cons.injEq] at has;obtain ⟨rfl,rfl⟩:=has;unfold zn8 at hl1;split at hl1
       ·rename_i a2 l2 hy hl2;simp only [X0,List.cons.injEq] at hl1;obtain ⟨rfl,rfl⟩:=hl1;exact vc6 hd hop hc hl hat hx hy hs h HK
       ·cases hl1
      ·cases has
     | [],has=>exact absurd (zo6 has) (by simp)
     | [x0],has=>exact absurd (zo6 has) (by simp)
     |x0::y0::z0::r0,has=>exact absurd (zo6 has) (by simp)
    ·cases hs
   ·cases hs
  ·rename_i hc;split at hs
   ·rename_i s t hat
    match hl:c.args.toList,has with
    | [x0],has=>
     unfold zn8 at has;split at has
     ·rename_i a1 l1 hx hl1;simp only [X0,List.cons.injEq] at has;obtain ⟨rfl,rfl⟩:=has;exact vo7 hd hop hc hl hat hx hs h HK
     ·cases has
    | [],has=>exact absurd (zo6 has) (by simp)
    |x0::y0::r0,has=>exact absurd (zo6 has) (by simp)
   ·cases hs
  ·rename_i hc;split at hs
   ·rename_i m kx x t at2 hat;split at hs
    ·rename_i H1 hdl
     match hl:c.args.toList,has with
     | [x0,y0],has=>
      unfold zn8 at has;split at has
      ·rename_i a1 l1 hx hl1;simp only [X0,List.cons.injEq] at has;obtain ⟨rfl,rfl⟩:=has;unfold zn8 at hl1;split at hl1
       ·rename_i a2 l2 hy hl2;simp only [X0,List.cons.injEq] at hl1;obtain ⟨rfl,rfl⟩:=hl1;exact vd6 hd hop hc hl hat hx hy hdl h (HK _ _ hs)
       ·cases hl1
      ·cases has
     | [],has=>exact absurd (zo6 has) (by simp)
     | [x0],has=>exact absurd (zo6 has) (by simp)
     |x0::y0::z0::r0,has=>exact absurd (zo6 has) (by simp)
    ·cases hs
   ·cases hs
  ·cases hs
def zj0 {R:Type} {r:R} (hE:za0 T P C.E) (hd:dec ops k n F'=some o) {K:St T->Option R} {Kp:AV T.U->St T->Option R} (hs:stepA P C o ⟨F,H⟩ K Kp=some r) (h:Sim T w0 S0 ⟨F,H⟩ F' w S φ)
  (HK: ∀st,K st=some r->zp5 P ops Q (k+1) n ds w0 S0 st) (HP: ∀a st,Kp a st=some r->yn5 Q n ds w0 S0 a st):WR P ops Q k n ds F' w:=by
 have hread:zx2 P o ⟨F,H⟩ (fun a=>K ⟨za1 T F o.dst a,H⟩)=some r->WR P ops Q k n ds F' w:=fun hs=>
  vy8 hd hs h fun a v hK hq hv hok=>jm3 hd (hq w (Chg.refl _ _) fun _ _ _ _ _=>rfl) h hv hok (HK _ hK)
 unfold stepA at hs;simp only at hs;split at hs
 ·rename_i hop;split at hs
  ·rename_i cs hz;split at hs
   ·rename_i cs' hl;exact vc3 hd hop hz hl h (HK _ hs)
   ·cases hs
  ·cases hs
 ·rename_i hop;split at hs
  ·rename_i a ha;split at hs
   ·rename_i cs hb;obtain ⟨g1,g2⟩:=vo3 hb;exact kp6 hd hop ha (fun _ _ _ _ hv=>g2 hv) g1 h (HK _ hs)
   ·cases hs
  ·cases hs
 ·rename_i hop;split at hs
  ·rename_i kd kt et hmk _;exact vr2 hd hop hmk h (HK _ hs)
  ·rename_i kd kt et ty hmk _;exact vg1 hd hop hmk h (HK _ hs)
  ·cases hs
 ·rename_i hop;split at hs
  ·rename_i hdst hm hx hv;split at hs
   ·rename_i H1 hne hi;exact jp7 hd (.inl hop) hdst hm hx hv hi h (HK _ hs)
   ·cases hs
  ·cases hs
 ·rename_i hop;split at hs
  ·rename_i hdst hm hx hv;split at hs
   ·rename_i H1 hne hi;exact jp7 hd (.inr hop) hdst hm hx hv hi h (HK _ hs)
   ·cases hs
  ·cases hs
 ·rename_i hop;split at hs
  ·rename_i hdst hx hy;split at hs
   ·rename_i H1 hl;exact vv0 hd hop hdst hx hy hl h (HK _ hs)
   ·cases hs
  ·cases hs
 ·rename_i hop;split at hs
  ·rename_i hx hy he;exact kf3 hd hop hx hy hs h fun a H1 ha=>HK _ ha
  ·cases hs
 ·rename_i hop;split at hs
  ·rename_i l ty hl he;split at hs
   ·rename_i e xs hb;exact vd0 hd hop hl hb h (HK _ hs)
   ·cases hs
  ·rename_i l hl he;split at hs
   ·rename_i e sz cs hb;exact qm4 hd hop hl hb h (HK _ hs)
   ·cases hs
  ·cases hs
 ·rename_i hop;split at hs
  ·exact hread hs
  ·exact vi8 hE hd hop hs h (fun b H1 hb=>HK _ hb) fun b H1 hb=>HP _ _ hb
 ·rename_i s d x hop;split at hs
  ·rename_i e b h1 h2 h3;split at hs
   ·rename_i h4;exact qm9 hd hop h3 h1 h2 h4 h (HK _ hs)
   ·cases hs
  ·rename_i e i h1 h2 h3;split at hs
   ·rename_i y xs hb _ h4 h5;have:=X1 hb;subst this
    replace h5:(match H[i]? with|some (.row _ ty' xs)=>if h:ty'=.int .u8 then some (h▸xs:List (den T.U (.int .u8))) else none|_=>none)=some (y::xs):=h5
    split at h5<;>try (cases h5;done)
    rename_i et ty' zs hi;split at h5<;>try (cases h5;done)
    rename_i ht;subst ht;have h5:zs=y::xs:=X5 h5;subst h5;exact vd3 hd hop h3 h2 h4 hi (by simp) h (HK _ hs)
   ·cases hs
  ·exact hread hs
 ·rename_i x hop;split at hs
  ·rename_i t a hx;obtain ⟨X,h1,u,rfl,h2⟩:=z8 h.fr hx;have hrun:(execOp (evD F') o).run P w=.halt (.panic (.iface t u)) w:=by
    simp [execOp,hop,j6 h1,Instr.panic,goPanic]
   exact .throw hd hrun fun act hact=>HP _ _ hs F' w S φ (.iface t u) h ⟨u,rfl,h2⟩ (zb5 h hx) act hact
  ·cases hs
 ·exact hread hs
end
end Go.X
namespace Go.X
open Go.RowKit Go.V
def zr8 (i:Nat):List Nat->Bool| []=>false|j::r=>match Nat.beq j i with|true=>true|false=>zr8 i r
def qu0 (l:List Nat):List Nat->List Nat| []=>l|i::r=>match zr8 i l with|true=>qu0 l r|false=>qu0 (l++ [i]) r
def qe8 (i:Nat):List Nat->Nat| []=>0|j::r=>match Nat.beq j i with|true=>0|false=>qe8 i r+1
def zc3:List Nat->Bool| []=>true|i::r=> !zr8 i r&&zc3 r
def za9 {i:Nat}: ∀ {l:List Nat},zr8 i l=true↔i∈l
 | []=>by simp [zr8]
 |j::r=>by
  unfold zr8;split
  ·rename_i h;have:=X1 h;subst this;simp
  ·rename_i h;have hne:j≠i:=fun e=>by subst e;simp at h
   rw [za9];simp [Ne.symm hne]
def zv5 {i:Nat}: ∀ {l:List Nat},i∈l->qe8 i l<l.length/\l[qe8 i l]?=some i
 | [],h=>by cases h
 |j::r,h=>by
  unfold qe8;split
  ·rename_i hb;have:=X1 hb;subst this;simp
  ·rename_i hb;have hne:j≠i:=fun e=>by subst e;simp at hb
   have hr:i∈r:=by
    rcases Z0.1 h with rfl|h
    ·exact absurd rfl hne
    ·exact h
   obtain ⟨h1,h2⟩:=zv5 hr;exact ⟨by simpa using h1,by rw [List.getElem?_cons_succ];exact h2⟩
def zw9: ∀ {l:List Nat},zc3 l=true-> ∀ {a b x:Nat},l[a]?=some x->l[b]?=some x->a=b
 | [],_,a,b,x,ha,_=>by simp at ha
 |i::r,h,a,b,x,ha,hb=>by
  unfold zc3 at h;simp only [X3,V4] at h;have hni:i∉r:=fun hm=>by have:=za9.2 hm;rw [h.1] at this;cases this
  cases a with
  |zero=>
   cases b with
   |zero=>rfl
   |succ b=>
    simp at ha hb;subst ha;exact absurd (X6 hb) hni
  |succ a=>
   cases b with
   |zero=>
    simp at ha hb;subst hb;exact absurd (X6 ha) hni
   |succ b=>
    simp at ha hb;rw [zw9 h.2 ha hb]
section
variable (T:Tab)
def zu6 (H:List (Ent T.U)):List Nat->List (Ent T.U)
 | []=>H
 |i::r=>zu6 (H.set i .gone) r
def kw6 {U:Nat->Type}:Cell U->Option ((t:Ty)×List (den U t))|⟨.list t,ys⟩=>some ⟨t,ys⟩|_=>none
def vx8 {U:Nat->Type} (e:TypeId) (c:Cell U):Option ((t:Ty)×List (den U t)):=match Nat.beq e 0 with|true=>none|false=>kw6 c
def zc5:List TypeId->List (Cell T.U)->Nat->List (AV T.U)×List (Ent T.U)
 |_,[],_=>([],[])
 |fe,c::r,n=>match vx8 (fe.headD 0) c with
  |some ⟨t,ys⟩=>(.own n::(zc5 fe.tail r (n+1)).1,.row (fe.headD 0) t ys::(zc5 fe.tail r (n+1)).2)
  |none=>(.cell c::(zc5 fe.tail r n).1,(zc5 fe.tail r n).2)
def elD (d:Nat) (xs:List (T.U d)) (a:Nat):List (Cell T.U):=T.cells d (xs.getD a (T.d d))
def yg6 (H:List (Ent T.U)) (k:Nat) (e:TypeId) (d:Nat) (fe:List TypeId) (xs:List (T.U d)) (a:Nat):List (Ent T.U):=
 H.set k (.drow e d fe xs (some (a,(zc5 T fe (elD T d xs a) H.length).1)))++(zc5 T fe (elD T d xs a) H.length).2
def qs3 (H:List (Ent T.U)) (t:Ty) (e:TypeId) (a:AV T.U):Option (Cell T.U×List Nat):=
 match a with
 | .own j=>match H[j]?,t with
  |some (.row e' t' ys),.list t0=>(match Nat.beq e' e&& !(Nat.beq e 0) with|true=>if t'=t0 then some (⟨.list t',ys⟩,[j]) else none|false=>none)
  |_,_=>none
 | .raw (.slice none 0 0)=>match t with| .list t0=>some (⟨.list t0,[]⟩,[])|_=>none
 | .cell c=>match c.t.scal||Nat.beq e 0 with|true=>some (c,[])|false=>none
 |_=>none
def zw1 (H:List (Ent T.U)):List Ty->List TypeId->List (AV T.U)->Option (List (Cell T.U)×List Nat)
 | [],_,[]=>some ([],[])
 |t::ts,fe,a::aS=>match qs3 T H t (fe.headD 0) a,zw1 H ts fe.tail aS with|some (c,l),some (cs,ls)=>some (c::cs,l++ls)|_,_=>none
 |_,_,_=>none
def zm9 (H:List (Ent T.U)) (k:Nat):List (Ent T.U):=
 match H[k]? with
 |some (.drow e d fe xs (some (a,cs)))=>match zw1 T H (qr9 T d) fe cs with
  |some (l,ids)=>match zc3 ids,T.pack d l with
   |true,some y=>zu6 T (H.set k (.drow e d fe (xs.set a y) none)) ids
   |_,_=>H
  |none=>H
 |some (.pmap kd be d m (some (x,j)))=>match H[j]? with
  |some (.blk be' cs)=>match Nat.beq be' be&& !(Nat.beq j k),T.rb d cs with
   |true,some y=>(H.set k (.pmap kd be d (k8 m x y) none)).set j .gone
   |_,_=>H
  |_=>H
 |_=>H
def closeL:List Nat->List (Ent T.U)->List (Ent T.U)
 | [],H=>H
 |k::r,H=>closeL r (zm9 T H k)
end
section
variable {T:Tab} {P:Program} {w w':World} {S S':List Nat} {φ φ':Nat->RA} {w0:World} {S0:Ow} {F:AF T} {H:List (Ent T.U)} {F':PF}
def zm1 {i j:Nat} {f:Ent T.U} (h:(H.set i .gone)[j]?=some f) (hl:f.live=true):j≠i/\H[j]?=some f:=by
 by_cases hji:j=i
 ·subst hji;have hlt:=(X2.1 h).1;rw [Q0 (by simpa using hlt)] at h;simp only [X0] at h;subst h;cases hl
 ·rw [Z5 (Ne.symm hji)] at h;exact ⟨hji,h⟩
def jp2: ∀ {ids:List Nat} {H:List (Ent T.U)} {j:Nat} {f:Ent T.U},(zu6 T H ids)[j]?=some f->f.live=true->j∉ids/\H[j]?=some f
 | [],H,j,f,h,_=>⟨by simp,h⟩
 |i::r,H,j,f,h,hl=>by
  obtain ⟨h1,h2⟩:=jp2 (ids:=r) h hl;obtain ⟨h3,h4⟩:=zm1 h2 hl;exact ⟨by simp [h3,h1],h4⟩
def yw6: ∀(ids:List Nat) (H:List (Ent T.U)),(zu6 T H ids).length=H.length
 | [],H=>rfl
 |i::r,H=>by rw [zu6,yw6 r];simp
def vf7 {c:Cell T.U} {p:(t:Ty)×List (den T.U t)} (h:kw6 c=some p):c=⟨.list p.1,p.2⟩:=by
 obtain ⟨t,x⟩:=c;cases t<;>first|(cases h;done)|(simp only [kw6,X0] at h;subst h;rfl)
def kv8 {e:TypeId} (h:Nat.beq e 0=false):e≠0:=fun he=>by subst he;cases h
def vf6 {e:TypeId} {c:Cell T.U} {p:(t:Ty)×List (den T.U t)} (h:vx8 e c=some p):Nat.beq e 0=false/\c=⟨.list p.1,p.2⟩:=by
 unfold vx8 at h;split at h
 ·cases h
 ·rename_i he;exact ⟨he,vf7 h⟩
def vf5 {e:TypeId} {c:Cell T.U} (h:vx8 e c=none) (v:Value):(DC T w S e c v->yj1 T w S c v)/\zq4 T e c v= []:=by
 unfold vx8 at h;split at h
 ·rename_i he;have:=X1 he;subst this;obtain ⟨t,x⟩:=c;refine ⟨fun hd=>?_,rfl⟩;cases t<;>first|exact hd.1 rfl|exact hd
 ·rename_i he;obtain ⟨t,x⟩:=c;refine ⟨fun hd=>?_,?_⟩
  ·cases t<;>first|(cases h;done)|exact hd
  ·unfold zq4;rw [he];cases t<;>first|(cases h;done)|rfl
def vk3 (fe:List TypeId):fe.getD 0 0=fe.headD 0:=by cases fe<;>rfl
def qn7 (fe:List TypeId) (f:Nat):fe.getD (f+1) 0=fe.tail.getD f 0:=by cases fe<;>simp
def Sim.ghost (h:Sim T w0 S0 ⟨F,H⟩ F' w S φ) {H':List (Ent T.U)} (hlen:H.length<=H'.length) (hs: ∀i,i<H.length->RSame (φ' i) (φ i))
  (hrow: ∀(i:Nat) (e:TypeId) (t:Ty) (xs:List (den T.U t)),i<H.length->H'[i]?=some (.row e t xs)->H[i]?=some (.row e t xs))
  (hat: ∀(i:Nat) (e:Ent T.U),H'[i]?=some e->e.live=true-> ∀a,At (φ' i) a-> ∃j f b,H[j]?=some f/\f.live=true/\At (φ j) b/\b.block=a.block)
  (hent: ∀(i:Nat) (e:Ent T.U),H'[i]?=some e->EntR T w S φ' i e) (heid: ∀(i:Nat) (e:Ent T.U),H'[i]?=some e-> ∀j∈e.cellIds,j<H'.length)
  (hap: ∀(i j:Nat) (e e':Ent T.U),H'[i]?=some e->H'[j]?=some e'->e.live=true->e'.live=true->i≠j-> ∀a b,At (φ' i) a->At (φ' j) b->a.block≠b.block):Sim T w0 S0 ⟨F,H'⟩ F' w S φ':=by
 refine ⟨fun i a ha=>?_,fun i a ha=>?_,h.chg,h.own,h.ex,fun i e he hl a ha=>?_,fun k r hk=>?_,hent,heid,hap⟩
 ·obtain ⟨v,h1,h2⟩:=h.fr i a ha;exact ⟨v,h1,h2.phiS fun j hj=>hs j ((h.ids i a ha).1 j hj)⟩
 ·obtain ⟨h1,h2⟩:=h.ids i a ha;refine ⟨fun j hj=>V3 (h1 j hj) hlen,?_⟩;cases a with
  |eptr y sz k c=>intro e t xs hx;exact h2 e t xs (hrow y e t xs (h1 y (by simp [AV.ids])) hx)
  |_=>trivial
 ·obtain ⟨j,f,b,h1,h2,h3,h4⟩:=hat i e he hl a ha;rw [<-h4];exact h.lives j f h1 h2 b h3
 ·obtain ⟨h1,h2⟩:=h.pins k r hk;exact ⟨(hs k h2).trans h1,V3 h2 hlen⟩
def jf1: ∀(fe:List TypeId) (cs:List (Cell T.U)) (n:Nat),(zc5 T fe cs n).1.length=cs.length
 |_,[],_=>by simp [zc5]
 |fe,c::r,n=>by
  unfold zc5;split<;>simp [jf1 fe.tail r]
def yh5: ∀ {cs:List (Cell T.U)} {fe:List TypeId} {vs:List Value} (n:Nat),cs.length=vs.length->(∀f c v,cs[f]?=some c->vs[f]?=some v->DC T w S (fe.getD f 0) c v)->
  ∃(rs:List RA) (p:Nat->Nat),rs.length=(zc5 T fe cs n).2.length/\(∀φ':Nat->RA,(∀r ra,rs[r]?=some ra->φ' (n+r)=ra)->VRL T w S φ' (zc5 T fe cs n).1 vs)/\
   (∀r e,(zc5 T fe cs n).2[r]?=some e-> ∃ra,rs[r]?=some ra/\e.cellIds= []/\ ∀φ':Nat->RA,φ' (n+r)=ra->(∀a,ra.ad=some a->a.block∈S)->EntR T w S φ' (n+r) e)/\
   (∀r ra,rs[r]?=some ra->ra.xs= []/\ ∃c v,cs[p r]?=some c/\vs[p r]?=some v/\zq4 T (fe.getD (p r) 0) c v=zb2 ra.ad)/\(∀r r',p r=p r'->r=r')/\ ∀i∈j8 (zc5 T fe cs n).1,n<=i/\i<n+rs.length
 | [],fe,[],n,_,_=>⟨[],id,rfl,fun _ _=>by simp [zc5,VRL],fun r e h=>by simp [zc5] at h,fun r ra h=>by simp at h,fun _ _ h=>h,fun i hi=>by simp [zc5,j8] at hi⟩
 | [],_,_::_,_,h,_=>by simp at h
 |_::_,_,[],_,h,_=>by simp at h
 |c::r,fe,v::vs,n,hl,hd=>by
  have hd0:DC T w S (fe.headD 0) c v:=by have:=hd 0 c v rfl rfl;rwa [vk3] at this
  have hd1: ∀f c v,r[f]?=some c->vs[f]?=some v->DC T w S (fe.tail.getD f 0) c v:=fun f c' v' h1 h2=>by
   have:=hd (f+1) c' v' (by simpa using h1) (by simpa using h2);rwa [qn7] at this
  have hl':r.length=vs.length:=by simpa using hl
  cases hc:vx8 (fe.headD 0) c with
  |none=>
   obtain ⟨rs,p,k1,k2,k3,k4,k5,k6⟩:=yh5 (fe:=fe.tail) n hl' hd1;refine ⟨rs,fun r=>p r+1,?_,fun φ' hφ=>?_,fun r e h=>?_,fun r ra h=>?_,fun r r' h=>k5 r r' (Nat.succ.inj h),fun i hi=>?_⟩
   ·simp only [zc5,hc];exact k1
   ·simp only [zc5,hc];exact ⟨(vf5 hc v).1 hd0,k2 φ' hφ⟩
   ·simp only [zc5,hc] at h;exact k3 r e h
   ·obtain ⟨q1,c',v',q2,q3,q4⟩:=k4 r ra h;exact ⟨q1,c',v',by simpa using q2,by simpa using q3,by rw [qn7];exact q4⟩
   ·simp only [zc5,hc,j8,AV.ids,M9] at hi;exact k6 i hi
  |some q=>
   obtain ⟨t,ys⟩:=q;obtain ⟨hez,hce⟩:=vf6 hc;simp only at hce;subst hce;obtain ⟨B,ad,cap,vals,rfl,o1,o2,o3⟩:=hd0.2 (kv8 hez);obtain ⟨rs,p,k1,k2,k3,k4,k5,k6⟩:=yh5 (fe:=fe.tail) (n+1) hl' hd1;refine ⟨⟨ad,List.length (α:=den T.U t) ys,cap,[]⟩::rs,fun r=>match r with|0=>0|r+1=>p r+1,?_,fun φ' hφ=>?_,fun r e h=>?_,fun r ra h=>?_,fun r r' h=>?_,fun i hi=>?_⟩
   ·simp only [zc5,hc,U5,k1]
   ·simp only [zc5,hc];refine ⟨?_,k2 φ' fun r ra h=>?_⟩
    ·have:=hφ 0 _ rfl;rw [J8] at this;rw [VR,this]
    ·have:=hφ (r+1) ra (by simpa using h);rwa [show n+(r+1)=n+1+r by omega] at this
   ·simp only [zc5,hc] at h;cases r with
    |zero=>
     simp only [Y4,X0] at h;subst h;refine ⟨_,rfl,rfl,fun φ' hφ hS=>?_⟩;rw [J8] at hφ⊢;refine ⟨B,vals,by rw [hφ];exact o1,by rw [hφ],o2,o3,fun a ha=>hS a (by rw [hφ] at ha;exact ha)⟩
    |succ r=>
     simp at h;obtain ⟨ra,q1,q2,q3⟩:=k3 r e h;refine ⟨ra,by simpa using q1,q2,fun φ' hφ hS=>?_⟩;rw [show n+(r+1)=n+1+r by omega] at hφ⊢;exact q3 φ' hφ hS
   ·cases r with
    |zero=>
     simp only [Y4,X0] at h;subst h;exact ⟨rfl,_,_,rfl,rfl,by show zq4 T (fe.getD 0 0) _ _=_;rw [vk3];unfold zq4;rw [hez]⟩
    |succ r=>
     obtain ⟨q1,c',v',q2,q3,q4⟩:=k4 r ra (by simpa using h);exact ⟨q1,c',v',by simpa using q2,by simpa using q3,by show zq4 T (fe.getD (p r+1) 0) _ _=_;rw [qn7];exact q4⟩
   ·cases r with
    |zero=>cases r' with
     |zero=>rfl
     |succ r'=>simp at h
    |succ r=>cases r' with
     |zero=>simp at h
     |succ r'=>have:=k5 r r' (by simpa using h);omega
   ·simp only [zc5,hc,j8,AV.ids,M8,M9,Z0] at hi;simp only [U5];rcases hi with rfl|hi
    ·omega
    ·have:=k6 i hi;omega
def qd5 {α β:Type} {f:α->List β} {sz:Nat} (hf: ∀y,(f y).length=sz) {l:List α} {a:Nat} {x:α} (hx:l[a]?=some x) {q:Nat} (hq:q<sz):(l.flatMap f)[a*sz+q]?=(f x)[q]?:=by
 rw [<-yf9 hf hx,Z3,if_pos hq,Q6]
def Sim.openD (h:Sim T w0 S0 ⟨F,H⟩ F' w S φ) {k:Nat} {e:TypeId} {d:Nat} {fe:List TypeId} {xs:List (T.U d)} {a:Nat} (hk:H[k]?=some (.drow e d fe xs none)) (ha:a<xs.length):
  ∃φ',(∀i,i<H.length->RSame (φ' i) (φ i))/\Sim T w0 S0 ⟨F,yg6 T H k e d fe xs a⟩ F' w S φ':=by
 obtain ⟨B,vals,o1,o2,o3,o4,o5⟩:=h.ents k _ hk;have hkl:=(X2.1 hk).1;have hxa:xs[a]?=some (xs.getD a (T.d d)):=zm0 (T.d d) ha;have hvl:vals.length=xs.length*T.size d:=by rw [o1.len,o2]
 have hle:a*T.size d+T.size d<=xs.length*T.size d:=by rw [<-Nat.succ_mul];exact Q9 _ ha
 let cs:=elD T d xs a
 let vs:=(vals.drop (a*T.size d)).take (T.size d)
 have hcsl:cs.length=T.size d:=T.len _ _;have hvsl:vs.length=T.size d:=by simp [vs];omega
 have hcs: ∀f c,cs[f]?=some c->f<T.size d/\(xs.flatMap (T.cells d))[a*T.size d+f]?=some c:=fun f c hf=>by
  have:=(X2.1 hf).1;exact ⟨by omega,by rw [qd5 (T.len d) hxa (by omega)];exact hf⟩
 have hvs: ∀f v,vs[f]?=some v->vals[a*T.size d+f]?=some v:=fun f v hf=>by
  simp only [vs,Z3] at hf;split at hf
  ·rw [Q6] at hf;exact hf
  ·cases hf
 have hdc: ∀f c v,cs[f]?=some c->vs[f]?=some v->DC T w S (fe.getD f 0) c v/\ ∀b∈zq4 T (fe.getD f 0) c v,b∈(φ k).xs/\ ∀a,(φ k).ad=some a->a.block≠b:=fun f c v h1 h2=>by
  obtain ⟨h3,h4⟩:=hcs f c h1;have:=o5.cl _ c v h4 (hvs f v h2) (fun q=>q);rwa [show (a*T.size d+f)%T.size d=f by rw [Nat.mul_comm,Nat.mul_add_mod,T6 h3]] at this
 obtain ⟨rs,p,k1,k2,k3,k4,k5,k6⟩:=yh5 (fe:=fe) (S:=S) (w:=w) H.length (hcsl.trans hvsl.symm) fun f c v h1 h2=>(hdc f c v h1 h2).1
 let OB:=rs.flatMap fun ra=>zb2 ra.ad
 have hob: ∀ {b:Nat},b∈OB-> ∃(r:Nat) (ra:RA),rs[r]?=some ra/\b∈zb2 ra.ad:=fun {b} hb=>by
  obtain ⟨ra,h1,h2⟩:=V8.1 hb;obtain ⟨r,hr⟩:=Y9.1 h1;exact ⟨r,ra,hr,h2⟩
 let φ':Nat->RA:=fun i=>if i<H.length then (if i=k then ⟨(φ k).ad,(φ k).n,(φ k).cap,(φ k).xs.filter fun b=> !OB.contains b⟩ else φ i) else rs.getD (i-H.length) ⟨none,0,0,[]⟩
 have pk:φ' k=⟨(φ k).ad,(φ k).n,(φ k).cap,(φ k).xs.filter fun b=> !OB.contains b⟩:=by show (if k<H.length then _ else _)=_;rw [if_pos hkl,if_pos rfl]
 have po: ∀i,i<H.length->i≠k->φ' i=φ i:=fun i hi hne=>by show (if i<H.length then _ else _)=_;rw [if_pos hi,if_neg hne]
 have pn: ∀r ra,rs[r]?=some ra->φ' (H.length+r)=ra:=fun r ra hr=>by
  show (if H.length+r<H.length then _ else _)=_;rw [if_neg (by omega),N1,Y2,hr];rfl
 have hs: ∀i,i<H.length->RSame (φ' i) (φ i):=fun i hi=>by
  by_cases he:i=k
  ·subst he;rw [pk];exact ⟨rfl,rfl,rfl⟩
  ·rw [po i hi he];exact .of rfl
 have hatk: ∀ {x},At (φ' k) x->At (φ k) x/\x.block∉OB:=fun {x} hx=>by
  rw [pk] at hx;have notOB: ∀ {b},b∈OB->b∈(φ k).xs/\ ∀a,(φ k).ad=some a->a.block≠b:=fun {b} hb=>by
   obtain ⟨r,ra,hr,hb⟩:=hob hb;obtain ⟨_,c,v,q2,q3,q4⟩:=k4 r ra hr;exact (hdc _ c v q2 q3).2 b (q4▸hb)
  rcases hx with hx|hx
  ·exact ⟨.inl hx,fun hb=>(notOB hb).2 x hx rfl⟩
  ·obtain ⟨h1,h2⟩:=W3.1 hx;exact ⟨.inr h1,fun hb=>absurd hb (by simpa using h2)⟩
 have hatn: ∀ {r ra x},rs[r]?=some ra->At ra x->x.block∈(φ k).xs/\x.block∈OB/\ ∃c v,cs[p r]?=some c/\vs[p r]?=some v/\x.block∈zq4 T (fe.getD (p r) 0) c v:=fun {r ra x} hr hx=>by
  obtain ⟨q1,c,v,q2,q3,q4⟩:=k4 r ra hr;have had:ra.ad=some x:=by
   rcases hx with hx|hx
   ·exact hx
   ·rw [q1] at hx;cases hx
  have hb:x.block∈zb2 ra.ad:=by rw [had];simp [zb2]
  exact ⟨((hdc _ c v q2 q3).2 _ (q4▸hb)).1,V8.2 ⟨ra,X6 hr,hb⟩,c,v,q2,q3,q4▸hb⟩
 have get: ∀(i:Nat) (f:Ent T.U),(yg6 T H k e d fe xs a)[i]?=some f->(i=k/\f=.drow e d fe xs (some (a,(zc5 T fe cs H.length).1)))\/(i<H.length/\i≠k/\H[i]?=some f)\/ ∃r ra,i=H.length+r/\rs[r]?=some ra/\(zc5 T fe cs H.length).2[r]?=some f:=by
  intro i f hf;unfold yg6 at hf;by_cases hi:i<H.length
  ·rw [X8 (by simpa using hi)] at hf;by_cases he:i=k
   ·subst he;rw [Q0 hkl] at hf;exact .inl ⟨rfl,(X5 hf).symm⟩
   ·rw [Z5 (Ne.symm he)] at hf;exact .inr (.inl ⟨hi,he,hf⟩)
  ·rw [Z2 (by simp;omega)] at hf;simp only [Q1] at hf;obtain ⟨ra,hr,_⟩:=k3 _ f hf;exact .inr (.inr ⟨i-H.length,ra,by omega,hr,hf⟩)
 have hlen:(yg6 T H k e d fe xs a).length=H.length+rs.length:=by unfold yg6;simp only [X9,Q1];rw [k1]
 refine ⟨φ',hs,h.ghost (by omega) hs (fun i e1 t ys hi hx=>?_) (fun i f hf hl x hx=>?_) (fun i f hf=>?_) (fun i f hf j hj=>?_) (fun i j f f' hf hf' hl hl' hij x y hx hy=>?_)⟩
 ·rcases get i _ hx with ⟨_,q⟩|⟨_,_,q⟩|⟨r,_,q,_⟩
  ·cases q
  ·exact q
  ·omega
 ·rcases get i f hf with ⟨rfl,rfl⟩|⟨q1,q2,q3⟩|⟨r,ra,rfl,q2,q3⟩
  ·exact ⟨i,_,x,hk,rfl,(hatk hx).1,rfl⟩
  ·rw [po i q1 q2] at hx;exact ⟨i,f,x,q3,hl,hx,rfl⟩
  ·rw [pn r ra q2] at hx;exact ⟨k,_,⟨x.block,0,none⟩,hk,rfl,.inr (hatn q2 hx).1,rfl⟩
 ·rcases get i f hf with ⟨rfl,rfl⟩|⟨q1,q2,q3⟩|⟨r,ra,rfl,q2,q3⟩
  ·refine ⟨B,vals,by rw [pk];exact o1,by rw [pk];exact o2,o3,fun z hz=>o4 z (by rw [pk] at hz;exact hz),fun j c v h1 h2 h3=>?_,fun j j' c c' v v' hj h1 h2 _ h4 h5 _=>o5.ap j j' c c' v v' hj h1 h2 (fun q=>q) h4 h5 fun q=>q,fun a0 cs0 hop=>?_⟩
   ·obtain ⟨g1,g2⟩:=o5.cl j c v h1 h2 (fun q=>q);refine ⟨g1,fun b hb=>?_⟩;rw [pk];refine ⟨W3.2 ⟨(g2 b hb).1,?_⟩,(g2 b hb).2⟩;cases hq:OB.contains b with
    |false=>rfl
    |true=>
     obtain ⟨r,ra,hr,hb'⟩:=hob (N9.1 hq);obtain ⟨_,c',v',q2,q3,q4⟩:=k4 r ra hr;obtain ⟨q5,q6⟩:=hcs _ c' q2;have hmod:(a*T.size d+p r)%T.size d=p r:=by rw [Nat.mul_comm,Nat.mul_add_mod,T6 q5]
     refine absurd (q4▸hb') (hmod▸o5.ap j _ c c' v v' (fun e=>h3 ?_) h1 h2 (fun q=>q) q6 (hvs _ v' q3) (fun q=>q) b hb);subst e;exact ⟨by omega,by omega⟩
   ·simp only [X0,X7] at hop;obtain ⟨rfl,rfl⟩:=hop;refine ⟨ha,(jf1 _ _ _).trans hcsl,fun f x hx=>?_⟩;obtain ⟨v,h1,h2⟩:=(k2 φ' pn).get T hx;exact ⟨v,hvs f v h1,h2⟩
  ·refine (h.ents i f q3).phiE (po i q1 q2) fun j hj=>hs j (h.eids i f q3 j hj)
  ·obtain ⟨ra',g1,g2,g3⟩:=k3 r f q3;rw [q2] at g1;obtain rfl:=X5 g1;refine g3 φ' (pn r ra q2) fun x hx=>?_;have:=(hatn q2 (.inl hx)).1;exact zd5 h hk rfl (a:=⟨x.block,0,none⟩) (.inr this)
 ·rw [hlen];rcases get i f hf with ⟨rfl,rfl⟩|⟨q1,q2,q3⟩|⟨r,ra,rfl,q2,q3⟩
  ·have:=k6 j hj;omega
  ·have:=h.eids i f q3 j hj;simp only at this;omega
  ·obtain ⟨ra',g1,g2,g3⟩:=k3 r f q3;rw [g2] at hj;cases hj
 ·rcases get i f hf with ⟨rfl,rfl⟩|⟨q1,q2,q3⟩|⟨r,ra,rfl,q2,q3⟩<;>rcases get j f' hf' with ⟨rfl,rfl⟩|⟨u1,u2,u3⟩|⟨r',ra',rfl,u2,u3⟩
  ·exact absurd rfl hij
  ·rw [po j u1 u2] at hy;exact h.apart i j _ _ hk u3 rfl hl' hij x y (hatk hx).1 hy
  ·rw [pn r' ra' u2] at hy;exact fun e=>(hatk hx).2 (e▸(hatn u2 hy).2.1)
  ·rw [po i q1 q2] at hx;exact h.apart i j _ _ q3 hk hl rfl hij x y hx (hatk hy).1
  ·rw [po i q1 q2] at hx;rw [po j u1 u2] at hy;exact h.apart i j _ _ q3 u3 hl hl' hij x y hx hy
  ·rw [po i q1 q2] at hx;rw [pn r' ra' u2] at hy;exact h.apart i k _ _ q3 hk hl rfl q2 x ⟨y.block,0,none⟩ hx (.inr (hatn u2 hy).1)
  ·rw [pn r ra q2] at hx;exact fun e=>(hatk hy).2 (e▸(hatn q2 hx).2.1)
  ·rw [pn r ra q2] at hx;rw [po j u1 u2] at hy;exact h.apart k j _ _ hk u3 rfl hl' (Ne.symm u2) ⟨x.block,0,none⟩ y (.inr (hatn q2 hx).1) hy
  ·rw [pn r ra q2] at hx;rw [pn r' ra' u2] at hy;obtain ⟨_,_,c,v,g1,g2,g3⟩:=hatn q2 hx;obtain ⟨_,_,c',v',g1',g2',g3'⟩:=hatn u2 hy;intro e;have hmod: ∀ {f:Nat},f<T.size d->(a*T.size d+f)%T.size d=f:=fun {f} hf=>by rw [Nat.mul_comm,Nat.mul_add_mod,T6 hf]
   have hap:=o5.ap _ _ c c' v v' (fun q=>hij ?_) (hcs _ c g1).2 (hvs _ v g2) (fun q=>q) (hcs _ c' g1').2 (hvs _ v' g2') (fun q=>q)
   ·rw [hmod (hcs _ c g1).1,hmod (hcs _ c' g1').1] at hap;exact absurd (e▸g3') (hap _ g3)
   rw [k5 r r' (by omega)]
end
end Go.X
namespace Go.X
open Go.RowKit Go.V
section
variable {T:Tab} {P:Program} {w w':World} {S S':List Nat} {φ φ':Nat->RA} {w0:World} {S0:Ow} {F:AF T} {H:List (Ent T.U)} {F':PF}
def nodup_cons {i:Nat} {r:List Nat} (h:zc3 (i::r)=true):i∉r/\zc3 r=true:=by
 unfold zc3 at h;simp only [X3,V4] at h;exact ⟨fun hm=>(by have:=za9.2 hm;rw [h.1] at this;cases this),h.2⟩
def CellsR.nilC:CellsR T w S [] []:=⟨rfl,fun j c v h=>by simp at h⟩
def qb5 (h:Sim T w0 S0 ⟨F,H⟩ F' w S φ) {t:Ty} {e:TypeId} {a:AV T.U} {c:Cell T.U} {l:List Nat} (hc:qs3 T H t e a=some (c,l)) {v:Value} (hv:VR T w S φ a v):
  DC T w S e c v/\((l= []/\zq4 T e c v= []/\ ∀j,a≠.own j)\/ ∃j e1 t1 ys,l= [j]/\a=.own j/\H[j]?=some (.row e1 t1 ys)/\zq4 T e c v=zb2 (φ j).ad):=by
 unfold qs3 at hc;split at hc
 ·rename_i j;split at hc<;>try (cases hc;done)
  rename_i e' t' ys t0 hj;split at hc<;>try (cases hc;done)
  rename_i he;simp only [X3,V4] at he;obtain ⟨he,hez⟩:=he;have:=X1 he;subst this;split at hc<;>try (cases hc;done)
  rename_i ht;subst ht;simp only [X0,X7] at hc;obtain ⟨rfl,rfl⟩:=hc;rw [VR] at hv;subst hv;obtain ⟨B,vals,o1,o2,o3,o4,o5⟩:=h.ents j _ hj;refine ⟨⟨fun h0=>absurd h0 (kv8 hez),fun _=>⟨B,(φ j).ad,(φ j).cap,vals,by rw [o2],by rw [o2] at o1;exact o1,o3,o4⟩⟩,.inr ⟨j,_,_,ys,rfl,rfl,hj,by unfold zq4;rw [hez]⟩⟩
 ·split at hc<;>try (cases hc;done)
  rename_i t0;simp only [X0,X7] at hc;obtain ⟨rfl,rfl⟩:=hc;rw [VR] at hv;subst hv;exact ⟨⟨fun _=>CR.nilS,fun _=>⟨0,none,0,[],rfl,Own.nil _ _ _ _,U4 _,CellsR.nilC⟩⟩,.inl ⟨rfl,by unfold zq4;cases Nat.beq e 0<;>rfl,by intro j hj;cases hj⟩⟩
 ·split at hc<;>try (cases hc;done)
  rename_i c0 _ hs;obtain ⟨t,x⟩:=c0;cases hez:Nat.beq e 0 with
  |true=>
   have:=X1 hez;subst this;simp only [X0,X7] at hc;obtain ⟨rfl,rfl⟩:=hc;refine ⟨?_,.inl ⟨rfl,rfl,by intro j hj;cases hj⟩⟩;cases t<;>first|exact ⟨fun _=>hv,fun h=>absurd rfl h⟩|exact hv
  |false=>
   rw [hez,Bool.or_false] at hs;have hcb:zq4 T e (⟨t,x⟩:Cell T.U) v= []:=by unfold zq4;rw [hez];cases t<;>first|(cases hs;done)|rfl
   simp only [X0,X7] at hc;obtain ⟨rfl,rfl⟩:=hc;refine ⟨?_,.inl ⟨rfl,hcb,by intro j hj;cases hj⟩⟩;cases t<;>first|(cases hs;done)|exact hv
 ·cases hc
def yp4 (h:Sim T w0 S0 ⟨F,H⟩ F' w S φ): ∀ {ts:List Ty} {fe:List TypeId} {aS:List (AV T.U)} {cs:List (Cell T.U)} {ids:List Nat} {vs:List Value},zw1 T H ts fe aS=some (cs,ids)->VRL T w S φ aS vs->
  cs.length=aS.length/\(∀(f:Nat) (c:Cell T.U) (v:Value),cs[f]?=some c->vs[f]?=some v->DC T w S (fe.getD f 0) c v)/\(∀(f:Nat) (c:Cell T.U) (v:Value) (b:Nat),cs[f]?=some c->vs[f]?=some v->b∈zq4 T (fe.getD f 0) c v-> ∃(j:Nat) (ad:Addr),aS[f]?=some (AV.own j:AV T.U)/\j∈ids/\(φ j).ad=some ad/\ad.block=b)/\
   (∀j∈ids,∃e t ys,H[j]?=some (.row e t ys))/\(∀(f j:Nat),aS[f]?=some (AV.own j:AV T.U)->j∈ids)/\(zc3 ids=true-> ∀(f f' j:Nat),aS[f]?=some (AV.own j:AV T.U)->aS[f']?=some (AV.own j:AV T.U)->f=f')
 | [],fe,[],cs,ids,vs,hc,_=>by
  simp only [zw1,X0,X7] at hc;obtain ⟨rfl,rfl⟩:=hc;exact ⟨rfl,fun f c v h=>by simp at h,fun f c v b h=>by simp at h,by simp,fun f j h=>by simp at h,fun _ f f' j h=>by simp at h⟩
 | [],_,_::_,_,_,_,hc,_=>by simp [zw1] at hc
 |_::_,_,[],_,_,_,hc,_=>by simp [zw1] at hc
 |_::_,_,_::_,_,_,[],_,hv=>hv.elim
 |t::ts,fe,a::aS,cs,ids,v::vs,hc,hv=>by
  unfold zw1 at hc;split at hc<;>try (cases hc;done)
  rename_i c l cs1 ls h1 h2;simp only [X0,X7] at hc;obtain ⟨rfl,rfl⟩:=hc;obtain ⟨g1,g2⟩:=qb5 h h1 hv.1;obtain ⟨k1,k2,k3,k4,k5,k6⟩:=yp4 h h2 hv.2;refine ⟨by simp [k1],fun f c' v' q1 q2=>?_,fun f c' v' b q1 q2 q3=>?_,fun j hj=>?_,fun f j hf=>?_,fun hn f f' j q1 q2=>?_⟩
  ·cases f with
   |zero=>
    simp only [Y4,X0] at q1 q2;subst q1;subst q2;rw [vk3];exact g1
   |succ f=>rw [qn7];exact k2 f c' v' (by simpa using q1) (by simpa using q2)
  ·cases f with
   |zero=>
    simp only [Y4,X0] at q1 q2;subst q1;subst q2;rw [vk3] at q3;rcases g2 with ⟨_,u2,_⟩|⟨j,_,_,_,rfl,rfl,_,u4⟩
    ·rw [u2] at q3;cases q3
    ·rw [u4] at q3;unfold zb2 at q3;split at q3
     ·rename_i ad had;simp only [Q5] at q3;exact ⟨j,ad,rfl,by simp,had,q3.symm⟩
     ·cases q3
   |succ f=>
    rw [qn7] at q3;obtain ⟨j,ad,u1,u2,u3,u4⟩:=k3 f c' v' b (by simpa using q1) (by simpa using q2) q3;exact ⟨j,ad,by simpa using u1,X4.2 (.inr u2),u3,u4⟩
  ·rcases X4.1 hj with hj|hj
   ·rcases g2 with ⟨rfl,_⟩|⟨j',_,_,_,rfl,_,u3,_⟩
    ·cases hj
    ·simp only [Q5] at hj;subst hj;exact ⟨_,_,_,u3⟩
   ·exact k4 j hj
  ·cases f with
   |zero=>
    simp only [Y4,X0] at hf;rcases g2 with ⟨_,_,u⟩|⟨j',_,_,_,rfl,rfl,_,_⟩
    ·exact absurd hf (u j)
    ·cases hf;simp
   |succ f=>exact X4.2 (.inr (k5 f j (by simpa using hf)))
  ·have hls:zc3 ls=true/\ ∀j,a=.own j->j∉ls:=by
    rcases g2 with ⟨rfl,_,u⟩|⟨j',_,_,_,rfl,rfl,_,_⟩
    ·exact ⟨hn,fun j hj=>absurd hj (u j)⟩
    ·obtain ⟨n1,n2⟩:=nodup_cons hn;exact ⟨n2,fun j hj=>by cases hj;exact n1⟩
   cases f with
   |zero=>
    simp only [Y4,X0] at q1;cases f' with
    |zero=>rfl
    |succ f'=>exact absurd (k5 f' j (by simpa using q2)) (hls.2 j q1)
   |succ f=>
    cases f' with
    |zero=>
     simp only [Y4,X0] at q2;exact absurd (k5 f j (by simpa using q1)) (hls.2 j q2)
    |succ f'=>rw [k6 hls.1 f f' j (by simpa using q1) (by simpa using q2)]
def yi5 {α:Type}: ∀(l cs:List α) (o j:Nat),o+l.length<=cs.length->(zi7 cs o l)[j]?=if o<=j/\j<o+l.length then l[j-o]? else cs[j]?
 | [],cs,o,j,_=>by rw [zi7,if_neg (by simp only [T7];omega)]
 |a::r,cs,o,j,h=>by
  simp only [U5] at h;have hl:o+1+r.length<=(cs.set o a).length:=by rw [Q1];omega
  rw [zi7,yi5 r _ _ _ hl];simp only [U5];by_cases h1:o+1<=j/\j<o+1+r.length
  ·rw [if_pos h1,if_pos (by omega),show j-o=(j-(o+1))+1 by omega,List.getElem?_cons_succ]
  ·rw [if_neg h1];by_cases h2:j=o
   ·subst h2;rw [if_pos (by omega),Q0 (by omega),N3,Y4]
   ·rw [if_neg (by omega),Z5 (Ne.symm h2)]
def vi1 {α β:Type} {f:α->List β} {sz:Nat} (hf: ∀y,(f y).length=sz) {l:List α} {a:Nat} {y:α} (ha:a<l.length) (j:Nat):((l.set a y).flatMap f)[j]?=if a*sz<=j/\j<a*sz+sz then (f y)[j-a*sz]? else (l.flatMap f)[j]?:=by
 have hx:l[a]?=some l[a]:=Y0 ha;have hle:a*sz+sz<=l.length*sz:=by rw [<-Nat.succ_mul];exact Q9 _ ha
 rw [yh3 hf hx (y:=y) (l:=f y) (c:=0) (by rw [ys7 _ _ (by rw [hf,hf];exact W8 _),hf,R8 (by rw [hf];exact W8 _),J4]) (by rw [hf];omega),yi5 _ _ _ _ (by rw [hf,u9 hf];omega),hf,J8]
def Sim.closeD (h:Sim T w0 S0 ⟨F,H⟩ F' w S φ) {k:Nat} {e:TypeId} {d:Nat} {fe:List TypeId} {xs:List (T.U d)} {a:Nat} {aS:List (AV T.U)} {l:List (Cell T.U)} {ids:List Nat} {y:T.U d} (hk:H[k]?=some (.drow e d fe xs (some (a,aS)))) (hc:zw1 T H (qr9 T d) fe aS=some (l,ids)) (hn:zc3 ids=true) (hp:T.pack d l=some y):
  ∃φ',(∀i,RSame (φ' i) (φ i))/\Sim T w0 S0 ⟨F,zu6 T (H.set k (.drow e d fe (xs.set a y) none)) ids⟩ F' w S φ':=by
 obtain ⟨B,vals,o1,o2,o3,o4,o5⟩:=h.ents k _ hk;have hkl:=(X2.1 hk).1;obtain ⟨ha,hal,hop⟩:=o5.opn _ _ rfl;have hvl:vals.length=xs.length*T.size d:=by rw [o1.len,o2]
 have hle:a*T.size d+T.size d<=xs.length*T.size d:=by rw [<-Nat.succ_mul];exact Q9 _ ha
 let vs:=(vals.drop (a*T.size d)).take (T.size d)
 have hvsl:vs.length=T.size d:=by simp [vs];omega
 have hvs: ∀f,f<T.size d->vs[f]?=vals[a*T.size d+f]?:=fun f hf=>by simp only [vs,Z3,if_pos hf,Q6]
 have hvrl:VRL T w S φ aS vs:=by
  have key: ∀(aS:List (AV T.U)) (vs:List Value),aS.length=vs.length->(∀(f:Nat) (x:AV T.U),aS[f]?=some x-> ∃v,vs[f]?=some v/\VR T w S φ x v)->VRL T w S φ aS vs:=by
   intro aS;induction aS with
   |nil=>intro vs hl _;cases vs with
    |nil=>trivial
    |cons _ _=>simp at hl
   |cons x r ih=>
    intro vs hl hx;cases vs with
    |nil=>simp at hl
    |cons v s=>
     obtain ⟨v',h1,h2⟩:=hx 0 x rfl;simp only [Y4,X0] at h1;subst h1;exact ⟨h2,ih s (by simpa using hl) fun f z hz=>by simpa using hx (f+1) z (by simpa using hz)⟩
  refine key aS vs (hal.trans hvsl.symm) fun f x hx=>?_;have hf:f<T.size d:=by have:=(X2.1 hx).1;omega
  rw [hvs f hf];exact hop f x hx
 obtain ⟨k1,k2,k3,k4,k5,k6⟩:=yp4 h hc hvrl;have hy:T.cells d y=l:=T.packed _ _ _ hp;have hki:k∉ids:=fun hm=>by obtain ⟨_,_,_,q⟩:=k4 k hm;rw [hk] at q;cases q
 let φ':Nat->RA:=fun i=>if i=k then ⟨(φ k).ad,(φ k).n,(φ k).cap,(φ k).xs++ids.flatMap fun j=>(φ j).all⟩ else φ i
 have pk:φ' k=⟨(φ k).ad,(φ k).n,(φ k).cap,(φ k).xs++ids.flatMap fun j=>(φ j).all⟩:=if_pos rfl;have po: ∀i,i≠k->φ' i=φ i:=fun i hi=>if_neg hi;have hs: ∀i,RSame (φ' i) (φ i):=fun i=>by
  by_cases he:i=k
  ·subst he;rw [pk];exact ⟨rfl,rfl,rfl⟩
  ·rw [po i he];exact .of rfl
 have hatk: ∀ {x},At (φ' k) x->At (φ k) x\/ ∃j∈ids,∃z,At (φ j) z/\z.block=x.block:=fun {x} hx=>by
  rw [pk] at hx;rcases hx with hx|hx
  ·exact .inl (.inl hx)
  ·rcases X4.1 hx with hx|hx
   ·exact .inl (.inr hx)
   ·obtain ⟨j,hj,hx⟩:=V8.1 hx;exact .inr ⟨j,hj,zn2.1 hx⟩
 have get: ∀(i:Nat) (f:Ent T.U),(zu6 T (H.set k (.drow e d fe (xs.set a y) none)) ids)[i]?=some f->f.live=true->(i=k/\f=.drow e d fe (xs.set a y) none)\/(i∉ids/\i≠k/\H[i]?=some f):=by
  intro i f hf hl;obtain ⟨g1,g2⟩:=jp2 hf hl;by_cases he:i=k
  ·subst he;rw [Q0 hkl] at g2;exact .inl ⟨rfl,(X5 g2).symm⟩
  ·rw [Z5 (Ne.symm he)] at g2;exact .inr ⟨g1,he,g2⟩
 have hlen:(zu6 T (H.set k (.drow e d fe (xs.set a y) none)) ids).length=H.length:=by rw [yw6];simp
 have hcl: ∀ {f:Ent T.U},f=.gone\/f.live=true:=fun {f}=>by cases f<;>first|exact .inl rfl|exact .inr rfl
 have cells: ∀j c v,((xs.set a y).flatMap (T.cells d))[j]?=some c->vals[j]?=some v->(∃f,j=a*T.size d+f/\f<T.size d/\l[f]?=some c/\vs[f]?=some v)\/((xs.flatMap (T.cells d))[j]?=some c/\ ¬ju8 T (T.size d) (some (a,aS)) j):=by
  intro j c v h1 h2;rw [vi1 (T.len d) ha] at h1;split at h1
  ·rename_i hj;rw [hy] at h1;refine .inl ⟨j-a*T.size d,by omega,by omega,h1,?_⟩;rw [hvs _ (by omega),show a*T.size d+(j-a*T.size d)=j by omega];exact h2
  ·rename_i hj;exact .inr ⟨h1,hj⟩
 refine ⟨φ',hs,h.ghost (by omega) (fun i _=>hs i) (fun i e1 t ys _ hx=>?_) (fun i f hf hl x hx=>?_) (fun i f hf=>?_) (fun i f hf j hj=>?_) (fun i j f f' hf hf' hl hl' hij x z hx hz=>?_)⟩
 ·rcases get i _ hx rfl with ⟨_,q⟩|⟨_,_,q⟩
  ·cases q
  ·exact q
 ·rcases get i f hf hl with ⟨rfl,rfl⟩|⟨_,q2,q3⟩
  ·rcases hatk hx with hx|⟨j,hj,z,hz,he⟩
   ·exact ⟨i,_,x,hk,rfl,hx,rfl⟩
   ·obtain ⟨_,_,_,q⟩:=k4 j hj;exact ⟨j,_,z,q,rfl,hz,he⟩
  ·rw [po i q2] at hx;exact ⟨i,f,x,q3,hl,hx,rfl⟩
 ·rcases hcl (f:=f) with rfl|hl
  ·trivial
  rcases get i f hf hl with ⟨rfl,rfl⟩|⟨_,q2,q3⟩
  ·refine ⟨B,vals,by rw [pk];exact o1,by rw [pk,Q1];exact o2,o3,fun z hz=>o4 z (by rw [pk] at hz;exact hz),fun j c v h1 h2 _=>?_,fun j j' c c' v v' hj h1 h2 _ h4 h5 _ b hb hb'=>?_,fun a0 cs0 hq=>by cases hq⟩
   ·rcases cells j c v h1 h2 with ⟨f,rfl,hf,u1,u2⟩|⟨u1,u2⟩
    ·rw [show (a*T.size d+f)%T.size d=f by rw [Nat.mul_comm,Nat.mul_add_mod,T6 hf]];refine ⟨k2 f c v u1 u2,fun b hb=>?_⟩;obtain ⟨j,ad,g1,g2,g3,rfl⟩:=k3 f c v b u1 u2 hb;obtain ⟨_,_,_,q⟩:=k4 j g2;rw [pk];refine ⟨X4.2 (.inr (V8.2 ⟨j,g2,zn2.2 ⟨ad,.inl g3,rfl⟩⟩)),fun z hz=>?_⟩;exact h.apart i j _ _ hk q rfl rfl (fun e=>hki (e▸g2)) z ad (.inl hz) (.inl g3)
    ·obtain ⟨g1,g2⟩:=o5.cl j c v u1 h2 u2;refine ⟨g1,fun b hb=>?_⟩;rw [pk];exact ⟨X4.2 (.inl (g2 b hb).1),(g2 b hb).2⟩
   ·have hmod: ∀ {f:Nat},f<T.size d->(a*T.size d+f)%T.size d=f:=fun {f} hf=>by rw [Nat.mul_comm,Nat.mul_add_mod,T6 hf]
    have mixed: ∀ {f:Nat} {c:Cell T.U} {v:Value} {j':Nat} {c':Cell T.U} {v':Value},l[f]?=some c->vs[f]?=some v->(xs.flatMap (T.cells d))[j']?=some c'->vals[j']?=some v'-> ¬ju8 T (T.size d) (some (a,aS)) j'->b∈zq4 T (fe.getD f 0) c v->b∈zq4 T (fe.getD (j'%T.size d) 0) c' v'->False:=by
     intro f c v j' c' v' u1 u2 u3 u4 u5 u6 u7;obtain ⟨j,ad,g1,g2,g3,rfl⟩:=k3 f c v b u1 u2 u6;obtain ⟨_,_,_,q⟩:=k4 j g2;have:=((o5.cl j' c' v' u3 u4 u5).2 _ u7).1;exact h.apart i j _ _ hk q rfl rfl (fun e=>hki (e▸g2)) ⟨ad.block,0,none⟩ ad (.inr this) (.inl g3) rfl
    rcases cells j c v h1 h2 with ⟨f,rfl,hf,u1,u2⟩|⟨u1,u2⟩<;>rcases cells j' c' v' h4 h5 with ⟨f',rfl,hf',u1',u2'⟩|⟨u1',u2'⟩
    ·rw [hmod hf] at hb;rw [hmod hf'] at hb';obtain ⟨j,ad,g1,g2,g3,rfl⟩:=k3 f c v b u1 u2 hb;obtain ⟨j',ad',g1',g2',g3',g4'⟩:=k3 f' c' v' _ u1' u2' hb';obtain ⟨_,_,_,q⟩:=k4 j g2;obtain ⟨_,_,_,q'⟩:=k4 j' g2';by_cases hjj:j=j'
     ·subst hjj;exact hj (by rw [k6 hn f f' j g1 g1'])
     ·exact h.apart j j' _ _ q q' rfl rfl hjj ad ad' (.inl g3) (.inl g3') g4'.symm
    ·rw [hmod hf] at hb;exact mixed u1 u2 u1' h5 u2' hb hb'
    ·rw [hmod hf'] at hb';exact mixed u1' u2' u1 h2 u2 hb' hb
    ·exact o5.ap j j' c c' v v' hj u1 h2 u2 u1' h5 u2' b hb hb'
  ·exact (h.ents i f q3).phiE (po i q2) fun j _=>hs j
 ·rw [hlen];rcases hcl (f:=f) with rfl|hl
  ·cases hj
  rcases get i f hf hl with ⟨rfl,rfl⟩|⟨_,q2,q3⟩
  ·cases hj
  ·exact h.eids i f q3 j hj
 ·have mixed: ∀ {i f x z},i∉ids->i≠k->H[i]?=some f->f.live=true->At (φ' k) x->At (φ' i) z->x.block≠z.block:=by
   intro i f x z u1 u2 u3 u4 u5 u6;rw [po i u2] at u6;rcases hatk u5 with hx|⟨j,hj,z',hz',he⟩
   ·exact h.apart k i _ _ hk u3 rfl u4 (Ne.symm u2) x z hx u6
   ·obtain ⟨_,_,_,q⟩:=k4 j hj;rw [<-he];exact h.apart j i _ _ q u3 rfl u4 (fun e=>u1 (e▸hj)) z' z hz' u6
  rcases get i f hf hl with ⟨rfl,rfl⟩|⟨q1,q2,q3⟩<;>rcases get j f' hf' hl' with ⟨rfl,rfl⟩|⟨u1,u2,u3⟩
  ·exact absurd rfl hij
  ·exact mixed u1 u2 u3 hl' hx hz
  ·exact (mixed q1 q2 q3 hl hz hx).symm
  ·rw [po i q2] at hx;rw [po j u2] at hz;exact h.apart i j _ _ q3 u3 hl hl' hij x z hx hz
def js5 {α:Type} {x:Int} {y:α}: ∀ {m:List (Int×α)},x∈m.map Prod.fst->(k8 m x y).map Prod.fst=m.map Prod.fst
 | [],h=>by simp at h
 |(z,a)::r,h=>by
  unfold k8;split
  ·rename_i e;subst e;rfl
  ·rename_i hne;simp only [U1,Z0,hne,false_or] at h;rw [U1,U1,js5 h]
def zp4 {α:Type} {x:Int} {y:α}: ∀ {m:List (Int×α)} {p:Nat} {z:Int} {v:α},x∈m.map Prod.fst->(m.map Prod.fst).Nodup->(k8 m x y)[p]?=some (z,v)-> ∃u,m[p]?=some (z,u)/\(z=x->v=y)/\(z≠x->v=u)
 | [],_,_,_,h,_,_=>by simp at h
 |(q,a)::r,p,z,v,h,hn,hp=>by
  rw [U1,List.nodup_cons] at hn;unfold k8 at hp;split at hp
  ·rename_i e;subst e;cases p with
   |zero=>simp at hp;exact ⟨a,by simp [hp.1],fun _=>hp.2.symm,fun hz=>absurd hp.1.symm hz⟩
   |succ p=>
    simp at hp;exact ⟨v,by simpa using hp,fun e=>absurd (U3.2 ⟨(z,v),X6 hp,rfl⟩) (e▸hn.1),fun _=>rfl⟩
  ·rename_i hne;simp only [U1,Z0,hne,false_or] at h;cases p with
   |zero=>simp at hp;exact ⟨a,by simp [hp.1],fun e=>absurd (hp.1.trans e).symm hne,fun _=>hp.2.symm⟩
   |succ p=>
    obtain ⟨u,h1,h2⟩:=zp4 h hn.2 (by simpa using hp);exact ⟨u,by simpa using h1,h2⟩
def vq1 {aS:List (AV T.U)}:zw6 T aS->ka6 aS:=by
 induction aS with
 |nil=>intro _ t n xs h;cases h
 |cons a r ih=>
  rintro ⟨h1,h2⟩ t n xs h
  rcases Z0.1 h with rfl|h
  ·exact h1
  ·exact ih h2 t n xs h
def Sim.closeP (h:Sim T w0 S0 ⟨F,H⟩ F' w S φ) {k:Nat} {kd:IntKind} {be:TypeId} {d:Nat} {m:List (Int×T.U d)} {x:Int} {j:Nat} {cs:List (AV T.U)} {y:T.U d} (hk:H[k]?=some (.pmap kd be d m (some (x,j)))) (hj:H[j]?=some (.blk be cs)) (hkj:j≠k) (hy:T.rb d cs=some y):
  ∃φ',(∀i,RSame (φ' i) (φ i))/\Sim T w0 S0 ⟨F,(H.set k (.pmap kd be d (k8 m x y) none)).set j .gone⟩ F' w S φ':=by
 obtain ⟨g,l,c,bs,a1,a2,a3,a4,a5⟩:=h.ents k _ hk;obtain ⟨b,cb,b1,b2,b3,b4⟩:=h.ents j _ hj;have hkl:=(X2.1 hk).1;have hin:=a4.opn x j rfl;have hbl:T.bl d y=cs:=T.rbl d cs y hy (vq1 b4.2)
 let φ':Nat->RA:=fun i=>if i=k then ⟨(φ k).ad,(φ k).n,(φ k).cap,(φ k).xs++(φ j).all⟩ else φ i
 have pk:φ' k=⟨(φ k).ad,(φ k).n,(φ k).cap,(φ k).xs++(φ j).all⟩:=if_pos rfl;have po: ∀i,i≠k->φ' i=φ i:=fun i hi=>if_neg hi;have hs: ∀i,RSame (φ' i) (φ i):=fun i=>by
  by_cases he:i=k
  ·subst he;rw [pk];exact ⟨rfl,rfl,rfl⟩
  ·rw [po i he];exact .of rfl
 have hatk: ∀ {x},At (φ' k) x->At (φ k) x\/ ∃z,At (φ j) z/\z.block=x.block:=fun {x} hx=>by
  rw [pk] at hx;rcases hx with hx|hx
  ·exact .inl (.inl hx)
  ·rcases X4.1 hx with hx|hx
   ·exact .inl (.inr hx)
   ·exact .inr (zn2.1 hx)
 have get: ∀(i:Nat) (f:Ent T.U),((H.set k (.pmap kd be d (k8 m x y) none)).set j .gone)[i]?=some f->f.live=true->(i=k/\f=.pmap kd be d (k8 m x y) none)\/(i≠j/\i≠k/\H[i]?=some f):=by
  intro i f hf hl;obtain ⟨g1,g2⟩:=zm1 hf hl;by_cases he:i=k
  ·subst he;rw [Q0 hkl] at g2;exact .inl ⟨rfl,(X5 g2).symm⟩
  ·rw [Z5 (Ne.symm he)] at g2;exact .inr ⟨g1,he,g2⟩
 have hlen:((H.set k (.pmap kd be d (k8 m x y) none)).set j .gone).length=H.length:=by simp
 have hcl: ∀ {f:Ent T.U},f=.gone\/f.live=true:=fun {f}=>by cases f<;>first|exact .inl rfl|exact .inr rfl
 have hbk: ∀ {a},(φ k).ad=some a->a.block≠b:=fun {a} ha=>h.apart k j _ _ hk hj rfl rfl (Ne.symm hkj) a ⟨b,0,none⟩ (.inl ha) (.inl b1);refine ⟨φ',hs,h.ghost (by simp) (fun i _=>hs i) (fun i e1 t ys _ hx=>?_) (fun i f hf hl z hz=>?_) (fun i f hf=>?_) (fun i f hf q hq=>?_) (fun i i' f f' hf hf' hl hl' hne z z' hz hz'=>?_)⟩
 ·rcases get i _ hx rfl with ⟨_,q⟩|⟨_,_,q⟩
  ·cases q
  ·exact q
 ·rcases get i f hf hl with ⟨rfl,rfl⟩|⟨_,q2,q3⟩
  ·rcases hatk hz with hz|⟨z',hz',he⟩
   ·exact ⟨i,_,z,hk,rfl,hz,rfl⟩
   ·exact ⟨j,_,z',hj,rfl,hz',he⟩
  ·rw [po i q2] at hz;exact ⟨i,f,z,q3,hl,hz,rfl⟩
 ·rcases hcl (f:=f) with rfl|hl
  ·trivial
  rcases get i f hf hl with ⟨rfl,rfl⟩|⟨_,q2,q3⟩
  ·refine ⟨g,l,c,bs,by rw [pk];exact a1,a2,a3,?_,a5⟩;have hks:=js5 (y:=y) hin;have hls:(k8 m x y).length=m.length:=by have:=congrArg List.length hks;simpa using this
   have jb: ∀ {p:Nat} {u:T.U d} {bp:Nat},m[p]?=some (x,u)->bs[p]?=some bp->bp=b:=fun {p u bp} h1 h2=>by
    obtain ⟨e,he⟩: ∃e,l.toList[p]?=some e:=⟨l.toList[p]'(by rw [<-a4.len];exact (X2.1 h1).1),Y0 _⟩;have:=(a4.at_ p x u e bp h1 he h2).2.2.1 j (if_pos rfl);rw [b1] at this;simp at this;exact this.symm
   have ne_op: ∀ {z:Int},z≠x->jl4 (some (x,j)) z=none:=fun {z} hz=>if_neg (Ne.symm hz);refine ⟨hls.trans a4.len,hls.trans a4.lenb,by rw [hks];exact a4.nd,fun p z v e bp h1 h2 h3=>?_,fun p p' z z' v v' bp hp h1 h2 _ _ h3 h4=>?_,fun z i hz=>by cases hz⟩
   ·obtain ⟨u,u1,u2,u3⟩:=zp4 hin a4.nd h1;obtain ⟨k1,k2,k3,k4⟩:=a4.at_ p z u e bp u1 h2 h3;refine ⟨k1,k2,fun i hi=>(by cases hi),fun _=>?_⟩;rw [pk];by_cases hzx:z=x
    ·subst hzx;obtain rfl:=jb u1 h3;refine ⟨X4.2 (.inr (zn2.2 ⟨_,.inl b1,rfl⟩)),fun a ha=>hbk ha,?_⟩;rw [u2 rfl];exact PB.renS T ⟨cb,b2,by rw [hbl];exact b4⟩
    ·obtain ⟨v1,v2,v3⟩:=k4 (ne_op hzx);rw [u3 hzx];exact ⟨X4.2 (.inl v1),v2,v3.renS T⟩
   ·obtain ⟨u,u1,_,_⟩:=zp4 hin a4.nd h1;obtain ⟨u',u1',_,_⟩:=zp4 hin a4.nd h2;have off: ∀ {q:Nat} {z:Int} {u:T.U d} {bq:Nat},m[q]?=some (z,u)->z≠x->bs[q]?=some bq->bq≠b:=fun {q z u bq} q1 q2 q3=>by
     obtain ⟨e,he⟩: ∃e,l.toList[q]?=some e:=⟨l.toList[q]'(by rw [<-a4.len];exact (X2.1 q1).1),Y0 _⟩;have:=((a4.at_ q z u e bq q1 he q3).2.2.2 (ne_op q2)).1;exact h.apart i j _ _ hk hj rfl rfl (Ne.symm hkj) ⟨bq,0,none⟩ ⟨b,0,none⟩ (.inr this) (.inl b1)
    by_cases e1:z=x<;>by_cases e2:z'=x
    ·subst e1;subst e2;have h5:=(X2.1 u1).1;have h6:=(X2.1 u1').1;refine hp ((List.getElem_inj (h₀:=by simpa using h5) (h₁:=by simpa using h6) a4.nd).1 ?_);simp [(X2.1 u1).2,(X2.1 u1').2]
    ·subst e1;exact off u1' e2 h4 (jb u1 h3)
    ·subst e2;exact off u1 e1 h3 (jb u1' h4)
    ·exact a4.ap p p' z z' u u' bp hp u1 u1' (ne_op e1) (ne_op e2) h3 h4
  ·exact (h.ents i f q3).phiE (po i q2) fun j _=>hs j
 ·rw [hlen];rcases hcl (f:=f) with rfl|hl
  ·cases hq
  rcases get i f hf hl with ⟨rfl,rfl⟩|⟨_,q2,q3⟩
  ·cases hq
  ·exact h.eids i f q3 q hq
 ·have mixed: ∀ {i:Nat} {f:Ent T.U} {x z:Addr},i≠j->i≠k->H[i]?=some f->f.live=true->At (φ' k) x->At (φ' i) z->x.block≠z.block:=by
   intro i f x z u1 u2 u3 u4 u5 u6;rw [po i u2] at u6;rcases hatk u5 with hx|⟨z',hz',he⟩
   ·exact h.apart k i _ _ hk u3 rfl u4 (Ne.symm u2) x z hx u6
   ·rw [<-he];exact h.apart j i _ _ hj u3 rfl u4 (Ne.symm u1) z' z hz' u6
  rcases get i f hf hl with ⟨rfl,rfl⟩|⟨q1,q2,q3⟩<;>rcases get i' f' hf' hl' with ⟨rfl,rfl⟩|⟨u1,u2,u3⟩
  ·exact absurd rfl hne
  ·exact mixed u1 u2 u3 hl' hz hz'
  ·exact (mixed q1 q2 q3 hl hz' hz).symm
  ·rw [po i q2] at hz;rw [po i' u2] at hz';exact h.apart i i' _ _ q3 u3 hl hl' hne z z' hz hz'
def yy2 {k:Nat} (h:Sim T w0 S0 ⟨F,H⟩ F' w S φ): ∃φ',Sim T w0 S0 ⟨F,zm9 T H k⟩ F' w S φ'/\(∀i,RSame (φ' i) (φ i))/\(zm9 T H k).length=H.length:=by
 unfold zm9;split
 ·rename_i hk;split
  ·rename_i hc;split
   ·rename_i hn hp;obtain ⟨φ',h1,h2⟩:=h.closeD hk hc hn hp;exact ⟨φ',h2,h1,by rw [yw6];simp⟩
   ·exact ⟨φ,h,fun _=>.of rfl,rfl⟩
  ·exact ⟨φ,h,fun _=>.of rfl,rfl⟩
 ·rename_i hk;split
  ·rename_i hj;split
   ·rename_i hb hy;rw [X3,V4] at hb;have:=X1 hb.1;subst this;obtain ⟨φ',h1,h2⟩:=h.closeP hk hj (fun e=>by subst e;simp at hb) hy;exact ⟨φ',h2,h1,by simp⟩
   ·exact ⟨φ,h,fun _=>.of rfl,rfl⟩
  ·exact ⟨φ,h,fun _=>.of rfl,rfl⟩
 ·exact ⟨φ,h,fun _=>.of rfl,rfl⟩
def zy8 {k:Nat} (h:zc0 T w0 S0 ⟨F,H⟩ F' w):zc0 T w0 S0 ⟨F,zm9 T H k⟩ F' w:=by
 obtain ⟨S,φ,h⟩:=h;obtain ⟨φ',h',_⟩:=yy2 (k:=k) h;exact ⟨S,φ',h'⟩
def zu3: ∀(l:List Nat) {H:List (Ent T.U)},zc0 T w0 S0 ⟨F,H⟩ F' w->zc0 T w0 S0 ⟨F,closeL T l H⟩ F' w
 | [],H,h=>h
 |k::r,H,h=>zu3 r (zy8 h)
def VRL.phiS {aS:List (AV T.U)} {vs:List Value} (h:VRL T w S φ aS vs) (hi: ∀i∈j8 aS,RSame (φ' i) (φ i)):VRL T w S φ' aS vs:=by
 have:=VRL.renS T (ρ:=id) (φ':=φ') hi h;rwa [zq2] at this
def Sim.closeL: ∀(l:List Nat) {H:List (Ent T.U)} {φ:Nat->RA},Sim T w0 S0 ⟨F,H⟩ F' w S φ-> ∃φ',Sim T w0 S0 ⟨F,closeL T l H⟩ F' w S φ'/\(∀i,RSame (φ' i) (φ i))/\(Go.X.closeL T l H).length=H.length
 | [],H,φ,h=>⟨φ,h,fun _=>.of rfl,rfl⟩
 |k::r,H,φ,h=>by
  obtain ⟨φ1,h1,h2,h3⟩:=yy2 (k:=k) h;obtain ⟨φ2,h4,h5,h6⟩:=Sim.closeL r h1;exact ⟨φ2,h4,fun i=>(h5 i).trans (h2 i),h6.trans h3⟩
def DC.frz {e:TypeId} {c:Cell T.U} {v:Value} (h:DC T w S e c v) (hS: ∀b∈S',b∈S) (hb: ∀b∈zq4 T e c v,b∈S/\b∉S'):yj1 T w S' c v:=by
 obtain ⟨t,x⟩:=c;cases t with
 |list t=>
  cases hez:Nat.beq e 0 with
  |true=>exact CR.sub0 (h.1 (X1 hez)) hS
  |false=>
  obtain ⟨B,ad,cap,vals,rfl,h1,h2,h3⟩:=h.2 (kv8 hez);have hb': ∀a,ad=some a->a.block∈S/\a.block∉S':=fun a ha=>hb _ (by subst ha;simp [zq4,hez,zb2]);have:=jm0 (T:=T) (w:=w) (S:=S) (S':=S') (φ:=fun _=>⟨ad,List.length (α:=den T.U t) x,cap,[]⟩) (i:=0) (e:=e) (t:=t) (xs:=x) ⟨B,vals,h1,rfl,h2,h3,fun a ha=>(hb' a ha).1⟩ hS fun a ha=>(hb' a ha).2;exact this
 |_=>exact CR.sub0 h hS
def Sim.seal1 (h:Sim T w0 S0 ⟨F,H⟩ F' w S φ) (hF: ∀i a,F.get T i=some a->zh1 a=true) {k:Nat} {e:TypeId} {d:Nat} {fe:List TypeId} {xs:List (T.U d)} (hk:H[k]?=some (.drow e d fe xs none)):
  ∃S' φ',Sim T w0 S0 ⟨F,H.set k (.row e (.user d) xs)⟩ F' w S' φ':=by
 obtain ⟨B,vals,o1,o2,o3,o4,o5⟩:=h.ents k _ hk;have hkl:=(X2.1 hk).1
 let S':=S.filter fun b=> !(φ k).xs.contains b||(zb2 (φ k).ad).contains b
 let φ':Nat->RA:=fun i=>if i=k then ⟨(φ k).ad,(φ k).n,(φ k).cap,[]⟩ else φ i
 have pk:φ' k=⟨(φ k).ad,(φ k).n,(φ k).cap,[]⟩:=if_pos rfl;have po: ∀i,i≠k->φ' i=φ i:=fun i hi=>if_neg hi;have hs: ∀i,RSame (φ' i) (φ i):=fun i=>by
  by_cases he:i=k
  ·subst he;rw [pk];exact ⟨rfl,rfl,rfl⟩
  ·rw [po i he];exact .of rfl
 have hsub: ∀b∈S',b∈S:=fun b hb=>(W3.1 hb).1;have hin: ∀ {b},b∈S->(b∉(φ k).xs\/ ∃a,(φ k).ad=some a/\a.block=b)->b∈S':=fun {b} hb hor=>by
  refine W3.2 ⟨hb,?_⟩;rcases hor with h1|⟨a,h1,h2⟩
  ·have:(φ k).xs.contains b=false:=by
    cases hq:(φ k).xs.contains b with
    |false=>rfl
    |true=>exact absurd (N9.1 hq) h1
   rw [this];rfl
  ·have:(zb2 (φ k).ad).contains b=true:=N9.2 (by rw [h1,<-h2];simp [zb2]);rw [this,Bool.or_true]
 have hroot: ∀ {b},b∈S'->b∈(φ k).xs-> ∃a,(φ k).ad=some a/\a.block=b:=fun {b} hb hx=>by
  have:=(W3.1 hb).2;rw [N9.2 hx,U6,N8] at this;have:=N9.1 this;unfold zb2 at this;split at this
  ·rename_i a ha;exact ⟨a,ha,(Q5.1 this).symm⟩
  ·cases this
 have get: ∀(i:Nat) (f:Ent T.U),(H.set k (.row e (.user d) xs))[i]?=some f->(i=k/\f=.row e (.user d) xs)\/(i≠k/\H[i]?=some f):=by
  intro i f hf;by_cases he:i=k
  ·subst he;rw [Q0 hkl] at hf;exact .inl ⟨rfl,(X5 hf).symm⟩
  ·rw [Z5 (Ne.symm he)] at hf;exact .inr ⟨he,hf⟩
 have hoff: ∀ {i f a},i≠k->H[i]?=some f->f.live=true->At (φ i) a->a.block∈S':=fun {i f a} hi hf hl ha=>
  hin (zd5 h hf hl ha) (.inl fun hx=>h.apart k i _ f hk hf rfl hl (Ne.symm hi) ⟨a.block,0,none⟩ a (.inr hx) ha rfl)
 have hatk: ∀ {a},At (φ' k) a->(φ k).ad=some a:=fun {a} ha=>by
  rw [pk] at ha;rcases ha with ha|ha
  ·exact ha
  ·cases ha
 refine ⟨S',φ',fun i a ha=>?_,fun i a ha=>⟨fun j hj=>by simpa using (h.ids i a ha).1 j hj,?_⟩,h.chg,fun b hb=>h.own b (hsub b hb),fun b hb q1 q2=>?_,fun i f hf hl a ha=>?_,fun q r hq=>⟨(hs q).trans (h.pins q r hq).1,by simpa using (h.pins q r hq).2⟩,fun i f hf=>?_,fun i f hf j hj=>?_,fun i j f f' hf hf' hl hl' hij a b ha hb=>?_⟩
 ·obtain ⟨v,h1,h2⟩:=h.fr i a ha;exact ⟨v,h1,(h2.chg T (Chg.refl [] w) (by simp) fun b hb=>.inl (hsub b hb)).phiS fun j _=>hs j⟩
 ·have:=hF i a ha;cases a<;>first|trivial|cases this
 ·refine hin (h.ex b hb q1 q2) (.inl fun hx=>?_);rcases (h.lives k _ hk rfl ⟨b,0,none⟩ (.inr hx)).2 with hm|hm
  ·exact q1 hm
  ·have hm:w0.heap.size<=b:=hm;omega
 ·rcases get i f hf with ⟨rfl,rfl⟩|⟨q1,q2⟩
  ·have ha:=hatk ha;exact ⟨hin (o4 a ha) (.inr ⟨a,ha,rfl⟩),(h.lives i _ hk rfl a (.inl ha)).2⟩
  ·rw [po i q1] at ha;exact ⟨hoff q1 q2 hl ha,(h.lives i f q2 hl a ha).2⟩
 ·rcases get i f hf with ⟨rfl,rfl⟩|⟨q1,q2⟩
  ·refine ⟨B,vals,by rw [pk];exact o1,by rw [pk];exact o2,o3,⟨?_,fun j c v h1 h2=>?_⟩,fun a ha=>?_⟩
   ·rw [o1.len,o2];exact u9 (f:=za3 T (.user d)) (sz:=T.size d) (fun y=>T.len d y) xs
   ·obtain ⟨g1,g2⟩:=o5.cl j c v h1 h2 (fun q=>q);refine g1.frz hsub fun b hb=>⟨zd5 h hk rfl (a:=⟨b,0,none⟩) (.inr (g2 b hb).1),fun hm=>?_⟩;obtain ⟨a,ha,hab⟩:=hroot hm (g2 b hb).1;exact (g2 b hb).2 a ha hab
   ·rw [pk] at ha;exact hin (o4 a ha) (.inr ⟨a,ha,rfl⟩)
  ·exact ((h.ents i f q2).chg T (Chg.refl [] w) (by simp) (fun b hb=>.inl (hsub b hb)) fun hl a ha=>⟨by simp,hoff q1 q2 hl ha⟩).phiE (po i q1) fun j _=>hs j
 ·rw [Q1];rcases get i f hf with ⟨rfl,rfl⟩|⟨q1,q2⟩
  ·cases hj
  ·exact h.eids i f q2 j hj
 ·rcases get i f hf with ⟨rfl,rfl⟩|⟨q1,q2⟩<;>rcases get j f' hf' with ⟨rfl,rfl⟩|⟨u1,u2⟩
  ·exact absurd rfl hij
  ·rw [po j u1] at hb;exact h.apart i j _ f' hk u2 rfl hl' hij a b (.inl (hatk ha)) hb
  ·rw [po i q1] at ha;exact h.apart i j f _ q2 hk hl rfl hij a b ha (.inl (hatk hb))
  ·rw [po i q1] at ha;rw [po j u1] at hb;exact h.apart i j f f' q2 u2 hl hl' hij a b ha hb
def vl2 (F:AF T):Bool:=F.all fun p=>zh1 p.2
def je8: ∀ {F:AF T},vl2 F=true-> ∀i a,F.get T i=some a->zh1 a=true
 | [],_,i,a,h=>by simp [AF.get] at h
 |(j,b)::r,hF,i,a,h=>by
  unfold vl2 at hF;rw [J1,X3] at hF;simp only [AF.get] at h;split at h
  ·simp only [X0] at h;subst h;exact hF.1
  ·exact je8 (F:=r) hF.2 i a h
def vz1 (H:List (Ent T.U)) (k:Nat):List (Ent T.U):=match H[k]? with|some (.drow e d _ xs none)=>H.set k (.row e (.user d) xs)|_=>H
def kc2:List Nat->List (Ent T.U)->List (Ent T.U)
 | [],H=>H
 |k::r,H=>kc2 r (vz1 H k)
def yz6 (hF: ∀i a,F.get T i=some a->zh1 a=true): ∀(l:List Nat) {H:List (Ent T.U)},zc0 T w0 S0 ⟨F,H⟩ F' w->zc0 T w0 S0 ⟨F,kc2 l H⟩ F' w
 | [],H,h=>h
 |k::r,H,h=>by
  refine yz6 hF r ?_;unfold vz1;split
  ·rename_i hk;obtain ⟨S,φ,h⟩:=h;obtain ⟨S',φ',h'⟩:=h.seal1 hF hk;exact ⟨S',φ',h'⟩
  ·exact h
def dzS:Nat->St T->St T
 |0,st=>st
 |1,st=>⟨st.F,closeL T (List.range st.H.length) st.H⟩
 |_,st=>match vl2 st.F with|true=>⟨st.F,kc2 (List.range st.H.length) (closeL T (List.range st.H.length) st.H)⟩|false=>st
def jo7: ∀(m:Nat) {st:St T},zc0 T w0 S0 st F' w->zc0 T w0 S0 (dzS m st) F' w
 |0,_,h=>h
 |1,⟨F,H⟩,h=>zu3 _ h
 |_+2,⟨F,H⟩,h=>by
  cases hF:vl2 F with
  |true=>simp only [dzS,hF];exact yz6 (je8 hF) _ (zu3 _ h)
  |false=>simp only [dzS,hF];exact h
end
end Go.X
namespace Go.X
open Go.RowKit Go.V
section
variable {T:Tab} (P:Program) (C:Ctx T) {R:Type}
def qd6:AV T.U->Bool| .cell c=>c.t.scal|_=>false
def vy2:AV T.U->Bool| .agg cs=>cs.all qd6|a=>qd6 a
def yo3 (t:TypeId) (H:List (Ent T.U)) (k sz a c:Nat) (e:TypeId) (d:Nat) (fe:List TypeId) (xs:List (T.U d)) (op:Option (Nat×List (AV T.U))) (K:AV T.U->List (Ent T.U)->Option R):Option R:=
 match Nat.beq sz (T.size d) with
 |false=>none
 |true=>match op with
  |none=>match zs2 T P t ((elD T d xs a).map .cell) c with
   |some v=>match vy2 v with
    |true=>if a<xs.length then K v H else none
    |false=>match zs2 T P t (zc5 T fe (elD T d xs a) H.length).1 c with
     |some u=>(match zh1 u with|true=>if a<xs.length then K u (yg6 T H k e d fe xs a) else none|false=>none)
     |none=>none
   |none=>none
  |some (b,cs)=>match zs2 T P t cs c with
   |some u=>(match zh1 u with|true=>if a=b then K u H else none|false=>none)
   |none=>none
def yc8 (t:TypeId) (H:List (Ent T.U)) (k sz a c:Nat) (e:TypeId) (d:Nat) (fe:List TypeId) (xs:List (T.U d)) (op:Option (Nat×List (AV T.U))) (v:AV T.U) (K:List (Ent T.U)->Option R):Option R:=
 match Nat.beq sz (T.size d)&&jk6 T P t c (T.size d) v with
 |false=>none
 |true=>match op with
  |none=>if a<xs.length then K ((yg6 T H k e d fe xs a).set k (.drow e d fe xs (some (a,yg8 T (zc5 T fe (elD T d xs a) H.length).1 c (zd4 T v))))) else none
  |some (b,cs)=>if a=b then K (H.set k (.drow e d fe xs (some (b,yg8 T cs c (zd4 T v))))) else none
variable (T) in
def kc5 (t:Ty) (v:Value):Option (Cell T.U):=
 match t,v with
 | .list t0,.slice none 0 0=>some ⟨.list t0,[]⟩
 |_,v=>match jy2 T (yo6 T v) with|some c=>(match c.t.scal with|true=>some c|false=>none)|none=>none
variable (T) in
def yq8:List Ty->List Value->Option (List (Cell T.U))
 | [],[]=>some []
 |t::ts,v::vs=>match kc5 T t v,yq8 ts vs with|some c,some l=>some (c::l)|_,_=>none
 |_,_=>none
def jn1 (d:Nat) (fe:List TypeId) (t:TypeId) (H:List (Ent T.U)) (l c:Int) (K:AV T.U->List (Ent T.U)->Option R):Option R:=
 match zl5 P t with
 |some (e,sz,by_,zc)=>match Nat.beq sz (T.size d),yq8 T (qr9 T d) zc.toList with
  |true,some z=>match T.pack d z with
   |some x0=>if 0<=l/\l<=c/\by_*c.toNat<=281474976710656/\c<=9223372036854775807 then K (.own H.length) (H++ [.drow e d fe (List.replicate l.toNat x0) none]) else none
   |none=>none
  |_,_=>none
 |none=>none
def gc5 (n:Nat) (j:Int) (x:Nat->Option R):Option R:=if 0<=j/\j<((n:Nat):Int) then x j.toNat else none
def zm5 (o:Oper) (st:St T) (K:St T->Option R):Option (Option R):=
 match o.op with
 | .makeSlice t x y=>match C.dr t with
  |some (d,fe)=>some (match aev T st.F x,aev T st.F y with|some (.cell ⟨.int _,l⟩),some (.cell ⟨.int _,c⟩)=>jn1 P d fe t st.H l c (fun a H=>K ⟨za1 T st.F o.dst a,H⟩)|_,_=>none)
  |none=>none
 | .indexAddr t x y=>match aev T st.F x with
  |some (.own k)=>match st.H[k]? with
   |some (.drow _ d _ xs _)=>some (match aev T st.F y,yq4 T P t (.user d) with
    |some (.cell ⟨.int _,j⟩),true=>gc5 xs.length j fun a=>K ⟨za1 T st.F o.dst (.eptr k (T.size d) a 0),st.H⟩
    |_,_=>none)
   |_=>none
  |_=>none
 | .load t x=>match aev T st.F x with
  |some (.eptr k sz a c)=>match st.H[k]? with
   |some (.drow e d fe xs op)=>some (yo3 P t st.H k sz a c e d fe xs op fun v H=>K ⟨za1 T st.F o.dst v,H⟩)
   |_=>none
  |_=>none
 | .store t x y=>match aev T st.F x with
  |some (.eptr k sz a c)=>match st.H[k]? with
   |some (.drow e d fe xs op)=>some (match o.dst,aev T st.F y with|none,some v=>yc8 P t st.H k sz a c e d fe xs op v fun H=>K ⟨st.F,H⟩|_,_=>none)
   |_=>none
  |_=>none
 |_=>none
end
section
variable {T:Tab} {P:Program} {C:Ctx T} {w w':World} {S S':List Nat} {φ φ':Nat->RA} {w0:World} {S0:Ow} {F:AF T} {H:List (Ent T.U)} {F':PF}
variable {ops:Array Oper} {Q:Exit->Act->World->Prop} {k n:Nat} {ds:List Deferred} {o:Oper}
def jp6 {R:Type} {r:R} {m:Nat} {j:Int} {x:Nat->Option R} (h:gc5 m j x=some r):(0<=j/\j<((m:Nat):Int))/\x j.toNat=some r:=q7 h
def jq7 {i:Nat} {e0:Ent T.U} (hi:H[i]?=some e0) (e:TypeId) (d:Nat) (fe:List TypeId) (xs:List (T.U d)) (a:Nat):(yg6 T H i e d fe xs a)[i]?=some (.drow e d fe xs (some (a,(zc5 T fe (elD T d xs a) H.length).1))):=by
 have hil:=(X2.1 hi).1;unfold yg6;rw [X8 (by simpa using hil),Q0 hil]
def yr5 (h:Sim T w0 S0 ⟨F,H⟩ F' w S φ) {i:Nat} {e:TypeId} {d:Nat} {fe:List TypeId} {xs:List (T.U d)} {op:Option (Nat×List (AV T.U))} (hi:H[i]?=some (.drow e d fe xs op)) {a:Nat} (ha:a<xs.length):
  ∃g c B vals,(φ i).ad=some ⟨g,0,none⟩/\(φ i).n=xs.length/\Own w B e (T.size d) (φ i).ad xs.length (φ i).cap vals/\Blk w g c e/\(φ i).cap*T.size d<=c.size/\c.toList.take (xs.length*T.size d)=vals/\g∈S/\B<=g/\B<=w.heap.size/\xs.length<=(φ i).cap/\(φ i).cap<=maxLen/\DRel T w S φ (φ i) d fe xs op vals/\
   vals.length=xs.length*T.size d/\a*T.size d+T.size d<=xs.length*T.size d/\Rg w (some ⟨g,0+a*T.size d,none⟩) ((vals.drop (a*T.size d)).take (T.size d)):=by
 obtain ⟨B,vals,h1,h2,h3,h4,h5⟩:=h.ents i _ hi;rw [h2] at h1;rcases h1.cases with ⟨_,hn,_⟩|⟨c,had,hB,hb,hle,hm,hs,ht⟩
 ·omega
 ·refine ⟨bk (φ i).ad,c,B,vals,had,h2,h1,hb,hs,ht,h4 _ had,hB,h3,hle,hm,h5,h1.len,?_,?_⟩
  ·rw [<-Nat.succ_mul];exact Q9 _ ha
  ·have hr:=h1.rg;rw [had] at hr;exact hr.sub (a*T.size d) (T.size d) _ (fun _=>rfl)
def qf4 {Z:Prop} {rd:List Nat} {t:TypeId} {x:Operand} (hd:dec ops k n F'=some o) (hop:o.op=.load t x) {b o0 c:Nat} {cs:List (AV T.U)} {vals:List Value} {a:AV T.U} (hx:ev F' x=some (.pointer (some ⟨b,o0+c,none⟩)))
  (hr: ∀w1,Chg S w w1->Same φ rd w w1->Rg w1 (some ⟨b,o0,none⟩) vals) (hv:VRL T w S φ cs vals) (hl:zs2 T P t cs c=some a)
  (K: ∀v,QR P F' o S φ rd w v->VR T w S φ a v->(∀i∈a.ids,i∈j8 cs)->Z):Z:=by
 obtain ⟨i,d,hi,hu,hc⟩:=jd8 hl;have hok: ∀i∈a.ids,i∈j8 cs:=jh5 hc;have hdl:=zw2 hd hop;rw [j6 hx] at hdl;cases hag:ya1 d with
 |false=>
  rw [hag] at hc;obtain ⟨v,h1,h2⟩:=hv.get T (show cs[c]?=some a from hc);have hs:zj2 P t=true:=by unfold zj2;rw [hu];cases d<;>simp_all [ya1]
  refine K v (QR.load1 hd hdl hs v ?_) h2 hok;exact fun w1 hc hsm=>(hr w1 hc hsm c v h1).2
 |true=>
  rw [hag] at hc;unfold jk3 at hc;simp only at hc;split at hc
  ·rename_i hle;simp only [X0] at hc;subst hc;have hs:zj2 P t=false:=by unfold zj2;rw [hu];cases d<;>simp_all [ya1]
   have hlen:=hv.len T;have hle:=Y1 hle;refine K _ (QR.loadA (ad:=some ⟨b,o0,none⟩) (j:=c) (cs:=vals) (sz:=i.size) hd hr hdl hs (by rw [hu];rfl) (by unfold yt2;rw [hi];rfl) ((vals.drop c).take i.size) (by rw [Y6,Q7];omega) rfl) ⟨_,rfl,?_⟩ hok;simpa using (hv.drop T c).take T i.size
  ·cases hc
def vz6: ∀(aS:List (AV T.U)) (vs:List Value),aS.length=vs.length->(∀(f:Nat) (x:AV T.U),aS[f]?=some x-> ∃v,vs[f]?=some v/\VR T w S φ x v)->VRL T w S φ aS vs
 | [],[],_,_=>trivial
 | [],_::_,h,_=>by simp at h
 |_::_,[],h,_=>by simp at h
 |x::r,v::s,hl,hx=>by
  obtain ⟨v',h1,h2⟩:=hx 0 x rfl;simp only [Y4,X0] at h1;subst h1;exact ⟨h2,vz6 r s (by simpa using hl) fun f z hz=>by simpa using hx (f+1) z (by simpa using hz)⟩
def qf8:List (Cell T.U)->List Value->List (AV T.U)
 |c::r,v::s=>(match c.t.scal with|true=>.cell c|false=>.raw v)::qf8 r s
 |_,_=> []
def qf9: ∀ {cs:List (Cell T.U)} {vs:List Value},cs.length=vs.length->(∀(f:Nat) (c:Cell T.U) (v:Value),cs[f]?=some c->vs[f]?=some v->c.t.scal=true->yj1 T w S c v)->VRL T w S φ (qf8 cs vs) vs
 | [],[],_,_=>trivial
 | [],_::_,h,_=>by simp at h
 |_::_,[],h,_=>by simp at h
 |c::r,v::s,hl,hx=>by
  refine ⟨?_,qf9 (by simpa using hl) fun f c' v' h1 h2=>hx (f+1) c' v' (by simpa using h1) (by simpa using h2)⟩;cases hc:c.t.scal with
  |true=>exact hx 0 c v rfl rfl hc
  |false=>show VR T w S φ (.raw v) v;rw [VR]
def ji6: ∀ {cs:List (Cell T.U)} {vs:List Value},cs.length=vs.length->(qf8 cs vs).length=cs.length/\(∀(f:Nat) (c:Cell T.U),cs[f]?=some c->c.t.scal=true->(qf8 cs vs)[f]?=some (.cell c))/\j8 (qf8 cs vs)= []
 | [],[],_=>⟨rfl,fun f c h=>by simp at h,rfl⟩
 | [],_::_,h=>by simp at h
 |_::_,[],h=>by simp at h
 |c::r,v::s,hl=>by
  obtain ⟨h1,h2,h3⟩:=ji6 (cs:=r) (vs:=s) (by simpa using hl);refine ⟨by simp [qf8,h1],fun f c' hf hs=>?_,?_⟩
  ·cases f with
   |zero=>simp only [Y4,X0] at hf;subst hf;simp [qf8,hs]
   |succ f=>simpa [qf8] using h2 f c' (by simpa using hf) hs
  ·rw [qf8,j8,h3];cases c.t.scal<;>rfl
def vg0 {t:TypeId} {cs:List (Cell T.U)} {vs:List Value} (hl:cs.length=vs.length) {c:Nat} {v:AV T.U} (h:zs2 T P t (cs.map .cell) c=some v) (hn:vy2 v=true):zs2 T P t (qf8 cs vs) c=some v:=by
 obtain ⟨m1,m2,_⟩:=ji6 hl;unfold zs2 at h⊢;split at h<;>try (cases h;done)
 rename_i i d hi hu;unfold jk3 at h⊢;cases hag:ya1 d with
 |false=>
  rw [hag] at h;simp only at h⊢;rw [W4] at h;cases hc:cs[c]? with
  |none=>rw [hc] at h;cases h
  |some c0=>
   rw [hc] at h;simp only [Z8,X0] at h;subst h;exact m2 c c0 hc hn
 |true=>
  rw [hag] at h;simp only [U7] at h⊢;rw [m1];split at h<;>try (cases h;done)
  rename_i hle;simp only [X0] at h;subst h;simp only [X0];congr 1;apply R9;intro j;simp only [Z3,Q6,W4];split
  ·rename_i hj;cases hc:cs[c+j]? with
   |none=>
    rw [Y5 (by rw [m1];exact List.getElem?_eq_none_iff.1 hc)];rfl
   |some c0=>
    have hs:c0.t.scal=true:=by
     have:=Y8.1 hn (.cell c0) (Y9.2 ⟨j,by simp only [Z3,if_pos hj,Q6,W4,hc];rfl⟩);exact this
    rw [m2 _ c0 hc hs];rfl
  ·rfl
def ki7 {c:Cell T.U} {v:Value} {e:TypeId} (hs:c.t.scal=true) (h:DC T w S e c v):yj1 T w S c v:=by
 obtain ⟨t,x⟩:=c;cases t<;>first|(cases hs;done)|exact h
def vr9 {φ:Nat->RA} {d:Nat} {fe:List TypeId} {xs:List (T.U d)} {b:Nat} {cs:List (AV T.U)} {vals:List Value} {r:RA} (h:DRel T w S φ r d fe xs (some (b,cs)) vals) (hvl:vals.length=xs.length*T.size d):VRL T w S φ cs ((vals.drop (b*T.size d)).take (T.size d)):=by
 obtain ⟨hb,hl,hx⟩:=h.opn _ _ rfl;have hle:b*T.size d+T.size d<=xs.length*T.size d:=by rw [<-Nat.succ_mul];exact Q9 _ hb
 refine vz6 _ _ (by simp;omega) fun f x hf=>?_;have hfl:f<T.size d:=by have:=(X2.1 hf).1;omega
 rw [Z3,if_pos hfl,Q6];exact hx f x hf
def vq2 {R:Type} {r:R} {t:TypeId} {x:Operand} (hd:dec ops k n F'=some o) (hop:o.op=.load t x) {i sz a c:Nat} {e:TypeId} {d:Nat} {fe:List TypeId} {xs:List (T.U d)} {op:Option (Nat×List (AV T.U))} (hx:aev T F x=some (.eptr i sz a c)) (hi:H[i]?=some (.drow e d fe xs op))
  {K0:AV T.U->List (Ent T.U)->Option R} (hs:yo3 P t H i sz a c e d fe xs op K0=some r) (h:Sim T w0 S0 ⟨F,H⟩ F' w S φ) (HK: ∀v H1,K0 v H1=some r->zp5 P ops Q (k+1) n ds w0 S0 (⟨za1 T F o.dst v,H1⟩:St T)):WR P ops Q k n ds F' w:=by
 unfold yo3 at hs;split at hs<;>try (cases hs;done)
 rename_i hsz;have:=X1 hsz;subst this;obtain ⟨X,h1,g0,h2,rfl⟩:=z8 h.fr hx;have opened: ∀ {H:List (Ent T.U)} {φ:Nat->RA} {b:Nat} {cs:List (AV T.U)} {u:AV T.U},Sim T w0 S0 ⟨F,H⟩ F' w S φ->(φ i).ad=some ⟨g0,0,none⟩->H[i]?=some (.drow e d fe xs (some (b,cs)))->a=b->zs2 T P t cs c=some u->zh1 u=true->K0 u H=some r->WR P ops Q k n ds F' w:=by
  intro H φ b cs u h h2 hi hab hl hne hK;subst hab;obtain ⟨_,_,_,_,hdr⟩:=h.ents i _ hi;have hb:=(hdr.2.2.opn _ _ rfl).1;obtain ⟨g,cc,B,vals,a1,a2,a3,a4,a5,a6,a7,a8,a9,a10,a11,a12,a13,a14,a15⟩:=yr5 h hi hb;rw [h2] at a1;simp only [X0,Addr.mk.injEq,and_true] at a1;subst a1;refine qf4 (rd:= [i]) hd hop (b:=g0) (o0:=0+a*T.size d) (c:=c) (by rw [h1,V1]) (fun w1 _ hsm=>Rg.same a15 (show w1.heap[g0]?=w.heap[g0]? from hsm i (by simp) ⟨g0,0,none⟩ h2 a4.lt)) (vr9 a12 a13) hl fun v q1 q2 q3=>?_;exact jm3 hd (q1 w (Chg.refl _ _) fun _ _ _ _ _=>rfl) h q2 (zf6 hne fun j hj=>h.eids i _ hi j (q3 j hj)) (HK _ _ hK)
 split at hs
 ·split at hs<;>try (cases hs;done)
  rename_i v hl;split at hs
  ·rename_i hn;obtain ⟨ha,hK⟩:=q7 hs;obtain ⟨g,cc,B,vals,a1,a2,a3,a4,a5,a6,a7,a8,a9,a10,a11,a12,a13,a14,a15⟩:=yr5 h hi ha;rw [h2] at a1;simp only [X0,Addr.mk.injEq,and_true] at a1;subst a1;have hxa:xs[a]?=some (xs.getD a (T.d d)):=zm0 (T.d d) ha;have hlen:(elD T d xs a).length=((vals.drop (a*T.size d)).take (T.size d)).length:=by
    unfold elD;rw [T.len,Y6,Q7];omega
   have hm:=qf9 (w:=w) (S:=S) (φ:=φ) hlen fun f c0 v0 q1 q2 q3=>by
    have hf:f<T.size d:=by have:=(X2.1 q1).1;unfold elD at this;rw [T.len] at this;exact this
    rw [Z3,if_pos hf,Q6] at q2;exact ki7 q3 (a12.cl _ c0 v0 (by rw [qd5 (T.len d) hxa hf];exact q1) q2 fun q=>q).1
   refine qf4 (rd:= [i]) hd hop (b:=g0) (o0:=0+a*T.size d) (c:=c) (by rw [h1,V1]) (fun w1 _ hsm=>Rg.same a15 (show w1.heap[g0]?=w.heap[g0]? from hsm i (by simp) ⟨g0,0,none⟩ h2 a4.lt)) hm (vg0 hlen hl hn) fun u q1 q2 q3=>?_;rw [(ji6 hlen).2.2] at q3;refine jm3 hd (q1 w (Chg.refl _ _) fun _ _ _ _ _=>rfl) h q2 (zf6 ?_ fun j hj=>by cases q3 j hj) (HK _ _ hK);cases v<;>first|rfl|cases hn
  ·split at hs<;>try (cases hs;done)
   rename_i u hu;split at hs<;>try (cases hs;done)
   rename_i hne;obtain ⟨ha,hK⟩:=q7 hs;obtain ⟨φ',hsm,h'⟩:=h.openD hi ha;exact opened h' ((hsm i (X2.1 hi).1).1.trans h2) (jq7 hi e d fe xs a) rfl hu hne hK
 ·split at hs<;>try (cases hs;done)
  rename_i u hu;split at hs<;>try (cases hs;done)
  rename_i hne;obtain ⟨hab,hK⟩:=q7 hs;exact opened h h2 hi hab hu hne hK
def yp1: ∀(l cs:List (AV T.U)) (o0:Nat),yg8 T cs o0 l=zi7 cs o0 l
 | [],_,_=>rfl
 |a::r,cs,o0=>by rw [yg8,zi7,yp1 r]
def yq1 {t:TypeId} {x y:Operand} (hd:dec ops k n F'=some o) (hop:o.op=.store t x y) (hdst:o.dst=none) {i a c:Nat} {e:TypeId} {d:Nat} {fe:List TypeId} {xs:List (T.U d)} {cs:List (AV T.U)} {v0:AV T.U} {H:List (Ent T.U)} {φ:Nat->RA} {g0:Nat} (h1:ev F' x=some (.pointer (some ⟨g0,0+(a*T.size d+c),none⟩))) (h2:(φ i).ad=some ⟨g0,0,none⟩) (hy:aev T F y=some v0) (hi:H[i]?=some (.drow e d fe xs (some (a,cs))))
  (hf:jk6 T P t c (T.size d) v0=true) (h:Sim T w0 S0 ⟨F,H⟩ F' w S φ) (K:zp5 P ops Q (k+1) n ds w0 S0 (⟨F,H.set i (.drow e d fe xs (some (a,yg8 T cs c (zd4 T v0))))⟩:St T)):WR P ops Q k n ds F' w:=by
 obtain ⟨v,h3,h4⟩:=z8 h.fr hy;obtain ⟨_,_,_,_,hdr⟩:=h.ents i _ hi;obtain ⟨hb,hcl,_⟩:=hdr.2.2.opn _ _ rfl;obtain ⟨g,carr,B,vals,a1,a2,a3,a4,a5,a6,a7,a8,a9,a10,a11,a12,a13,a14,a15⟩:=yr5 h hi hb;rw [h2] at a1;simp only [X0,Addr.mk.injEq,and_true] at a1;subst a1;obtain ⟨ii,hii,f1,f2,f3,f4⟩:=ya4 hf;have hds:=yh2 hd hop hdst;rw [j6 h1,j6 h3] at hds;have hle2:xs.length*T.size d<=carr.size:=W9 (Q9 _ a10) a5;have hst:=qa9 hf h4 (c:=carr) (p:=0+a*T.size d) (by omega);rw [V1] at hst;have hcr:=zi9 f1 h4;have hul:v.cells.toList.length=ii.size:=by rw [<-hcr.len T,f2]
 have hcl2:c+(zd4 T v0).length<=T.size d:=by rw [f2];exact f3
 refine WR.store a4 hds _ hst fun w' hb' hc=>K _ _ ⟨S,φ,h.upd hi rfl hc ?_ ⟨B,(zz4 carr (0+(a*T.size d+c)) v.cells.toList).toList.take (xs.length*T.size d),?_,a2,W9 a9 hc.size,?_,?_⟩ ?_ ?_⟩
 ·intro b hb;simp at hb;subst hb;exact ⟨_,.inl h2,rfl⟩
 ·rw [h2,a2];exact Own.ofBlk hb' a8 a10 (by have:=a11;unfold maxLen at this;omega) (by rw [yk9];exact a5) _ rfl
 ·intro z hz;rw [h2] at hz;simp only [X0] at hz;subst hz;exact a7
 ·rw [ya9,yk8,U0,a6];have hT: ∀b∈ [g0],b∈S:=by intro b hb;simp at hb;subst hb;exact a7
  have hin: ∀j,¬ju8 T (T.size d) (some (a,cs)) j->(zi7 vals (a*T.size d+c) v.cells.toList)[j]?=vals[j]?:=fun j hj=>by
   rw [yi5 _ _ _ _ (by omega),if_neg (fun q=>hj ⟨by omega,by omega⟩)]
  have hD:=a12.chg (T:=T) (S':=S) hc hT (fun b hb=>.inl hb) fun b _ hne hm=>by
   simp at hm;subst hm;exact hne _ h2 rfl
  refine ⟨fun j c1 v1 q1 q2 q3=>hD.cl j c1 v1 q1 (by rw [<-hin j q3];exact q2) q3,fun j j' c1 c2 v1 v2 hj q1 q2 q3 q4 q5 q6=>hD.ap j j' c1 c2 v1 v2 hj q1 (by rw [<-hin j q3];exact q2) q3 q4 (by rw [<-hin j' q6];exact q5) q6,fun a0 cs0 hq=>?_⟩;simp only [X0,X7] at hq;obtain ⟨rfl,rfl⟩:=hq;refine ⟨hb,by rw [yp1,qg8];exact hcl,fun f x hx=>?_⟩;rw [yp1,yi5 _ _ _ _ (by omega)] at hx;rw [yi5 _ _ _ _ (by omega)];split at hx
  ·rename_i hfr;rw [if_pos (by rw [hul];omega),show a*T.size d+f-(a*T.size d+c)=f-c by omega];obtain ⟨v',g1,g2⟩:=hcr.get T hx;exact ⟨v',g1,g2.chg T hc hT fun b hb=>.inl hb⟩
  ·rename_i hfr;rw [if_neg (by rw [hul];omega)];exact (hD.opn _ _ rfl).2.2 f x hx
 ·intro j hj;rcases yx2 (T:=T) j hj with hj|hj
  ·exact h.eids i _ hi j hj
  ·rw [ye1 f1] at hj;exact (zb5 h hy).1 j hj
 ·intro _ _ _ he;cases he
def vi9 {R:Type} {r:R} {t:TypeId} {x y:Operand} (hd:dec ops k n F'=some o) (hop:o.op=.store t x y) (hdst:o.dst=none) {i sz a c:Nat} {e:TypeId} {d:Nat} {fe:List TypeId} {xs:List (T.U d)} {op:Option (Nat×List (AV T.U))} {v0:AV T.U} (hx:aev T F x=some (.eptr i sz a c)) (hy:aev T F y=some v0) (hi:H[i]?=some (.drow e d fe xs op))
  {K0:List (Ent T.U)->Option R} (hs:yc8 P t H i sz a c e d fe xs op v0 K0=some r) (h:Sim T w0 S0 ⟨F,H⟩ F' w S φ) (HK: ∀H1,K0 H1=some r->zp5 P ops Q (k+1) n ds w0 S0 (⟨F,H1⟩:St T)):WR P ops Q k n ds F' w:=by
 unfold yc8 at hs;split at hs<;>try (cases hs;done)
 rename_i hb;rw [X3] at hb;obtain ⟨hsz,hf⟩:=hb;have:=X1 hsz;subst this;obtain ⟨X,h1,g0,h2,rfl⟩:=z8 h.fr hx;split at hs
 ·obtain ⟨ha,hK⟩:=q7 hs;obtain ⟨φ',hsm,h'⟩:=h.openD hi ha;exact yq1 hd hop hdst h1 ((hsm i (X2.1 hi).1).1.trans h2) hy (jq7 hi e d fe xs a) hf h' (HK _ hK)
 ·obtain ⟨hab,hK⟩:=q7 hs;subst hab;exact yq1 hd hop hdst h1 h2 hy hi hf h (HK _ hK)
def vj2 {t:Ty} {v:Value} {c:Cell T.U} (h:kc5 T t v=some c) (e:TypeId):DC T w S e c v/\zq4 T e c v= []:=by
 have hz: ∀ {c:Cell T.U} {v:Value},(match c.t,v with| .list _,.slice ad _ _=>zb2 ad|_,_=>([]:List Nat))= []->zq4 T e c v= []:=fun h=>by unfold zq4;cases Nat.beq e 0;exact h;rfl
 unfold kc5 at h;split at h
 ·simp only [X0] at h;subst h;exact ⟨⟨fun _=>CR.nilS,fun _=>⟨0,none,0,[],rfl,Own.nil _ _ _ _,U4 _,CellsR.nilC⟩⟩,hz rfl⟩
 ·split at h<;>try (cases h;done)
  rename_i c0 hc;split at h<;>try (cases h;done)
  rename_i hs;simp only [X0] at h;subst h;have h1:cellsOf T ([v].map (yo6 T))=some [c0]:=by simp only [U1,List.map_nil,cellsOf,hc]
  have h2:=(yc9 (w:=w) (S:=S) h1).2 0 c0 v rfl rfl;obtain ⟨t,x⟩:=c0;cases t<;>first|(cases hs;done)|exact ⟨h2,hz rfl⟩
def jh3: ∀ {ts:List Ty} {vs:List Value} {cs:List (Cell T.U)},yq8 T ts vs=some cs->cs.length=vs.length/\ ∀(f:Nat) (c:Cell T.U) (v:Value) (e:TypeId),cs[f]?=some c->vs[f]?=some v->DC T w S e c v/\zq4 T e c v= []
 | [],[],cs,h=>by simp only [yq8,X0] at h;subst h;exact ⟨rfl,fun f c v e h=>by simp at h⟩
 | [],_::_,_,h=>by simp [yq8] at h
 |_::_,[],_,h=>by simp [yq8] at h
 |t::ts,v::vs,cs,h=>by
  unfold yq8 at h;split at h<;>try (cases h;done)
  rename_i c l h1 h2;simp only [X0] at h;subst h;obtain ⟨g1,g2⟩:=jh3 h2;refine ⟨by simp [g1],fun f c' v' e q1 q2=>?_⟩;cases f with
  |zero=>simp only [Y4,X0] at q1 q2;subst q1;subst q2;exact vj2 h1 e
  |succ f=>exact g2 f c' v' e (by simpa using q1) (by simpa using q2)
def vq7 {R:Type} {r:R} {x y:Operand} {t:TypeId} (hd:dec ops k n F'=some o) (hop:o.op=.makeSlice t x y) {d:Nat} {fe:List TypeId} {k1 k2:IntKind} {l c:Int} (hx:aev T F x=some (cI T k1 l)) (hy:aev T F y=some (cI T k2 c))
  {K0:AV T.U->List (Ent T.U)->Option R} (hK0:jn1 P d fe t H l c K0=some r) (h:Sim T w0 S0 ⟨F,H⟩ F' w S φ) (K: ∀b H1,K0 b H1=some r->zp5 P ops Q (k+1) n ds w0 S0 (⟨za1 T F o.dst b,H1⟩:St T)):WR P ops Q k n ds F' w:=by
 obtain ⟨X,h1,h2⟩:=z8 h.fr hx;obtain ⟨Y,h3,h4⟩:=z8 h.fr hy;have e1:=v7 h2;have e2:=v7 h4;subst e1;subst e2;unfold jn1 at hK0;split at hK0<;>try (cases hK0;done)
 rename_i e sz by_ zc he;split at hK0<;>try (cases hK0;done)
 rename_i z hsz hz;have hsz:=X1 hsz;subst hsz;split at hK0<;>try (cases hK0;done)
 rename_i x0 hx0;obtain ⟨⟨g1,g2,g3,g4⟩,hK⟩:=q7 hK0;have hdm:=jc6 hd hop;rw [j6 h1,j6 h3] at hdm;obtain ⟨i,zv,_,_,_,_,_,_,hzs⟩:=zb4 he;refine WR.make hdm he l.toNat c.toNat (by omega) (by omega) (by omega) g3 (by omega) fun g w' hN=>?_;have hown:=Own.made (m:=l.toNat) (m':=c.toNat) hN (by omega) (by omega);have hc0:T.cells d x0=z:=T.packed _ _ _ hx0;have hcell: ∀j c1 v,((List.replicate l.toNat x0).flatMap (T.cells d))[j]?=some c1->((madeCells zc (c.toNat*T.size d)).toList.take (l.toNat*T.size d))[j]?=some v->DC T w' (g::S) (fe.getD (j%T.size d) 0) c1 v/\zq4 T (fe.getD (j%T.size d) 0) c1 v= []:=by
  intro j c1 v h1 h2;have hj:=(X2.1 h1).1;rw [u9 (T.len d),Z9] at hj;rw [zu7 (T.len d x0) _ _ hj,hc0] at h1;rw [Z3,if_pos hj] at h2;refine (jh3 (w:=w') (S:=g::S) hz).2 _ c1 v _ h1 ?_;have hpos:0<T.size d:=by
   rcases M7 (T.size d) with h0|h0
   ·rw [h0] at hj;omega
   ·exact h0
  rw [<-hzs] at hpos;have hlc:l.toNat*T.size d<=c.toNat*T.size d:=Q9 _ (by omega);unfold madeCells at h2;simp only [M6,T5,W4] at h2;rw [List.getElem?_range (by omega)] at h2;simp only [Z8,X0] at h2;subst h2;rw [<-hzs,Array.getElem?_toList,Z6 (Nat.mod_lt _ hpos)];congr 1;rw [getElem!_pos zc _ (Nat.mod_lt _ hpos)]
 have hadd:=h.add (r:=⟨some ⟨g,0,none⟩,l.toNat,c.toNat,[]⟩) hN.chg hN.fresh hN.blk.lt (fun a ha=>zv3 ha) (e:=.drow e d fe (List.replicate l.toNat x0) none)
  ⟨w.heap.size,_,by rw [j5];exact hown,by rw [j5,Z9],hN.chg.size,fun a ha=>by rw [j5] at ha;simp only [X0] at ha;subst ha;simp,
   ⟨fun j c1 v q1 q2 _=>⟨(hcell j c1 v q1 q2).1,fun b hb=>(by rw [(hcell j c1 v q1 q2).2] at hb;cases hb)⟩,fun j j' c1 c2 v v' _ q1 q2 _ _ _ _ b hb=>(by rw [(hcell j c1 v q1 q2).2] at hb;cases hb),fun a cs hq=>(by cases hq)⟩⟩ (by intro j hj;cases hj)
 refine K _ _ hK _ _ ⟨_,_,hadd.slot (a:=.own H.length) (by rw [VR,j5]) ⟨by intro i hi;simp [AV.ids] at hi;subst hi;simp,trivial⟩⟩
def ve2 {t:TypeId} {x y:Operand} (hd:dec ops k n F'=some o) (hop:o.op=.indexAddr t x y) {i:Nat} {kk:IntKind} {j:Int} {e:TypeId} {d:Nat} {fe:List TypeId} {xs:List (T.U d)} {op:Option (Nat×List (AV T.U))} (hx:aev T F x=some (.own i)) (hy:aev T F y=some (cI T kk j)) (hi:H[i]?=some (.drow e d fe xs op))
  (hel:yq4 T P t (.user d)=true) (hj:0<=j/\j<((xs.length:Nat):Int)) (h:Sim T w0 S0 ⟨F,H⟩ F' w S φ) (K:zp5 P ops Q (k+1) n ds w0 S0 (⟨za1 T F o.dst (.eptr i (T.size d) j.toNat 0),H⟩:St T)):WR P ops Q k n ds F' w:=by
 obtain ⟨X,h1,h2⟩:=z8 h.fr hx;obtain ⟨Y,h3,h4⟩:=z8 h.fr hy;have e1:=v7 h4;subst e1;have hdi:=yy4 hd hop;rw [j6 h1,j6 h3] at hdi;obtain ⟨g,cc,B,vals,a1,a2,_⟩:=yr5 h hi (a:=j.toNat) (by omega);rw [VR] at h2;subst h2;rw [a1,a2] at hdi;refine jm3 hd ((QR.indexS (S:=S) (φ:=φ) (rd:= []) (w:=w) hd hdi _ (zy4 hel) j.toNat (by omega) (by omega)) w (Chg.refl _ _) fun _ _ _ _ _=>rfl) h (a:=.eptr i (T.size d) j.toNat 0) ⟨g,a1,by simp [szT]⟩ ⟨(zb5 h hx).1,?_⟩ K;intro e1 t1 ys hy1;rw [hi] at hy1;cases hy1
def yz9 {R:Type} {r:R} (hd:dec ops k n F'=some o) {K:St T->Option R} {z:Option R} (hz:zm5 P C o ⟨F,H⟩ K=some z) (hr:z=some r) (h:Sim T w0 S0 ⟨F,H⟩ F' w S φ)
  (HK: ∀st,K st=some r->zp5 P ops Q (k+1) n ds w0 S0 st):WR P ops Q k n ds F' w:=by
 unfold zm5 at hz;split at hz<;>try (cases hz;done)
 ·rename_i t x y hop;split at hz<;>try (cases hz;done)
  obtain rfl:=X5 hz;split at hr<;>try (cases hr;done)
  rename_i hx hy;exact vq7 hd hop hx hy hr h fun a H1 ha=>HK _ ha
 ·rename_i t x y hop;split at hz<;>try (cases hz;done)
  rename_i i hx;split at hz<;>try (cases hz;done)
  rename_i e d fe xs op hi;obtain rfl:=X5 hz;split at hr<;>try (cases hr;done)
  rename_i kk j hy hel;obtain ⟨hj,hK⟩:=jp6 hr;exact ve2 hd hop hx hy hi hel hj h (HK _ hK)
 ·rename_i t x hop;split at hz<;>try (cases hz;done)
  rename_i i sz a c hx;split at hz<;>try (cases hz;done)
  rename_i hi;obtain rfl:=X5 hz;exact vq2 hd hop hx hi hr h fun v H1 hv=>HK _ hv
 ·rename_i t x y hop;split at hz<;>try (cases hz;done)
  rename_i i sz a c hx;split at hz<;>try (cases hz;done)
  rename_i hi;obtain rfl:=X5 hz;split at hr<;>try (cases hr;done)
  rename_i v hdst hy;exact vi9 hd hop hdst hx hy hi hr h fun H1 hv=>HK _ hv
end
end Go.X
namespace Go.X
open Go.RowKit Go.V
section
variable (T:Tab)
def qn5 {R:Type} (t:Ty) (x:Operand) (st:St T) (K:St T->Option R):Option R:=
 match x with
 | .tmp s=>match st.F.get T s with
  |some a=>rdF T st.H t a fun y=>K ⟨(s,zn4 T t y)::st.F,zu6 T st.H a.ids⟩
  |none=>none
 |_=>none
def ke3 {R:Type}:List (Nat×Ty)->List (AV T.U)->List (Ent T.U)->(List (AV T.U)->List (Ent T.U)->Option R)->Option R
 | [],aS,H,K=>K aS H
 |(j,t)::r,aS,H,K=>match aS[j]? with
  |some a=>rdF T H t a fun y=>ke3 r (aS.set j (zn4 T t y)) (zu6 T H a.ids) K
  |none=>none
def qz0 (ty:Ty) (c:Nat) (a:AV T.U):Option Ty:=
 match a with
 | .agg _=>match Nat.beq c 0 with|true=>some ty|false=>none
 |_=>match (za3 T ty (zy1 T ty))[c]? with|some x=>some x.t|none=>none
def jv7 (H:List (Ent T.U)) (p a:AV T.U):Option Ty:=
 match p with
 | .eptr i _ _ c=>match H[i]? with|some (.row _ ty _)=>qz0 T ty c a|_=>none
 | .aptr i o _ _ _ c=>match H[i]? with
  |some (.blk _ cs)=>match yy9 T cs o with
   |some (b::_)=>match jb8 b with|some ⟨ty,_,_⟩=>qz0 T ty c a|none=>none
   |_=>none
  |_=>none
 |_=>none
def ys0 {R:Type} (te:Ty):List (Nat×Operand)->St T->(St T->Option R)->Option R
 | [],st,K=>K st
 |(_,x)::r,st,K=>match aev T st.F x with
  |some a=>match cellsOf T (zd4 T a) with
   |some _=>ys0 te r st K
   |none=>qn5 T te x st fun st=>ys0 te r st K
  |none=>none
end
section
variable {T:Tab} (P:Program) (C:Ctx T) {R:Type}
def qp0:Operand->Operand->Bool| .tmp s,.tmp q=> !(Nat.beq s q)|_,_=>true
def zl7 (o:Oper) (st:St T) (K:St T->Option R) (Kp:AV T.U->St T->Option R):Option R:=
 match o.op with
 | .store _ x y=>match aev T st.F x,aev T st.F y with
  |some p,some a=>match cellsOf T (zd4 T a),jv7 T st.H p a with
   |none,some te=>(match qp0 y x with|true=>qn5 T te y st fun st=>stepA P C o st K Kp|false=>none)
   |_,_=>stepA P C o st K Kp
  |_,_=>none
 | .buildSlice t _ ps=>match C.ty t,zn8 T st.F (ps.toList.map Prod.snd) with
  |some te,some _=>ys0 T te ps.toList st fun st=>stepA P C o st K Kp
  |_,_=>stepA P C o st K Kp
 | .mapUpdate t m x v=>match C.ty t,aev T st.F v with
  |some te,some a=>(match cellsOf T (zd4 T a) with
   |none=>(match qp0 v m&&qp0 v x with|true=>qn5 T te v st fun st=>stepA P C o st K Kp|false=>none)
   |some _=>stepA P C o st K Kp)
  |_,_=>stepA P C o st K Kp
 |_=>stepA P C o st K Kp
end
section
variable {T:Tab} {P:Program} {C:Ctx T} {w w':World} {S S':List Nat} {φ φ':Nat->RA} {w0:World} {S0:Ow} {F:AF T} {H:List (Ent T.U)} {F':PF}
variable {ops:Array Oper} {Q:Exit->Act->World->Prop} {k n:Nat} {ds:List Deferred} {o:Oper}
def Sim.seen (h:Sim T w0 S0 ⟨F,H⟩ F' w S φ) {d:Nat} {a:AV T.U} {v:Value} (hv:F'.get d=some v) (hr:VR T w S φ a v) (hok:okA H a):Sim T w0 S0 ⟨(d,a)::F,H⟩ F' w S φ:=by
 have hg: ∀i b,AF.get T ((d,a)::F) i=some b->(i=d/\b=a)\/F.get T i=some b:=by
  intro i b hb;simp only [AF.get] at hb;split at hb
  ·rename_i he;have:=X1 he;subst this;exact .inl ⟨rfl,(X5 hb).symm⟩
  ·exact .inr hb
 refine ⟨fun i b hb=>?_,fun i b hb=>?_,h.chg,h.own,h.ex,h.lives,h.pins,h.ents,h.eids,h.apart⟩
 ·rcases hg i b hb with ⟨rfl,rfl⟩|hb
  ·exact ⟨v,hv,hr⟩
  ·exact h.fr i b hb
 ·rcases hg i b hb with ⟨rfl,rfl⟩|hb
  ·exact hok
  ·exact h.ids i b hb
def Sim.frz1 (h:Sim T w0 S0 ⟨F,H⟩ F' w S φ) {i:Nat} {e:Ent T.U} (hi:H[i]?=some e) (hl:e.live=true):
  Sim T w0 S0 ⟨F,H.set i .gone⟩ F' w (S.filter fun b=> !(φ i).all.contains b) φ:=by
 have hsub: ∀b∈S.filter (fun b=> !(φ i).all.contains b),b∈S:=fun b hb=>(W3.1 hb).1;have hin: ∀ {b:Nat},b∈S->(∀a,At (φ i) a->a.block≠b)->b∈S.filter fun b=> !(φ i).all.contains b:=by
  intro b hb hne;refine W3.2 ⟨hb,?_⟩;cases hq:(φ i).all.contains b with
  |false=>rfl
  |true=>
   obtain ⟨a,ha,he⟩:=zn2.1 (N9.1 hq);exact absurd he (hne a ha)
 refine ⟨?_,?_,h.chg,fun b hb=>h.own b (hsub b hb),?_,?_,?_,?_,?_,?_⟩
 ·intro j a ha;obtain ⟨v,h1,h2⟩:=h.fr j a ha;exact ⟨v,h1,h2.chg T (Chg.refl [] w) (by simp) fun b hb=>.inl (hsub b hb)⟩
 ·intro j a ha;obtain ⟨h1,h2⟩:=h.ids j a ha;refine ⟨fun x hx=>by simpa using h1 x hx,?_⟩;cases a with
  |eptr y sz k c=>intro e t xs hx;exact h2 e t xs (zm1 hx rfl).2
  |_=>trivial
 ·intro b hb q1 q2;refine hin (h.ex b hb q1 q2) fun a ha he=>?_;rcases (h.lives i e hi hl a ha).2 with hm|hm
  ·exact q1 (he▸hm)
  ·omega
 ·intro j f hf hfl a ha;obtain ⟨hne,hf'⟩:=zm1 hf hfl;exact ⟨hin (h.lives j f hf' hfl a ha).1 fun b hb he=>h.apart i j e f hi hf' hl hfl (Ne.symm hne) b a hb ha he,(h.lives j f hf' hfl a ha).2⟩
 ·intro k r hk;obtain ⟨h1,h2⟩:=h.pins k r hk;exact ⟨h1,by simpa using h2⟩
 ·intro j f hf;by_cases hfl:f.live=true
  ·obtain ⟨hne,hf'⟩:=zm1 hf hfl;exact (h.ents j f hf').chg T (Chg.refl [] w) (by simp) (fun b hb=>.inl (hsub b hb)) fun hl' a ha=>⟨by simp,hin (zd5 h hf' hl' ha) fun b hb he=>h.apart i j e f hi hf' hl hl' (Ne.symm hne) b a hb ha he⟩
  ·cases f<;>first|exact trivial|exact absurd rfl hfl
 ·intro j f hf x hx;cases f with
  |hid=>cases hx
  |gone=>cases hx
  |_=>have:=h.eids j _ (zm1 hf rfl).2 x hx;simpa using this
 ·intro j k f f' hf hf' hl1 hl2 hjk;exact h.apart j k f f' (zm1 hf hl1).2 (zm1 hf' hl2).2 hl1 hl2 hjk
def Sim.frzL: ∀(ids:List Nat) {H:List (Ent T.U)} {S:List Nat},Sim T w0 S0 ⟨F,H⟩ F' w S φ->
  ∃S',(∀b∈S',b∈S)/\(∀i∈ids,∀e,H[i]?=some e->e.live=true-> ∀a,At (φ i) a->a.block∉S')/\Sim T w0 S0 ⟨F,zu6 T H ids⟩ F' w S' φ
 | [],H,S,h=>⟨S,fun _ h=>h,by simp,h⟩
 |i::r,H,S,h=>by
  have step: ∃S1,(∀b∈S1,b∈S)/\(∀e,H[i]?=some e->e.live=true-> ∀a,At (φ i) a->a.block∉S1)/\Sim T w0 S0 ⟨F,H.set i .gone⟩ F' w S1 φ:=by
   cases hi:H[i]? with
   |none=>
    refine ⟨S,fun _ h=>h,by simp,?_⟩;rw [List.set_eq_of_length_le (by simpa using hi)];exact h
   |some e=>
    cases hl:e.live with
    |true=>
     refine ⟨_,fun b hb=>(W3.1 hb).1,fun e' he' _ a ha hm=>?_,h.frz1 hi hl⟩;have:=(W3.1 hm).2;simp at this;exact this (zn2.2 ⟨a,ha,rfl⟩)
    |false=>
     have:e=.gone:=by cases e<;>first|rfl|cases hl
     subst this;refine ⟨S,fun _ h=>h,fun e' he' hl'=>?_,?_⟩
     ·simp only [X0] at he';subst he';cases hl'
     ·have hs:H.set i .gone=H:=by
       obtain ⟨hlt,hg⟩:=X2.1 hi;rw [<-hg,T3]
      rw [hs];exact h
  obtain ⟨S1,k1,k2,k3⟩:=step;obtain ⟨S2,q1,q2,q3⟩:=Sim.frzL r k3;refine ⟨S2,fun b hb=>k1 b (q1 b hb),fun j hj e he hl a ha hm=>?_,q3⟩;by_cases hji:j=i
  ·subst hji;exact k2 e he hl a ha (q1 _ hm)
  ·rcases Z0.1 hj with rfl|hj
   ·exact hji rfl
   ·exact q2 j hj e (by rw [Z5 (Ne.symm hji)];exact he) hl a ha hm
def vr5 {t:Ty} {a:AV T.U} {x:den T.U t} (h:jl3 T t a=some x):a.ids= []:=by
 cases a with
 |cell c=>rfl
 |raw v=>rfl
 |agg cs=>
  cases t<;>simp only [jl3,reduceCtorEq] at h;split at h
  ·rename_i l hl;rw [zr4 hl,AV.ids,yo2]
  ·cases h
 |_=>cases t<;>cases h
def ki2 {R:Type} {r:R} {t:Ty} {a:AV T.U} {K:den T.U t->Option R} (h:rdN T H t a K=some r): ∀i∈a.ids,∃e,H[i]?=some e/\e.live=true:=by
 unfold rdN at h;split at h
 ·intro i hi;cases hi
 ·intro i hi;cases hi
 ·intro j hj;simp only [AV.ids,Q5] at hj;subst hj;split at h
  ·rename_i hi;exact ⟨_,hi,rfl⟩
  ·cases h
 ·cases h
def qj8 {R:Type} {r:R} {t:Ty} {a:AV T.U} {K:den T.U t->Option R} (h:jl5 T H t a K=some r): ∀i∈a.ids,∃e,H[i]?=some e/\e.live=true:=by
 unfold jl5 at h;split at h
 ·intro j hj;simp only [AV.ids,Q5] at hj;subst hj;split at h
  ·rename_i hi;exact ⟨_,hi,rfl⟩
  ·cases h
 ·intro j hj;simp only [AV.ids,Q5] at hj;subst hj;split at h
  ·rename_i hi;exact ⟨_,hi,rfl⟩
  ·cases h
 ·intro j hj;simp only [AV.ids,Q5] at hj;subst hj;split at h
  ·rename_i hi;exact ⟨_,hi,rfl⟩
  ·cases h
 ·split at h
  ·rename_i x hx;rw [vr5 hx];intro i hi;cases hi
  ·exact ki2 h
def qj6 {R:Type} {r:R}: ∀ {ts:List Ty} {aS:List (AV T.U)} {K:List (Cell T.U)->Option R},qj4 T H ts aS K=some r-> ∀i∈j8 aS,∃e,H[i]?=some e/\e.live=true
 | [],[],K,h=>by intro i hi;cases hi
 | [],_::_,_,h=>by cases h
 |_::_,[],_,h=>by cases h
 |t::ts,a::aS,K,h=>by
  have h:(match t.one with|true=>jl5 T H t a (fun x=>qj4 T H ts aS fun l=>K (⟨t,x⟩::l))|false=>none)=some r:=h;split at h<;>try (cases h;done)
  intro i hi;rw [j8] at hi;rcases X4.1 hi with hi|hi
  ·exact qj8 h i hi
  ·obtain ⟨x,h1,h2⟩:=jj1 h;exact qj6 h1 i hi
def va3 {R:Type} {r:R} {t:Ty} {a:AV T.U} {K:den T.U t->Option R} (h:rdF T H t a K=some r): ∀i∈a.ids,∃e,H[i]?=some e/\e.live=true:=by
 unfold rdF at h;split at h
 ·intro i hi;rw [AV.ids] at hi;exact qj6 h i hi
 ·exact qj8 h
def js3 (t:Ty) (x:den T.U t):(zn4 T t x).ids= []:=by
 cases t with
 |user i=>show j8 ((T.cells i x).map AV.cell)= [];exact yo2 _
 |_=>rfl
def zw3 {R:Type} {r:R} {t:Ty} {x:Operand} {st:St T} {K:St T->Option R} (h:qn5 T t x st K=some r) (hs:Sim T w0 S0 st F' w S φ): ∃st' S',K st'=some r/\Sim T w0 S0 st' F' w S' φ/\ ∀t,(st.F.get T t).isSome=true->(st'.F.get T t).isSome=true:=by
 obtain ⟨F,H⟩:=st;unfold qn5 at h;split at h<;>try (cases h;done)
 rename_i s;split at h<;>try (cases h;done)
 rename_i a ha;obtain ⟨v,h1,h2⟩:=hs.fr s a ha;obtain ⟨S',k1,k2,k3⟩:=Sim.frzL a.ids hs;obtain ⟨y,h3,h4⟩:=jj2 (S':=S') h (fun i hi en hen _=>hs.ents i en hen) h2 φ k1 fun i hi ad had=>by
  obtain ⟨e,he,hl⟩:=va3 h i hi;exact k2 i hi e he hl ad (.inl had)
 refine ⟨_,S',h3,k3.seen h1 h4 (zf6 ?_ ?_),fun q hq=>?_⟩
 ·cases t<;>rfl
 ·rw [js3];intro i hi;cases hi
 ·simp only [AF.get];split
  ·rfl
  ·exact hq
def zy5 {R:Type} {r:R} {te:Ty}: ∀ {ps:List (Nat×Operand)} {st:St T} {K:St T->Option R} {S:List Nat},ys0 T te ps st K=some r->Sim T w0 S0 st F' w S φ-> ∃st' S',K st'=some r/\Sim T w0 S0 st' F' w S' φ/\ ∀t,(st.F.get T t).isSome=true->(st'.F.get T t).isSome=true
 | [],st,K,S,h,hs=>⟨st,S,h,hs,fun _ h=>h⟩
 |(_,x)::ps,st,K,S,h,hs=>by
  unfold ys0 at h;split at h<;>try (cases h;done)
  split at h
  ·exact zy5 h hs
  ·obtain ⟨st',S',h1,h2,h3⟩:=zw3 h hs;obtain ⟨st2,S2,k1,k2,k3⟩:=zy5 h1 h2;exact ⟨st2,S2,k1,k2,fun t ht=>k3 t (h3 t ht)⟩
def qc9 {R:Type} {r:R} (hE:za0 T P C.E) (hd:dec ops k n F'=some o) {K:St T->Option R} {Kp:AV T.U->St T->Option R} (hs:zl7 P C o ⟨F,H⟩ K Kp=some r) (h:Sim T w0 S0 ⟨F,H⟩ F' w S φ)
  (HK: ∀st,K st=some r->zp5 P ops Q (k+1) n ds w0 S0 st) (HP: ∀a st,Kp a st=some r->yn5 Q n ds w0 S0 a st):WR P ops Q k n ds F' w:=by
 unfold zl7 at hs;split at hs
 ·split at hs<;>try (cases hs;done)
  split at hs
  ·split at hs<;>try (cases hs;done)
   obtain ⟨⟨F2,H2⟩,S2,h1,h2,_⟩:=zw3 hs h;exact zj0 hE hd h1 h2 HK HP
  ·exact zj0 hE hd hs h HK HP
 ·split at hs
  ·obtain ⟨⟨F2,H2⟩,S2,h1,h2,_⟩:=zy5 hs h;exact zj0 hE hd h1 h2 HK HP
  ·exact zj0 hE hd hs h HK HP
 ·split at hs
  ·split at hs
   ·split at hs<;>try (cases hs;done)
    obtain ⟨⟨F2,H2⟩,S2,h1,h2,_⟩:=zw3 hs h;exact zj0 hE hd h1 h2 HK HP
   ·exact zj0 hE hd hs h HK HP
  ·exact zj0 hE hd hs h HK HP
 ·exact zj0 hE hd hs h HK HP
def yo0 {R:Type} {r:R} {w0:World} {S0:Ow} {F:AF T} {F':PF} {w:World} {φ:Nat->RA}: ∀(l:List (Nat×Ty)) {aS:List (AV T.U)} {us:List Value} {H:List (Ent T.U)} {S:List Nat} {K:List (AV T.U)->List (Ent T.U)->Option R},ke3 T l aS H K=some r->Sim T w0 S0 ⟨F,H⟩ F' w S φ->VRL T w S φ aS us->
  ∃aS' H' S',K aS' H'=some r/\Sim T w0 S0 ⟨F,H'⟩ F' w S' φ/\VRL T w S' φ aS' us
 | [],aS,us,H,S,K,h,hs,hv=>⟨aS,H,S,h,hs,hv⟩
 |(j,t)::l,aS,us,H,S,K,h,hs,hv=>by
  unfold ke3 at h;split at h<;>try (cases h;done)
  rename_i a ha;obtain ⟨v,h1,h2⟩:=hv.get T ha;obtain ⟨S',k1,k2,k3⟩:=Sim.frzL a.ids hs;obtain ⟨y,h3,h4⟩:=jj2 (S':=S') h (fun i hi en hen _=>hs.ents i en hen) h2 φ k1 fun i hi ad had=>by
   obtain ⟨e,he,hl⟩:=va3 h i hi;exact k2 i hi e he hl ad (.inl had)
  have hv':=(hv.chg T (Chg.refl [] w) (by simp) fun b hb=>.inl (k1 b hb)).set T j h4;rw [show us.set j v=us by
   obtain ⟨hlt,hg⟩:=X2.1 h1;rw [<-hg,T3]] at hv'
  exact yo0 l h3 k3 hv'
end
end Go.X
namespace Go.X
open Go.RowKit Go.V
section
variable {T:Tab} {w w':World} {S S':List Nat} {φ φ':Nat->RA} {w0:World} {S0:Ow} {F:AF T} {H:List (Ent T.U)} {F':PF}
def Sim.addG2 (h:Sim T w0 S0 ⟨F,H⟩ F' w S φ) {Tc:List Nat} (hc:Chg Tc w w') (hT: ∀b∈Tc,b∈S) (hTc: ∀b∈Tc,b∈S0.chg\/w0.heap.size<=b) (hfree: ∀(j:Nat) (e:Ent T.U),H[j]?=some e->e.live=true-> ∀a,At (φ j) a->a.block∉Tc) (hsub: ∀b∈S,b∈S') (hS': ∀b∈S',b∈S\/(w.heap.size<=b/\b<w'.heap.size)) {r:RA} {e:Ent T.U} (hr: ∀a,At r a->w.heap.size<=a.block\/a.block∈Tc\/((a.block∈S0.chg\/w0.heap.size<=a.block)/\ ∀(j:Nat) (f:Ent T.U),H[j]?=some f->f.live=true-> ∀b,At (φ j) b->b.block≠a.block)) (hrS: ∀a,At r a->a.block∈S')
  (he:EntR T w' S' (zu1 φ H.length r) H.length e) (hids: ∀j∈e.cellIds,j<H.length+1):
  Sim T w0 S0 ⟨F,H++ [e]⟩ F' w' S' (zu1 φ H.length r):=by
 have hS: ∀b∈S',b∈S\/w.heap.size<=b:=fun b hb=>(hS' b hb).imp id And.left;have get: ∀i f,(H++ [e])[i]?=some f->(i<H.length/\H[i]?=some f)\/(i=H.length/\f=e):=by
  intro i f hf;rcases M2 i H.length with hi|hi|hi
  ·rw [X8 hi] at hf;exact .inl ⟨hi,hf⟩
  ·subst hi;simp at hf;exact .inr ⟨rfl,hf.symm⟩
  ·rw [Y5 (by simp;omega)] at hf;cases hf
 have hnew: ∀(j:Nat) (f:Ent T.U),H[j]?=some f->f.live=true-> ∀a,At (φ j) a-> ∀b,At r b->a.block≠b.block:=by
  intro j f hf hl a ha b hb e;rcases hr b hb with hg|hg|hg
  ·have:=(h.own _ (zd5 h hf hl ha)).2;omega
  ·exact hfree j f hf hl a ha (e▸hg)
  ·exact hg.2 j f hf hl a ha e
 refine ⟨?_,?_,?_,?_,fun b hb q1 q2=>hsub _ (h.ex b hb q1 q2),?_,fun k r hk=>?_,?_,?_,?_⟩
 ·intro i a ha;obtain ⟨v,h1,h2⟩:=h.fr i a ha;refine ⟨v,h1,(h2.chg T hc hT hS).phi fun j hj=>zb8 ?_⟩;have:=(h.ids i a ha).1 j hj;simp only at this;omega
 ·intro i a ha;obtain ⟨h1,h2⟩:=h.ids i a ha;refine ⟨fun j hj=>by have:=h1 j hj;simp at this⊢;omega,?_⟩;cases a with
  |eptr j sz k c=>
   intro e' t xs hx;rcases get _ _ hx with ⟨_,hx⟩|⟨hj,_⟩
   ·exact h2 e' t xs hx
   ·have:=h1 j (by simp [AV.ids]);simp at this;omega
  |_=>trivial
 ·exact h.chg.step hc hTc
 ·intro b hb;rcases hS' b hb with hb|⟨hg,hgl⟩
  ·exact ⟨(h.own b hb).1,V3 (h.own b hb).2 hc.size⟩
  ·exact ⟨.inr (W9 h.chg.size hg),hgl⟩
 ·intro i f hf hl a ha;rcases get i f hf with ⟨hi,hf⟩|⟨rfl,rfl⟩
  ·rw [zb8 (by omega)] at ha;have q:=h.lives i f hf hl a ha;exact ⟨hsub _ q.1,q.2⟩
  ·rw [j5] at ha;refine ⟨hrS a ha,?_⟩;rcases hr a ha with hg|hg|hg
   ·exact .inr (W9 h.chg.size hg)
   ·exact hTc _ hg
   ·exact hg.1
 ·obtain ⟨h1,h2⟩:=h.pins k r hk;simp only at h2;exact ⟨by rw [zb8 (by omega)];exact h1,by simp only [X9];omega⟩
 ·intro i f hf;rcases get i f hf with ⟨hi,hf⟩|⟨rfl,rfl⟩
  ·have h1:=(h.ents i f hf).chg T hc (S':=S') hT hS fun hl a ha=>⟨hfree i f hf hl a ha,hsub _ (zd5 h hf hl ha)⟩;have hne:i≠H.length:=by omega
   refine h1.phiE (zb8 hne) fun j hj=>.of (zb8 ?_);have:=h.eids i _ hf j hj;simp only at this;omega
  ·exact he
 ·intro i f hf j hj;simp only [X9,U5,T7];rcases get i f hf with ⟨hi,hf⟩|⟨rfl,rfl⟩
  ·have:=h.eids i f hf j hj;simp only at this;omega
  ·exact hids j hj
 ·intro i j f f' hf hf' hl hl' hij a b ha hb;rcases get i f hf with ⟨hi,hk⟩|⟨rfl,rfl⟩<;>rcases get j f' hf' with ⟨hj,hk'⟩|⟨rfl,rfl⟩
  ·rw [zb8 (by omega)] at ha hb;exact h.apart i j f f' hk hk' hl hl' hij a b ha hb
  ·rw [zb8 (by omega)] at ha;rw [j5] at hb;exact hnew i f hk hl a ha b hb
  ·rw [j5] at ha;rw [zb8 (by omega)] at hb;exact (hnew j f' hk' hl' b hb a ha).symm
  ·exact absurd rfl hij
def DRel.append {r1 r2 r:RA} {d:Nat} {fe:List TypeId} {xs ys:List (T.U d)} {v1 v2:List Value} (h1:DRel T w S φ r1 d fe xs none v1) (h2:DRel T w S φ r2 d fe ys none v2) (hl:v1.length=xs.length*T.size d)
  (hx: ∀b,(b∈r1.xs/\ ∀a,r1.ad=some a->a.block≠b)\/(b∈r2.xs/\ ∀a,r2.ad=some a->a.block≠b)->b∈r.xs/\ ∀a,r.ad=some a->a.block≠b) (hap: ∀b∈r1.xs,b∉r2.xs):DRel T w S φ' r d fe (xs++ys) none (v1++v2):=by
 have hn: ∀j,¬ju8 T (T.size d) (none:Option (Nat×List (AV T.U))) j:=fun j h=>h;have hxl:(xs.flatMap (T.cells d)).length=xs.length*T.size d:=u9 (T.len d) xs;have part: ∀(j:Nat) (c:Cell T.U) (v:Value),((xs++ys).flatMap (T.cells d))[j]?=some c->(v1++v2)[j]?=some v->
   (j<xs.length*T.size d/\(xs.flatMap (T.cells d))[j]?=some c/\v1[j]?=some v)\/(∃i,j=xs.length*T.size d+i/\(ys.flatMap (T.cells d))[i]?=some c/\v2[i]?=some v/\i%T.size d=j%T.size d):=by
  intro j c v hc hv;rw [J2] at hc;rcases V0 j (xs.length*T.size d) with h|h
  ·rw [X8 (by omega)] at hc hv;exact .inl ⟨h,hc,hv⟩
  ·rw [Z2 (by omega)] at hc hv;rw [hxl] at hc;rw [hl] at hv;exact .inr ⟨j-xs.length*T.size d,by omega,hc,hv,by
    conv=>rhs;rw [show j=(j-xs.length*T.size d)+xs.length*T.size d by omega]
    rw [Nat.add_mul_mod_self_right]⟩
 refine ⟨fun j c v hc hv _=>?_,fun j j' c c' v v' hne hc hv _ hc' hv' _=>?_,fun a cs h=>by cases h⟩
 ·rcases part j c v hc hv with ⟨_,q1,q2⟩|⟨i,_,q1,q2,q3⟩
  ·exact ⟨(h1.cl j c v q1 q2 (hn j)).1,fun b hb=>hx b (.inl ((h1.cl j c v q1 q2 (hn j)).2 b hb))⟩
  ·rw [<-q3];exact ⟨(h2.cl i c v q1 q2 (hn i)).1,fun b hb=>hx b (.inr ((h2.cl i c v q1 q2 (hn i)).2 b hb))⟩
 ·intro b hb;rcases part j c v hc hv with ⟨_,q1,q2⟩|⟨i,e1,q1,q2,q3⟩<;>rcases part j' c' v' hc' hv' with ⟨_,p1,p2⟩|⟨i',e2,p1,p2,p3⟩
  ·exact h1.ap j j' c c' v v' hne q1 q2 (hn j) p1 p2 (hn j') b hb
  ·rw [<-p3];exact fun hb'=>hap b ((h1.cl j c v q1 q2 (hn j)).2 b hb).1 ((h2.cl i' c' v' p1 p2 (hn i')).2 b hb').1
  ·rw [<-q3] at hb;exact fun hb'=>hap b ((h1.cl j' c' v' p1 p2 (hn j')).2 b hb').1 ((h2.cl i c v q1 q2 (hn i)).2 b hb).1
  ·rw [<-q3] at hb;rw [<-p3];exact h2.ap i i' c c' v v' (by omega) q1 q2 (hn i) p1 p2 (hn i') b hb
end
section
variable {T:Tab} (P:Program) {R:Type}
def bsD (d:Nat) (fe:List TypeId) (t:TypeId) (len:Nat) (H:List (Ent T.U)) (l:List (Nat×AV T.U)) (K:AV T.U->List (Ent T.U)->Option R):Option R:=
 match Nat.beq len 1,jk1 T P t len l with
 |true,some (e,sz,cs)=>match Nat.beq sz (T.size d)&&Nat.beq cs.length (T.size d) with
  |true=>K (.own H.length) (H++ [.drow e d fe [T.d d] (some (0,cs))])
  |false=>none
 |_,_=>none
def kk6:List TypeId->List TypeId->Bool
 | [],[]=>true
 |a::r,b::s=>Nat.beq a b&&kk6 r s
 |_,_=>false
def kd2 (t:TypeId) (H:List (Ent T.U)) (k k2:Nat) (K:AV T.U->List (Ent T.U)->Option R):Option R:=
 match zl5 P t,H[k]?,H[k2]? with
 |some (e,sz,by_,_),some (.drow e1 d fe1 xs none),some (.drow e2 d2 fe2 ys none)=>
  if hd:d2=d then
   match Nat.beq sz (T.size d)&&(Nat.ble 1 sz&&(Nat.ble 1 by_&&(Nat.beq e1 e&&(Nat.beq e2 e&&(kk6 fe1 fe2&& !(Nat.beq k k2)))))) with
   |true=>if (xs.length+ys.length)*by_<=140737488355328 then K (.own H.length) (((H.set k .gone).set k2 .gone)++ [.drow e1 d fe1 (xs++hd▸ys) none]) else none
   |false=>none
  else none
 |_,_,_=>none
def qv1: ∀ {a b:List TypeId},kk6 a b=true->a=b
 | [],[],_=>rfl
 | [],_::_,h=>by cases h
 |_::_,[],h=>by cases h
 |x::a,y::b,h=>by
  unfold kk6 at h;rw [X3] at h;rw [X1 h.1,qv1 h.2]
end
section
variable {T:Tab} {P:Program} {C:Ctx T} {w w':World} {S S':List Nat} {φ φ':Nat->RA} {w0:World} {S0:Ow} {F:AF T} {H:List (Ent T.U)} {F':PF}
variable {ops:Array Oper} {Q:Exit->Act->World->Prop} {k n:Nat} {ds:List Deferred} {o:Oper}
def DC.one {e:TypeId} {c:Cell T.U} {v:Value} (h:DC T w S e c v):v.oneCell'=true:=by
 obtain ⟨t,x⟩:=c;have hcr:yj1 T w S ⟨t,x⟩ v->v.oneCell'=true:=fun h=>by
  have:=CellsR.one (T:=T) (cs:= [⟨t,x⟩]) (vs:= [v]) (w:=w) (S:=S) ⟨rfl,fun j c u h1 h2=>by
   cases j with
   |zero=>simp at h1 h2;subst h1;subst h2;exact h
   |succ j=>simp at h1⟩
  exact this v (by simp)
 cases t with
 |list t=>
  by_cases he:e=0
  ·exact hcr (h.1 he)
  ·obtain ⟨B,ad,cap,vals,rfl,_⟩:=h.2 he;rfl
 |_=>exact hcr h
def kp7 {R:Type} {r:R} {t:TypeId} {len:Nat} {ps:Array (Nat×Operand)} (hd:dec ops k n F'=some o) (hop:o.op=.buildSlice t len ps) {l:List (Nat×AV T.U)} (hl:zu0 T F ps.toList=some l) {d:Nat} {fe:List TypeId} {K0:AV T.U->List (Ent T.U)->Option R} (hK0:bsD P d fe t len H l K0=some r)
  (h:Sim T w0 S0 ⟨F,H⟩ F' w S φ) (K: ∀b H1,K0 b H1=some r->zp5 P ops Q (k+1) n ds w0 S0 (⟨za1 T F o.dst b,H1⟩:St T)):WR P ops Q k n ds F' w:=by
 unfold bsD at hK0;split at hK0<;>try (cases hK0;done)
 rename_i e0 sz0 cs0 hl1 hb;have hl1:=X1 hl1;subst hl1;split at hK0<;>try (cases hK0;done)
 rename_i hbz;rw [X3] at hbz;have hz1:=X1 hbz.1;have hz2:=X1 hbz.2;unfold jk1 at hb;split at hb
 ·rename_i et s1 by_ zc he;split at hb
  ·rename_i hok;simp only [X3] at hok;have hs1:=Y1 hok.1;have h16:=Y1 hok.2;split at hb
   ·rename_i cs1 hcs;split at hb
    case h_2=>cases hb
    rename_i hna;simp only [X0,X7] at hb;obtain ⟨rfl,rfl,rfl⟩:=hb;obtain ⟨i,zv,hu,hin,hzv,hsi,_,hzc,hzl⟩:=zb4 he;subst hzc;obtain ⟨e1,e2⟩:=zx1 h.fr hl;have hz0:VRL T w S φ ((List.range (1*s1)).map fun j=>yo6 T (zv.cells[j%s1]!)) ((Array.range (1*i.size)).map (zv.cells[· %zv.cells.size]!)).toList:=by
     rw [hsi,hzl,M6,T5];generalize List.range (1*s1)=rr;induction rr with
     |nil=>trivial
     |cons a r ih=>exact ⟨yi3 T _,ih⟩
    obtain ⟨c',g1,g2⟩:=ya3 hz0 e1 e2 hcs;have hbs:zv9 P t 1 (ps.toList.map fun p=>(p.1,evD F' p.2))=some (et,c'):=by
     unfold zv9;rw [hu];simp only [hin];rw [hsi,W5 h16];simp only;rw [hsi] at g1;have hfin:Instr.fill (fun j=>some (j*s1,s1)) ((Array.range (1*s1)).map (zv.cells[· %zv.cells.size]!)) (ps.toList.map fun p=>(p.1,evD F' p.2))=some c':=g1;cases hz:Nat.beq (1*s1) 0 with
     |true=>
      have:=X1 hz;simp only;rw [this] at hfin⊢;have hr0:Array.range 0= #[]:=rfl;rw [hr0] at hfin⊢;have em: ∀f:Nat->Value,Array.map f #[]= #[]:=fun f=>by simp
      rw [em] at hfin⊢;rw [hfin]
     |false=>simp only [hzv,hfin]
    have hpi: ∀i∈j8 cs1,i<H.length:=yj7 hcs (fun i hi=>by
     obtain ⟨a,ha,hia⟩:=zq0 hi;obtain ⟨j,_,rfl⟩:=U3.1 ha;rw [ys2] at hia;cases hia) (yo8 h hl)
    refine WR.bslice c' (jh6 hd hop hbs) fun g w' hN=>?_;have hS: ∀b∈g::S,b∈S\/w.heap.size<=b:=by
     intro b hb;rcases Z0.1 hb with rfl|hb
     ·exact .inr hN.fresh
     ·exact .inl hb
    have hcl:c'.size=cs1.length:=by have:=g2.len T;simpa using this.symm
    have htk:c'.toList.take (1*T.size d)=c'.toList:=Q4 (by rw [J9,hcl,hz2];omega);have hown:=Own.ofBlk hN.blk hN.fresh (W8 1) (by omega) (sz:=T.size d) (by rw [hcl,hz2];omega) _ htk;have hv:VRL T w' (g::S) (zu1 φ H.length ⟨some ⟨g,0,none⟩,1,1,[]⟩) cs1 c'.toList:=(g2.chg T hN.chg (by simp) hS).phi fun i hi=>zb8 (by have:=hpi i hi;omega);have hxl:([T.d d].flatMap (T.cells d)).length=1*T.size d:=u9 (T.len d) [T.d d];have hin0: ∀(j:Nat) (c:Cell T.U),([T.d d].flatMap (T.cells d))[j]?=some c->ju8 T (T.size d) (some (0,cs1)) j:=fun j c hj=>by
     have:=(X2.1 hj).1;rw [hxl] at this;exact ⟨by omega,by omega⟩
    have hadd:=h.add (r:=⟨some ⟨g,0,none⟩,1,1,[]⟩) hN.chg hN.fresh hN.blk.lt (fun a ha=>zv3 ha) (e:=.drow _ d fe [T.d d] (some (0,cs1)))
     ⟨w.heap.size,_,by rw [j5];exact hown,by rw [j5];rfl,hN.chg.size,fun a ha=>by rw [j5] at ha;simp only [X0] at ha;subst ha;simp,
      ⟨fun j c v q1 _ q3=>absurd (hin0 j c q1) q3,fun j j' c c2 v v' _ q1 _ q3=>absurd (hin0 j c q1) q3,fun a cs hq=>by
       simp only [X0,X7] at hq;obtain ⟨rfl,rfl⟩:=hq;exact ⟨by simp,hz2,fun f x hx=>by rw [M1,U0];exact hv.get T hx⟩⟩⟩ (by intro j hj;have:=hpi j hj;omega)
    exact K _ _ hK0 _ _ ⟨_,_,hadd.slot (a:=.own H.length) (by rw [VR,j5]) ⟨by intro i hi;simp [AV.ids] at hi;subst hi;simp,trivial⟩⟩
   ·cases hb
  ·cases hb
 ·cases hb
def kd3 {R:Type} {r:R} {c:Call} {sx xx:Operand} {t:TypeId} {i i2:Nat} (hd:dec ops k n F'=some o) (hop:o.op=.call c) (hc:c.callee=.builtin .append) (ha:c.args.toList= [sx,xx]) (hat:c.argTypes.toList= [t,t])
  (hx:aev T F sx=some (.own i)) (hy:aev T F xx=some (.own i2)) {K0:AV T.U->List (Ent T.U)->Option R} (hK0:kd2 P t H i i2 K0=some r) (h:Sim T w0 S0 ⟨F,H⟩ F' w S φ)
  (K: ∀b H1,K0 b H1=some r->zp5 P ops Q (k+1) n ds w0 S0 (⟨za1 T F o.dst b,H1⟩:St T)):WR P ops Q k n ds F' w:=by
 obtain ⟨X,h1,h2⟩:=z8 h.fr hx;obtain ⟨Y,h3,h4⟩:=z8 h.fr hy;rw [VR] at h2 h4;subst h2;subst h4;unfold kd2 at hK0;split at hK0<;>try (cases hK0;done)
 rename_i e sz by_ zc e1 d fe1 xs e2 d2 fe2 ys he hi hi2;split at hK0<;>try (cases hK0;done)
 rename_i hdd;subst hdd;split at hK0<;>try (cases hK0;done)
 rename_i hb;simp only [X3,V4] at hb;obtain ⟨b1,b2,b3,b4,b5,b6,b7⟩:=hb;have b1:=X1 b1;subst b1;have b4:=X1 b4;subst b4;have b5:=X1 b5;subst b5;have b6:=qv1 b6;subst b6;have hs1:=Y1 b2;have hby:=Y1 b3;have hne:i≠i2:=fun e=>by subst e;rw [J7] at b7;cases b7
 obtain ⟨hle,hK⟩:=q7 hK0;clear hK0;obtain ⟨B,vals,o1,o2,o3,o4,o5⟩:=h.ents i _ hi;obtain ⟨B2,vals2,p1,p2,p3,p4,p5⟩:=h.ents i2 _ hi2;have hda:=jo5 hd hop hc ha hat;rw [j6 h1,j6 h3] at hda;rw [o2] at o1 hda;rw [p2] at p1 hda;have hle':xs.length+ys.length<=140737488355328:=W9 (Nat.le_mul_of_pos_right _ hby) hle;have hone: ∀u∈vals2,u.oneCell'=true:=fun u hu=>by
  obtain ⟨j,hj⟩:=Y9.1 hu;have hjl:=(X2.1 hj).1;rw [p1.len] at hjl;have hcl:(ys.flatMap (T.cells d2)).length=ys.length*T.size d2:=u9 (T.len d2) ys;exact ((p5.cl j _ u (Y0 (by rw [hcl];exact hjl)) hj (fun h=>h)).1).one
 refine WR.append o1 p1.rg hda he p1.len hs1 hone o3 (by omega) hle (fun hn=>p1.nil0 hn) fun ad' cap' w' g1 g2 g3=>?_;have hblk: ∀b∈zb2 (φ i).ad,∃a,(φ i).ad=some a/\a.block=b:=fun b hb=>by
  cases hq:(φ i).ad with
  |none=>rw [hq] at hb;cases hb
  |some a=>rw [hq] at hb;simp only [zb2,Q5] at hb;exact ⟨a,rfl,hb.symm⟩
 have q4: ∀b∈zb2 (φ i).ad,b∈S:=fun b hb=>by obtain ⟨a,ha,rfl⟩:=hblk b hb;exact o4 a ha
 have qc: ∀b∈zb2 (φ i).ad,b∈S0.chg\/w0.heap.size<=b:=fun b hb=>by obtain ⟨a,ha,rfl⟩:=hblk b hb;exact (h.lives i _ hi rfl a (.inl ha)).2
 have hS1: ∃S1:List Nat,(∀b∈S,b∈S1)/\(∀b∈S1,b∈S\/(w.heap.size<=b/\b<w'.heap.size))/\(∀q,ad'=some q->q.block∈S1)/\ ∀q,ad'=some q->w.heap.size<=q.block\/q.block∈zb2 (φ i).ad:=by
  cases ad' with
  |none=>exact ⟨S,fun _ h=>h,fun _ h=>.inl h,fun q h=>(by cases h),fun q h=>(by cases h)⟩
  |some q=>
   have hlt:q.block<w'.heap.size:=by
    rcases g1.ge with hn|hn
    ·cases hn
    ·exact hn.2
   have hor:w.heap.size<=q.block\/q.block∈zb2 (φ i).ad:=by
    rcases g3 with g3|g3
    ·right;rw [<-g3];simp [zb2]
    ·left;exact g3
   refine ⟨q.block::S,fun b hb=>Z4 _ hb,fun b hb=>?_,fun q' h=>by simp only [X0] at h;subst h;simp,fun q' h=>by simp only [X0] at h;subst h;exact hor⟩;rcases Z0.1 hb with rfl|hb
   ·rcases hor with hor|hor
    ·exact .inr ⟨hor,hlt⟩
    ·exact .inl (q4 _ hor)
   ·exact .inl hb
 obtain ⟨S1,s1,s2,s3,s4⟩:=hS1;have s2': ∀b∈S1,b∈S\/w.heap.size<=b:=fun b hb=>(s2 b hb).imp id And.left;have get: ∀(j:Nat) (f:Ent T.U),((H.set i .gone).set i2 .gone)[j]?=some f->f.live=true->j≠i/\j≠i2/\H[j]?=some f:=fun j f hf hl=>by
  obtain ⟨k1,hf⟩:=zm1 hf hl;obtain ⟨k2,hf⟩:=zm1 hf hl;exact ⟨k2,k1,hf⟩
 have o6:=(h.drop i).drop i2;have d1:=o5.chg T g2 q4 s2' (fun b hb hn hm=>by obtain ⟨a,ha,e⟩:=hblk b hm;exact hn a ha e);have d2':=p5.chg T g2 q4 s2' (fun b hb hn hm=>by
  obtain ⟨a,ha,e⟩:=hblk b hm;exact h.apart i i2 _ _ hi hi2 rfl rfl hne a ⟨b,0,none⟩ (.inl ha) (.inr hb) e)
 obtain ⟨fam,hfam⟩: ∃fam:List Nat,∀b,b∈fam↔(b∈(φ i).xs\/b∈(φ i2).xs)/\ ∀a,ad'=some a->a.block≠b:=by
  cases ad' with
  |none=>exact ⟨(φ i).xs++(φ i2).xs,fun b=>by simp⟩
  |some a=>exact ⟨((φ i).xs++(φ i2).xs).filter (fun b=> !(a.block==b)),fun b=>by
   simp only [W3,X4,V4,beq_eq_false_iff_ne,X0,forall_eq',ne_eq]⟩
 have hold: ∀b,b∈(φ i).xs\/b∈(φ i2).xs->b∈S/\(b∈S0.chg\/w0.heap.size<=b)/\ ∀(j:Nat) (f:Ent T.U),((H.set i .gone).set i2 .gone)[j]?=some f->f.live=true-> ∀a,At (φ j) a->a.block≠b:=by
  rintro b (hb|hb)
  ·have:=h.lives i _ hi rfl ⟨b,0,none⟩ (.inr hb);exact ⟨this.1,this.2,fun j f hf hl a ha e=>by obtain ⟨k1,_,k3⟩:=get j f hf hl;exact h.apart j i _ _ k3 hi hl rfl k1 a ⟨b,0,none⟩ ha (.inr hb) e⟩
  ·have:=h.lives i2 _ hi2 rfl ⟨b,0,none⟩ (.inr hb);exact ⟨this.1,this.2,fun j f hf hl a ha e=>by obtain ⟨_,k2,k3⟩:=get j f hf hl;exact h.apart j i2 _ _ k3 hi2 hl rfl k2 a ⟨b,0,none⟩ ha (.inr hb) e⟩
 have hadd:=o6.addG2 g2 q4 qc (fun j f hf hl a ha hm=>by
   obtain ⟨k1,_,k3⟩:=get j f hf hl;obtain ⟨q,hq,e⟩:=hblk _ hm;exact h.apart j i _ _ k3 hi hl rfl k1 a q ha (.inl hq) e.symm) s1 s2 (r:=⟨ad',xs.length+ys.length,cap',fam⟩)
  (fun a ha=>by
   rcases ha with ha|ha
   ·exact (s4 a ha).imp id .inl
   ·have:=hold _ ((hfam _).1 ha).1;exact .inr (.inr ⟨this.2.1,this.2.2⟩))
  (fun a ha=>by
   rcases ha with ha|ha
   ·exact s3 a ha
   ·exact s1 _ (hold _ ((hfam _).1 ha).1).1) (e:=.drow _ d2 fe1 (xs++ys) none)
  ⟨B,vals++vals2,by rw [j5];exact g1,by rw [j5,X9],W9 o3 g2.size,fun q hq=>by rw [j5] at hq;exact s3 q hq,
   by
    rw [j5];refine d1.append d2' o1.len (fun b hb=>?_) fun b hb hb2=>h.apart i i2 _ _ hi hi2 rfl rfl hne ⟨b,0,none⟩ ⟨b,0,none⟩ (.inr hb) (.inr hb2) rfl;have hne': ∀a,ad'=some a->a.block≠b:=fun a ha e=>by
     rcases s4 a ha with hg|hg
     ·have:b∈S:=by rcases hb with hb|hb;exact (hold b (.inl hb.1)).1;exact (hold b (.inr hb.1)).1
      have:=(h.own b this).2;omega
     ·obtain ⟨q,hq,e2⟩:=hblk _ hg;rcases hb with hb|hb
      ·exact hb.2 q hq (e2.trans e)
      ·exact h.apart i i2 _ _ hi hi2 rfl rfl hne q ⟨b,0,none⟩ (.inl hq) (.inr hb.1) (e2.trans e)
    exact ⟨(hfam b).2 ⟨hb.imp And.left And.left,hne'⟩,hne'⟩⟩ (by intro q hq;cases hq)
 have hlen:((H.set i Ent.gone).set i2 Ent.gone).length=H.length:=by simp
 rw [hlen] at hadd;refine K _ _ hK _ _ ⟨_,_,hadd.slot (a:=.own H.length) (by rw [VR,j5]) ⟨?_,trivial⟩⟩;intro q hq;simp [AV.ids] at hq;subst hq;rw [X9,hlen];simp
end
section
variable {T:Tab} (P:Program) (C:Ctx T) {R:Type}
def zx3 (o:Oper) (st:St T) (K:St T->Option R):Option (Option R):=
 match o.op with
 | .buildSlice t len ps=>match C.dr t,zu0 T st.F ps.toList with
  |some (d,fe),some l=>some (bsD P d fe t len st.H l fun a H=>K ⟨za1 T st.F o.dst a,H⟩)
  |_,_=>none
 | .call c=>match c.callee,c.args.toList,c.argTypes.toList with
  | .builtin .append,[sx,xx],[t,t']=>match C.dr t,aev T st.F sx,aev T st.F xx with
   |some _,some (.own i),some (.own i2)=>match Nat.beq t t' with
    |true=>some (kd2 P t (zm9 T (zm9 T st.H i) i2) i i2 fun a H=>K ⟨za1 T st.F o.dst a,H⟩)
    |false=>none
   |_,_,_=>none
  |_,_,_=>none
 |_=>none
def zg1 (o:Oper) (st:St T) (K:St T->Option R) (Kp:AV T.U->St T->Option R):Option R:=
 match zm5 P C o st K with
 |some z=>z
 |none=>match zx3 P C o st K with
  |some z=>z
  |none=>zl7 P C o st K Kp
end
section
variable {T:Tab} {P:Program} {C:Ctx T} {w:World} {S:List Nat} {φ:Nat->RA} {w0:World} {S0:Ow} {F:AF T} {H:List (Ent T.U)} {F':PF}
variable {ops:Array Oper} {Q:Exit->Act->World->Prop} {k n:Nat} {ds:List Deferred} {o:Oper}
def yz8 {R:Type} {r:R} (hd:dec ops k n F'=some o) {K:St T->Option R} (hz:zx3 P C o ⟨F,H⟩ K=some (some r)) (h:Sim T w0 S0 ⟨F,H⟩ F' w S φ)
  (HK: ∀st,K st=some r->zp5 P ops Q (k+1) n ds w0 S0 st):WR P ops Q k n ds F' w:=by
 unfold zx3 at hz;split at hz<;>try (cases hz;done)
 ·rename_i t len ps hop;split at hz<;>try (cases hz;done)
  rename_i d fe l hdr hl;exact kp7 hd hop hl (X5 hz) h fun a H1 ha=>HK _ ha
 ·rename_i c hop;split at hz<;>try (cases hz;done)
  rename_i sx xx t t' hc ha hat;split at hz<;>try (cases hz;done)
  rename_i dr i i2 hdr hx hy;split at hz<;>try (cases hz;done)
  rename_i hb;have:=X1 hb;subst this;obtain ⟨S1,φ1,h1⟩:=zy8 (k:=i2) (zy8 (k:=i) ⟨S,φ,h⟩);exact kd3 hd hop hc ha hat hx hy (X5 hz) h1 fun a H1 ha=>HK _ ha
def yz7 {R:Type} {r:R} (hE:za0 T P C.E) (hd:dec ops k n F'=some o) {K:St T->Option R} {Kp:AV T.U->St T->Option R} (hs:zg1 P C o ⟨F,H⟩ K Kp=some r) (h:Sim T w0 S0 ⟨F,H⟩ F' w S φ)
  (HK: ∀st,K st=some r->zp5 P ops Q (k+1) n ds w0 S0 st) (HP: ∀a st,Kp a st=some r->yn5 Q n ds w0 S0 a st):WR P ops Q k n ds F' w:=by
 unfold zg1 at hs;split at hs
 ·rename_i z hz;exact yz9 hd hz hs h HK
 ·split at hs
  ·rename_i z hz;subst hs;exact yz8 hd hz h HK
  ·exact qc9 hE hd hs h HK HP
end
end Go.X
namespace Go.X
open Go.RowKit Go.V
def z7 {R:Type} (c:Bool) (x y:Option R):Option R:=if c=true then x else y
def zc7 {R:Type} {c:Bool} {x y:Option R} {r:R} (h:z7 c x y=some r):(c=true/\x=some r)\/(c=false/\y=some r):=by
 unfold z7 at h;cases c
 ·exact .inr ⟨rfl,by simpa using h⟩
 ·exact .inl ⟨rfl,by simpa using h⟩
section
variable {T:Tab} (P:Program) (C:Ctx T) {R:Type}
def vy1 (et:TypeId):Bool:=match (P.info? et).bind (·.zero) with|some (.pointer none)=>true|_=>false
def gc6 (H:List (Ent T.U)) (i:Nat) (k:IntKind) (be:TypeId) (d:Nat) (m:List (Int×T.U d)) (op:Option (Int×Nat)) (x:Int) (a:AV T.U) (K:List (Ent T.U)->Option R):Option R:=
 match a with
 | .ptr j o=>match H[j]?,Nat.beq o 0 with
  |some (.blk be' cs),true=>match Nat.beq be' be with
   |true=>match op with
    |none=>match T.rb d cs with|some u=>K (H.set i (.pmap k be d (k8 m x u) (some (x,j))))|none=>none
    |some (y,j')=>match Nat.beq j' j with|true=>if y=x then K H else none|false=>none
   |false=>none
  |_,_=>none
 |_=>none
def gc2 (H:List (Ent T.U)) (i:Nat) (k:IntKind) (be:TypeId) (d:Nat) (m:List (Int×T.U d)) (op:Option (Int×Nat)) (x:Int) (K:List (Ent T.U)->Option R):Option R:=
 match op with
 |none=>K (H.set i (.pmap k be d (zc9 m x) none))
 |some (y,_)=>if y=x then K (H.set i (.pmap k be d (zc9 m x) none)) else none
def yu4 (t:TypeId) (k' kx:IntKind):Option TypeId:=match yu8 P t with|some (k,_,et)=>(match zc4 k k'&&zc4 kx k' with|true=>some et|false=>none)|none=>none
def kl0 (o:Oper) (st:St T) (K:St T->Option R) (t:TypeId) (xm xk xv:Operand):Option (Option R):=
 match o.dst,aev T st.F xm,aev T st.F xk,aev T st.F xv with
 |none,some (.mp i),some (.cell ⟨.int kx,x⟩),some a=>match st.H[i]? with
  |some (.pmap k' be d m op)=>some (match yu4 P t k' kx with
   |some _=>gc6 st.H i k' be d m op x a fun H1=>K ⟨st.F,H1⟩
   |none=>none)
  |_=>none
 |_,_,_,_=>none
def kc3 (o:Oper) (st:St T) (K:St T->Option R):Option (Option R):=
 match o.op with
 | .makeMap t none=>match yu8 P t,C.pm t with
  |some (k,_,_),some (be,d)=>some (K ⟨za1 T st.F o.dst (.mp st.H.length),st.H++ [.pmap k be d [] none]⟩)
  |_,_=>none
 | .lookup t xm xk false=>match aev T st.F xm,aev T st.F xk with
  |some (.mp i),some (.cell ⟨.int kx,x⟩)=>match st.H[i]? with
   |some (.pmap k' be d m none)=>some (match yu4 P t k' kx with
    |some et=>match vy1 P et with
     |true=>z7 (zf1 m x) (K ⟨za1 T st.F o.dst (.ptr st.H.length 0),st.H.set i (.pmap k' be d m (some (x,st.H.length)))++ [.blk be (T.bl d (zb7 T (.user d) m x))]⟩) (K ⟨za1 T st.F o.dst (.raw (.pointer none)),st.H⟩)
     |false=>none
    |none=>none)
   |_=>none
  |_,_=>none
 | .insert t xm xk xv=>kl0 P o st K t xm xk xv
 | .mapUpdate t xm xk xv=>kl0 P o st K t xm xk xv
 | .call c=>match c.callee with
  | .builtin .delete=>match zn8 T st.F c.args.toList,c.argTypes.toList with
   |some [.mp i,.cell ⟨.int kx,x⟩],t::_=>match st.H[i]? with
    |some (.pmap k' be d m op)=>some (match yu4 P t k' kx with
     |some _=>gc2 st.H i k' be d m op x fun H1=>K ⟨za1 T st.F o.dst (.tup []),H1⟩
     |none=>none)
    |_=>none
   |_,_=>none
  |_=>none
 |_=>none
end
section
variable {T:Tab} {P:Program} {C:Ctx T} {w w':World} {S S':List Nat} {φ φ':Nat->RA} {w0:World} {S0:Ow} {F:AF T} {H:List (Ent T.U)} {F':PF}
variable {ops:Array Oper} {Q:Exit->Act->World->Prop} {k n:Nat} {ds:List Deferred} {o:Oper}
def yd4 {t et:TypeId} {k' kx:IntKind} (h:yu4 P t k' kx=some et):kx=k'/\ ∃kt,yu8 P t=some (k',kt,et):=by
 unfold yu4 at h;split at h<;>try (cases h;done)
 rename_i k kt et' hm;split at h<;>try (cases h;done)
 rename_i hb;rw [X3] at hb;have b1:=k9 hb.1;have b2:=k9 hb.2;subst b1;subst b2;simp only [X0] at h;subst h;exact ⟨rfl,kt,hm⟩
def kl3 {d:Nat} {kd:IntKind} {x:Int}: ∀ {m:List (Int×T.U d)} {l:List MapEntry} (i:Nat),m.length=l.length->(∀(p:Nat) (y:Int) (u:T.U d) (e:MapEntry),m[p]?=some (y,u)->l[p]?=some e->e.key=.int kd y)->
  (Instr.findNow (.int kd) (.int kd x) l i=some none/\zf1 m x=false/\(∀a,k8 m x a=m++ [(x,a)])/\zc9 m x=m/\(∀e∈l,e.key≠.int kd x)/\x∉m.map Prod.fst)\/
  ∃(j:Nat) (e:MapEntry) (u:T.U d),Instr.findNow (.int kd) (.int kd x) l i=some (some (i+j,e.val))/\l[j]?=some e/\m[j]?=some (x,u)/\e.key=.int kd x/\zf1 m x=true/\zb7 T (.user d) m x=u/\(∀a,k8 m x a=m.set j (x,a))/\zc9 m x=m.eraseIdx j
 | [],[],_,_,_=>.inl ⟨rfl,rfl,fun _=>rfl,rfl,by simp,by simp⟩
 | [],_::_,_,h,_=>by simp at h
 |_::_,[],_,h,_=>by simp at h
 |(y,a)::r,e::l,i,hl,h=>by
  have h1:=h 0 y a e rfl rfl;by_cases hx:x=y
  ·subst hx;refine .inr ⟨0,e,a,?_,rfl,rfl,h1,by simp [zf1],(if_pos rfl:(if x=x then a else zb7 T (.user d) r x)=a),fun b=>by simp [k8],by simp [zc9]⟩;unfold Instr.findNow;rw [h1];simp [Instr.sameNow]
  ·have hf:Instr.findNow (.int kd) (.int kd x) (e::l) i=Instr.findNow (.int kd) (.int kd x) l (i+1):=by
    rw [Instr.findNow,h1];simp only [Instr.sameNow,if_true];rw [show (x==y)=false from by simpa using hx]
   rcases kl3 (x:=x) (i+1) (by simpa using hl) (fun p z u e h2 h3=>h (p+1) z u e (by simpa using h2) (by simpa using h3)) with ⟨g1,g2,g4,g5,g6,g7⟩|⟨j,e',u,g1,g2,g3,g4,g5,g6,g7,g8⟩
   ·refine .inl ⟨hf.trans g1,by simp [zf1,hx,g2],fun b=>by simp [k8,hx,g4],by simp [zc9,hx,g5],?_,by simp only [U1,Z0,not_or];exact ⟨hx,g7⟩⟩;intro q hq;rcases Z0.1 hq with rfl|hq
    ·rw [h1];simp;exact fun e=>hx e.symm
    ·exact g6 q hq
   ·exact .inr ⟨j+1,e',u,by rw [hf,g1];simp;omega,by simpa using g2,by simpa using g3,g4,by simp [zf1,hx,g5],(if_neg hx:(if x=y then a else zb7 T (.user d) r x)=zb7 T (.user d) r x).trans g6,fun b=>by simp [k8,hx,g7],by simp [zc9,hx,g8]⟩
def PRel.find {r:RA} {kd:IntKind} {be:TypeId} {d:Nat} {m:List (Int×T.U d)} {op:Option (Int×Nat)} {l:List MapEntry} {bs:List Nat} (h:PRel T w S φ r kd be d m op l bs) (x:Int):
  (Instr.findNow (.int kd) (.int kd x) l 0=some none/\zf1 m x=false/\(∀a,k8 m x a=m++ [(x,a)])/\zc9 m x=m/\(∀e∈l,e.key≠.int kd x)/\x∉m.map Prod.fst)\/
  ∃(j:Nat) (e:MapEntry) (u:T.U d) (b:Nat),Instr.findNow (.int kd) (.int kd x) l 0=some (some (j,e.val))/\l[j]?=some e/\m[j]?=some (x,u)/\bs[j]?=some b/\e.key=.int kd x/\zf1 m x=true/\zb7 T (.user d) m x=u/\(∀a,k8 m x a=m.set j (x,a))/\zc9 m x=m.eraseIdx j/\PV T w S φ r be d op x u e.val b:=by
 have hb: ∀ {p:Nat},p<m.length-> ∃b,bs[p]?=some b:=fun {p} hp=>⟨bs[p]'(by rw [<-h.lenb];exact hp),Y0 _⟩;rcases kl3 (x:=x) 0 h.len (fun p y u e h1 h2=>by obtain ⟨b,h3⟩:=hb (X2.1 h1).1;exact (h.at_ p y u e b h1 h2 h3).1) with g|⟨j,e,u,g1,g2,g3,g4,g5,g6,g7,g8⟩
 ·exact .inl g
 ·obtain ⟨b,hb⟩:=hb (X2.1 g3).1;exact .inr ⟨j,e,u,b,by rw [g1,U0],g2,g3,hb,g4,g5,g6,g7,g8,(h.at_ j x u e b g3 g2 hb).2⟩
def jv0 {α:Type} {m:List (Int×α)} (hn:(m.map Prod.fst).Nodup) {p q:Nat} {x:Int} {a b:α} (hp:m[p]?=some (x,a)) (hq:m[q]?=some (x,b)):p=q:=by
 have h1:=(X2.1 hp).1;have h2:=(X2.1 hq).1;refine (List.getElem_inj (h₀:=by simpa using h1) (h₁:=by simpa using h2) hn).1 ?_;have e1:=(X2.1 hp).2;have e2:=(X2.1 hq).2;simp [e1,e2]
def jf0 {x y:Int} {j:Nat} (h:y≠x):jl4 (some (y,j)) x=none:=if_neg h
def zq1 {x:Int} {j:Nat}:jl4 (some (x,j)) x=some j:=if_pos rfl
def jq4 {α:Type} {m:List (Int×α)} {j:Nat} {x:Int} {u a:α} (h:m[j]?=some (x,u)):(m.set j (x,a)).map Prod.fst=m.map Prod.fst:=by
 refine R9 fun q=>?_;have hj:=(X2.1 h).1;rw [W4,W4];by_cases e:j=q
 ·subst e;rw [Q0 hj,h];rfl
 ·rw [Z5 e]
def PRel.put {r:RA} {kd:IntKind} {be:TypeId} {d:Nat} {m:List (Int×T.U d)} {l:Array MapEntry} {bs:List Nat} {x:Int} {u:T.U d} {j b c:Nat} (h:PRel T w S φ r kd be d m none l.toList bs) (hj:(φ j).ad=some ⟨b,0,none⟩) (hst:MapKept.Stamped l c):
  ∃(l':Array MapEntry) (c':Nat) (bs':List Nat),MapKept.Stamped l' c'/\PRel T w S φ r kd be d (k8 m x u) (some (x,j)) l'.toList bs'/\ ∀ {w1:World} {g:Nat} {t kt et:TypeId},yu8 P t=some (kd,kt,et)->Mp w1 g l c->
   (Instr.mapUpdate t (.map (some g)) (.int kd x) (.pointer (some ⟨b,0,none⟩))).run P w1=.ok () {w1 with heap:=w1.heap.setIfInBounds g (.map l' c')}:=by
 rcases h.find x with ⟨g1,g2,g3,g4,g5,g6⟩|⟨p,e,u0,b0,g1,g2,g3,g4,g5,g6,g7,g8,g9,g10⟩
 ·refine ⟨l.push {key:=.int kd x,val:=.pointer (some ⟨b,0,none⟩),born:=c},c+1,bs++ [b],MapKept.stamped_push hst g5,?_,fun {w1 g t kt et} hmk hm=>?_⟩
  ·rw [g3,Array.toList_push];have old: ∀ {q:Nat} {y:Int} {v:T.U d},(m++ [(x,u)])[q]?=some (y,v)->(m[q]?=some (y,v)/\y≠x)\/(q=m.length/\y=x/\v=u):=fun {q y v} hq=>by
    by_cases hlt:q<m.length
    ·rw [X8 hlt] at hq;exact .inl ⟨hq,fun e=>g6 (e▸U3.2 ⟨(y,v),X6 hq,rfl⟩)⟩
    ·rw [Z2 (by omega)] at hq;have:q-m.length=0:=by have:=(X2.1 hq).1;simp at this;omega
     rw [this] at hq;simp at hq;exact .inr ⟨by omega,hq.1.symm,hq.2.symm⟩
   refine ⟨by simp [h.len],by simp [h.lenb],?_,fun q y v e1 b1 h1 h2 h3=>?_,fun q q' y y' v v' b1 hq h1 h2 h3 h4 h5=>?_,fun y i hy=>?_⟩
   ·rw [J0,List.nodup_append];refine ⟨h.nd,by simp,fun a ha b hb=>?_⟩;simp at hb;subst hb;exact fun e=>g6 (e▸ha)
   ·rcases old h1 with ⟨q1,q2⟩|⟨rfl,rfl,rfl⟩
    ·have hlt:=(X2.1 q1).1;rw [X8 (by rw [<-h.len];exact hlt)] at h2;rw [X8 (by rw [<-h.lenb];exact hlt)] at h3;obtain ⟨k1,k2,k3,k4⟩:=h.at_ q y v e1 b1 q1 h2 h3;exact ⟨k1,k2,fun i hi=>(by rw [jf0 (Ne.symm q2)] at hi;cases hi),fun _=>k4 rfl⟩
    ·rw [h.len] at h2;simp at h2;rw [h.lenb] at h3;simp at h3;subst h2;subst h3;exact ⟨rfl,rfl,fun i hi=>(by rw [zq1] at hi;cases hi;exact hj),fun hn=>(by rw [zq1] at hn;cases hn)⟩
   ·rcases old h1 with ⟨q1,q2⟩|⟨_,rfl,_⟩
    ·rcases old h2 with ⟨r1,r2⟩|⟨_,rfl,_⟩
     ·have hlt:=(X2.1 q1).1;have hlt':=(X2.1 r1).1;rw [X8 (by rw [<-h.lenb];exact hlt)] at h5;rw [X8 (by rw [<-h.lenb];exact hlt')];exact h.ap q q' y y' v v' b1 hq q1 r1 rfl rfl h5
     ·rw [zq1] at h4;cases h4
    ·rw [zq1] at h3;cases h3
   ·simp only [X0,X7] at hy;rw [<-hy.1];simp
  ·obtain ⟨hu,hkd⟩:=zc6 (zf4 hmk);have hb:w1.heap[g]?=some (.map l c):=hm;simp [Instr.mapUpdate,run_underlying hu,MapKept.run_getObj_map hb,MapKept.run_checkKey hkd (show MapKept.IsKey (.int kd) (.int kd x) from rfl),MapKept.run_findKey hkd g1,MapKept.run_setObj_map _ hb,Result.andThen]
 ·have g2':l[p]?=some e:=by simpa using g2
  have hlt:p<l.size:=by have:=(X2.1 g2).1;simpa using this
  have hl':(l.modify p fun e=> {e with key:=.int kd x,val:=.pointer (some ⟨b,0,none⟩)}).toList=l.toList.modify p fun e=> {e with key:=.int kd x,val:=.pointer (some ⟨b,0,none⟩)}:=by simp
  refine ⟨l.modify p fun e=> {e with key:=.int kd x,val:=.pointer (some ⟨b,0,none⟩)},c,bs.set p b,MapKept.stamped_modify hst p _ (fun _ _=>rfl) fun e1 _ he=>?_,?_,fun {w1 g t kt et} hmk hm=>?_⟩
  ·rw [g2'] at he;have:=X5 he;subst this;exact g5.symm
  ·rw [hl',g8];have hpl:=(X2.1 g3).1;have old: ∀ {q:Nat} {y:Int} {v:T.U d},(m.set p (x,u))[q]?=some (y,v)->(q≠p/\m[q]?=some (y,v)/\y≠x)\/(q=p/\y=x):=fun {q y v} hq=>by
    by_cases he:p=q
    ·subst he;rw [Q0 hpl] at hq;simp at hq;exact .inr ⟨rfl,hq.1.symm⟩
    ·rw [Z5 he] at hq;exact .inl ⟨Ne.symm he,hq,fun e=>he (by subst e;exact jv0 h.nd g3 hq)⟩
   refine ⟨by simp [h.len],by simp [h.lenb],by rw [jq4 g3];exact h.nd,fun q y v e1 b1 h1 h2 h3=>?_,fun q q' y y' v v' b1 hq h1 h2 h3 h4 h5=>?_,fun y i hy=>?_⟩
   ·rcases old h1 with ⟨q0,q1,q2⟩|⟨rfl,rfl⟩
    ·rw [List.getElem?_modify_ne _ _ (Ne.symm q0)] at h2;rw [Z5 (Ne.symm q0)] at h3;obtain ⟨k1,k2,k3,k4⟩:=h.at_ q y v e1 b1 q1 h2 h3;exact ⟨k1,k2,fun i hi=>(by rw [jf0 (Ne.symm q2)] at hi;cases hi),fun _=>k4 rfl⟩
    ·rw [List.getElem?_modify_eq,g2] at h2;rw [Q0 (by rw [<-h.lenb];exact hpl)] at h3;simp at h2 h3;subst h2;subst h3;exact ⟨rfl,rfl,fun i hi=>(by rw [zq1] at hi;cases hi;exact hj),fun hn=>(by rw [zq1] at hn;cases hn)⟩
   ·rcases old h1 with ⟨q0,q1,q2⟩|⟨_,rfl⟩
    ·rcases old h2 with ⟨r0,r1,r2⟩|⟨_,rfl⟩
     ·rw [Z5 (Ne.symm q0)] at h5;rw [Z5 (Ne.symm r0)];exact h.ap q q' y y' v v' b1 hq q1 r1 rfl rfl h5
     ·rw [zq1] at h4;cases h4
    ·rw [zq1] at h3;cases h3
   ·simp only [X0,X7] at hy;rw [jq4 g3,<-hy.1];exact U3.2 ⟨_,X6 g3,rfl⟩
  ·obtain ⟨hu,hkd⟩:=zc6 (zf4 hmk);have hb:w1.heap[g]?=some (.map l c):=hm;have g2'':l[p]=e:=by rw [Z6 hlt] at g2';exact X5 g2'
   simp [Instr.mapUpdate,run_underlying hu,MapKept.run_getObj_map hb,MapKept.run_checkKey hkd (show MapKept.IsKey (.int kd) (.int kd x) from rfl),MapKept.run_findKey hkd g1,MapKept.run_setObj_map _ hb,Result.andThen,g2',g2'',g5,MapKept.run_keyThatStays (show MapKept.IsKey (.int kd) (.int kd x) from rfl)]
def PRel.out {r:RA} {kd:IntKind} {be:TypeId} {d:Nat} {m:List (Int×T.U d)} {op:Option (Int×Nat)} {l:Array MapEntry} {bs:List Nat} {x:Int} {c:Nat} (h:PRel T w S φ r kd be d m op l.toList bs) (hop: ∀y j,op=some (y,j)->y=x) (hst:MapKept.Stamped l c):
  ∃(l':Array MapEntry) (bs':List Nat),MapKept.Stamped l' c/\PRel T w S φ r kd be d (zc9 m x) none l'.toList bs'/\ ∀ {w1:World} {g:Nat} {t kt et ty':TypeId} {at2:List TypeId},yu8 P t=some (kd,kt,et)->Mp w1 g l c->
   ∃w2,(Builtin.delete_ (t::at2).toArray ty' #[.map (some g),.int kd x]).run P w1=.ok (.tuple #[]) w2/\(w2=w1/\l'=l\/w2= {w1 with heap:=w1.heap.setIfInBounds g (.map l' c)}):=by
 have hopn: ∀y,y≠x->jl4 op y=none:=fun y hy=>by
  cases op with
  |none=>rfl
  |some p=>obtain ⟨z,j⟩:=p;rw [hop z j rfl];exact jf0 (Ne.symm hy)
 rcases h.find x with ⟨g1,g2,g3,g4,g5,g6⟩|⟨p,e,u0,b0,g1,g2,g3,g4,g5,g6,g7,g8,g9,g10⟩
 ·have hne: ∀ {q:Nat} {y:Int} {v:T.U d},m[q]?=some (y,v)->y≠x:=fun {q y v} hq e=>g6 (e▸U3.2 ⟨(y,v),X6 hq,rfl⟩);refine ⟨l,bs,hst,?_,fun {w1 g t kt et ty' at2} hmk hm=>⟨w1,?_,.inl ⟨rfl,rfl⟩⟩⟩
  ·rw [g4];refine ⟨h.len,h.lenb,h.nd,fun q y v e1 b1 h1 h2 h3=>?_,fun q q' y y' v v' b1 hq h1 h2 _ _=>h.ap q q' y y' v v' b1 hq h1 h2 (hopn y (hne h1)) (hopn y' (hne h2)),fun y j hy=>(by cases hy)⟩;obtain ⟨k1,k2,k3,k4⟩:=h.at_ q y v e1 b1 h1 h2 h3;exact ⟨k1,k2,fun i hi=>(by cases hi),fun _=>k4 (hopn y (hne h1))⟩
  ·obtain ⟨hu,hkd⟩:=zc6 (zf4 hmk);have hb:w1.heap[g]?=some (.map l c):=hm;have hself:w1.heap.setIfInBounds g (.map l c)=w1.heap:=by
    refine Array.ext_getElem? fun q=>?_;by_cases e:g=q
    ·subst e;have:=(Y3.1 hb).1;rw [Array.getElem?_setIfInBounds_self_of_lt this,hb]
    ·rw [Array.getElem?_setIfInBounds_ne e]
   simp [Builtin.delete_,run_underlying hu,MapKept.run_getObj_map hb,MapKept.run_checkKey hkd (show MapKept.IsKey (.int kd) (.int kd x) from rfl),MapKept.run_findKey hkd g1,MapKept.run_setObj_map _ hb,Result.andThen,hself]
 ·have hlt:p<l.size:=by have:=(X2.1 g2).1;simpa using this
  refine ⟨l.eraseIdxIfInBounds p,bs.eraseIdx p,MapKept.stamped_erase hst p,?_,fun {w1 g t kt et ty' at2} hmk hm=>⟨_,?_,.inr rfl⟩⟩
  ·have hel:(l.eraseIdxIfInBounds p).toList=l.toList.eraseIdx p:=by
    unfold Array.eraseIdxIfInBounds;rw [dif_pos hlt,Array.toList_eraseIdx]
   rw [hel,g9]
   let f:Nat->Nat:=fun q=>if q<p then q else q+1
   have fe: ∀ {α:Type} (a:List α) (q:Nat),(a.eraseIdx p)[q]?=a[f q]?:=fun a q=>by
    rw [List.getElem?_eraseIdx];simp only [f];split<;>rfl
   have fp: ∀q,f q≠p:=fun q=>by simp only [f];split<;>omega
   have fi: ∀q q',q≠q'->f q≠f q':=fun q q' hq=>by simp only [f];split<;>split<;>omega
   have hne: ∀ {q:Nat} {y:Int} {v:T.U d},m[f q]?=some (y,v)->y≠x:=fun {q y v} hq e=>by
    subst e;exact fp q (jv0 h.nd hq g3)
   have hpl:=(X2.1 g3).1;refine ⟨by rw [S7 hpl,S7 (by rw [<-h.len];exact hpl),h.len],by rw [S7 hpl,S7 (by rw [<-h.lenb];exact hpl),h.lenb],?_,fun q y v e1 b1 h1 h2 h3=>?_,fun q q' y y' v v' b1 hq h1 h2 _ _ h5=>?_,fun y j hy=>by cases hy⟩
   ·exact h.nd.sublist ((List.eraseIdx_sublist _ _).map _)
   ·rw [fe] at h1 h2 h3;obtain ⟨k1,k2,k3,k4⟩:=h.at_ _ y v e1 b1 h1 h2 h3;exact ⟨k1,k2,fun i hi=>(by cases hi),fun _=>k4 (hopn y (hne h1))⟩
   ·rw [fe] at h1 h2 h5⊢;exact h.ap _ _ y y' v v' b1 (fi q q' hq) h1 h2 (hopn y (hne h1)) (hopn y' (hne h2)) h5
  ·obtain ⟨hu,hkd⟩:=zc6 (zf4 hmk);have hb:w1.heap[g]?=some (.map l c):=hm;simp [Builtin.delete_,run_underlying hu,MapKept.run_getObj_map hb,MapKept.run_checkKey hkd (show MapKept.IsKey (.int kd) (.int kd x) from rfl),MapKept.run_findKey hkd g1,MapKept.run_setObj_map _ hb,Result.andThen]
def Sim.pput {i g:Nat} {kd:IntKind} {be:TypeId} {d:Nat} {m m':List (Int×T.U d)} {op op':Option (Int×Nat)} {l l':Array MapEntry} {c c':Nat} {bs':List Nat} (h:Sim T w0 S0 ⟨F,H⟩ F' w S φ) (hHi:H[i]?=some (.pmap kd be d m op)) (hg:(φ i).ad=some ⟨g,0,none⟩) (hm:Mp w g l c) (hgS:g∈S)
  (ht:PRel T w S φ (φ i) kd be d m' op' l'.toList bs') (hst:MapKept.Stamped l' c') (hids: ∀q∈qo0 op',q<H.length):Sim T w0 S0 ⟨F,H.set i (.pmap kd be d m' op')⟩ F' {w with heap:=w.heap.setIfInBounds g (.map l' c')} S φ:=by
 have hset:=MapKept.heap_set (o':=.map l' c') hm;have hC:Chg [g] w {w with heap:=w.heap.setIfInBounds g (.map l' c')}:=⟨rfl,rfl,rfl,by simp,fun r _ hr=>hset.2 r (by simpa using hr)⟩;refine h.upd hHi rfl hC ?_ ⟨g,_,_,bs',hg,hset.1,hgS,ht.chg T hC ?_ (fun b hb=>.inl hb) fun b _ hne hb=>?_,hst⟩ hids ?_
 ·intro b hb;simp at hb;subst hb;exact ⟨_,.inl hg,rfl⟩
 ·intro b hb;simp at hb;subst hb;exact hgS
 ·simp at hb;subst hb;exact hne _ hg rfl
 ·intro e1 t1 xs he;cases he
def Sim.openP (h:Sim T w0 S0 ⟨F,H⟩ F' w S φ) {i:Nat} {kd:IntKind} {be:TypeId} {d:Nat} {m:List (Int×T.U d)} {x:Int} (hHi:H[i]?=some (.pmap kd be d m none)) (hx:zf1 m x=true):
  ∃(φ':Nat->RA) (b g:Nat) (l:Array MapEntry) (c p:Nat),(φ i).ad=some ⟨g,0,none⟩/\Mp w g l c/\Instr.findNow (.int kd) (.int kd x) l.toList 0=some (some (p,.pointer (some ⟨b,0,none⟩)))/\(φ' H.length).ad=some ⟨b,0,none⟩/\
   Sim T w0 S0 ⟨F,H.set i (.pmap kd be d m (some (x,H.length)))++ [.blk be (T.bl d (zb7 T (.user d) m x))]⟩ F' w S φ':=by
 obtain ⟨g,l,c,bs,a1,a2,a3,a4,a5⟩:=h.ents i _ hHi;rcases a4.find x with ⟨_,g2,_⟩|⟨p,e,u,b,g1,g2,g3,g4,g5,g6,g7,g8,g9,g10⟩
 ·rw [hx] at g2;cases g2
 obtain ⟨hv,_,hcl⟩:=g10;obtain ⟨hbx,hbr,cb,hblk,hbr2⟩:=hcl rfl;have hil:=(X2.1 hHi).1
 let φ':Nat->RA:=fun n=>if n=H.length then ⟨some ⟨b,0,none⟩,0,0,[]⟩ else if n=i then ⟨(φ i).ad,(φ i).n,(φ i).cap,(φ i).xs.filter fun b'=>b' != b⟩ else φ n
 have pn:φ' H.length=⟨some ⟨b,0,none⟩,0,0,[]⟩:=if_pos rfl;have pi:φ' i=⟨(φ i).ad,(φ i).n,(φ i).cap,(φ i).xs.filter fun b'=>b' != b⟩:=by show (if _ then _ else _)=_;rw [if_neg (by omega),if_pos rfl]
 have po: ∀n,n<H.length->n≠i->φ' n=φ n:=fun n hn hne=>by show (if _ then _ else _)=_;rw [if_neg (by omega),if_neg hne]
 have hs: ∀n,n<H.length->RSame (φ' n) (φ n):=fun n hn=>by
  by_cases he:n=i
  ·subst he;rw [pi];exact ⟨rfl,rfl,rfl⟩
  ·rw [po n hn he];exact .of rfl
 have hati: ∀ {a},At (φ' i) a->At (φ i) a/\a.block≠b:=fun {a} ha=>by
  rw [pi] at ha;rcases ha with ha|ha
  ·exact ⟨.inl ha,hbr a ha⟩
  ·obtain ⟨h1,h2⟩:=W3.1 ha;exact ⟨.inr h1,by simpa using h2⟩
 have hatn: ∀ {a},At (φ' H.length) a->a.block=b:=fun {a} ha=>by
  rw [pn] at ha;rcases ha with ha|ha
  ·simp only [X0] at ha;rw [<-ha]
  ·cases ha
 have get: ∀(n:Nat) (f:Ent T.U),(H.set i (.pmap kd be d m (some (x,H.length)))++ [Ent.blk be (T.bl d (zb7 T (.user d) m x))])[n]?=some f->(n=i/\f=.pmap kd be d m (some (x,H.length)))\/(n<H.length/\n≠i/\H[n]?=some f)\/(n=H.length/\f=.blk be (T.bl d (zb7 T (.user d) m x))):=by
  intro n f hf;by_cases hn:n<H.length
  ·rw [X8 (by simpa using hn)] at hf;by_cases he:n=i
   ·subst he;rw [Q0 hil] at hf;exact .inl ⟨rfl,(X5 hf).symm⟩
   ·rw [Z5 (Ne.symm he)] at hf;exact .inr (.inl ⟨hn,he,hf⟩)
  ·rw [Z2 (by simp;omega)] at hf;simp only [Q1] at hf;have:n-H.length=0:=by have:=(X2.1 hf).1;simp at this;omega
   rw [this] at hf;simp at hf;exact .inr (.inr ⟨by omega,hf.symm⟩)
 refine ⟨φ',b,g,l,c,p,a1,a2,by rw [g1,hv],by rw [pn],h.ghost (by simp) hs (fun n e1 t ys hn hy=>?_) (fun n f hf hl a ha=>?_) (fun n f hf=>?_) (fun n f hf j hj=>?_) (fun n n' f f' hf hf' hl hl' hne a a' ha ha'=>?_)⟩
 ·rcases get n _ hy with ⟨_,q⟩|⟨_,_,q⟩|⟨q,_⟩
  ·cases q
  ·exact q
  ·omega
 ·rcases get n f hf with ⟨rfl,rfl⟩|⟨q1,q2,q3⟩|⟨rfl,rfl⟩
  ·exact ⟨n,_,a,hHi,rfl,(hati ha).1,rfl⟩
  ·rw [po n q1 q2] at ha;exact ⟨n,f,a,q3,hl,ha,rfl⟩
  ·exact ⟨i,_,⟨b,0,none⟩,hHi,rfl,.inr hbx,(hatn ha).symm⟩
 ·rcases get n f hf with ⟨rfl,rfl⟩|⟨q1,q2,q3⟩|⟨rfl,rfl⟩
  ·refine ⟨g,l,c,bs,by rw [pi];exact a1,a2,a3,⟨a4.len,a4.lenb,a4.nd,fun q y v e1 b1 h1 h2 h3=>?_,fun q q' y y' v v' b1 hq h1 h2 _ _=>a4.ap q q' y y' v v' b1 hq h1 h2 rfl rfl,fun y j hy=>?_⟩,a5⟩
   ·obtain ⟨k1,k2,k3,k4⟩:=a4.at_ q y v e1 b1 h1 h2 h3;refine ⟨k1,k2,fun j hj=>?_,fun hn=>?_⟩
    ·by_cases hyx:x=y
     ·subst hyx;rw [zq1] at hj;cases hj;obtain rfl:=jv0 a4.nd h1 g3;rw [g4] at h3;cases h3;rw [pn]
     ·rw [jf0 hyx] at hj;cases hj
    ·obtain ⟨u1,u2,u3⟩:=k4 rfl;have hyx:x≠y:=fun e=>by subst e;rw [zq1] at hn;cases hn
     rw [pi];refine ⟨W3.2 ⟨u1,?_⟩,u2,u3.renS T⟩;have:b1≠b:=fun e=>by
      subst e;exact a4.ap q p y x v u b1 (fun e=>by subst e;rw [g3] at h1;simp at h1;exact hyx h1.1) h1 g3 rfl rfl h3 g4
     simpa using this
   ·simp only [X0,X7] at hy;rw [<-hy.1];exact U3.2 ⟨_,X6 g3,rfl⟩
  ·exact (h.ents n f q3).phiE (po n q1 q2) fun j hj=>hs j (h.eids n f q3 j hj)
  ·obtain ⟨c2,w1,w2⟩:=PB.renS T (φ':=φ') ⟨cb,hblk,hbr2⟩;exact ⟨b,c2,by rw [pn],w1,zd5 h hHi rfl (a:=⟨b,0,none⟩) (.inr hbx),by rw [g7];exact w2⟩
 ·have hlen:(H.set i (.pmap kd be d m (some (x,H.length)))++ [Ent.blk be (T.bl d (zb7 T (.user d) m x))]).length=H.length+1:=by simp
  rw [hlen];rcases get n f hf with ⟨rfl,rfl⟩|⟨q1,q2,q3⟩|⟨rfl,rfl⟩
  ·simp [Ent.cellIds,qo0] at hj;omega
  ·have:=h.eids n f q3 j hj;simp only at this;omega
  ·have hj:j∈j8 (T.bl d (zb7 T (.user d) m x)):=hj;have h0:j8 (T.bl d (zb7 T (.user d) m x))= []:=T.bl0 d _;exact absurd (h0▸hj:j∈([]:List Nat)) (by simp)
 ·rcases get n f hf with ⟨rfl,rfl⟩|⟨q1,q2,q3⟩|⟨rfl,rfl⟩<;>rcases get n' f' hf' with ⟨rfl,rfl⟩|⟨u1,u2,u3⟩|⟨rfl,rfl⟩
  ·exact absurd rfl hne
  ·rw [po n' u1 u2] at ha';exact h.apart n n' _ _ hHi u3 rfl hl' hne a a' (hati ha).1 ha'
  ·rw [hatn ha'];exact (hati ha).2
  ·rw [po n q1 q2] at ha;exact h.apart n n' _ _ q3 hHi hl rfl hne a a' ha (hati ha').1
  ·rw [po n q1 q2] at ha;rw [po n' u1 u2] at ha';exact h.apart n n' _ _ q3 u3 hl hl' hne a a' ha ha'
  ·rw [po n q1 q2] at ha;rw [hatn ha'];exact h.apart n i _ _ q3 hHi hl rfl q2 a ⟨b,0,none⟩ ha (.inr hbx)
  ·rw [hatn ha];exact (hati ha').2.symm
  ·rw [po n' u1 u2] at ha';rw [hatn ha];exact h.apart i n' _ _ hHi u3 rfl hl' (Ne.symm u2) ⟨b,0,none⟩ a' (.inr hbx) ha'
  ·exact absurd rfl hne
def jd4 {R:Type} {r:R} {t:TypeId} {xm xk xv:Operand} (hd:dec ops k n F'=some o) (hop:o.op=.insert t xm xk xv\/o.op=.mapUpdate t xm xk xv) {K:St T->Option R} (hz:kl0 P o ⟨F,H⟩ K t xm xk xv=some (some r)) (h:Sim T w0 S0 ⟨F,H⟩ F' w S φ)
  (HK: ∀st,K st=some r->zp5 P ops Q (k+1) n ds w0 S0 st):WR P ops Q k n ds F' w:=by
 unfold kl0 at hz;split at hz<;>try (cases hz;done)
 rename_i i kx x a hdst hm hk hv;split at hz<;>try (cases hz;done)
 rename_i k' be d m op hHi;simp only [X0] at hz;split at hz<;>try (cases hz;done)
 rename_i et hko;obtain ⟨rfl,kt,hmk⟩:=yd4 hko;obtain ⟨M,h1,h2⟩:=z8 h.fr hm;obtain ⟨X,h3,h4⟩:=z8 h.fr hk;obtain ⟨V,h5,h6⟩:=z8 h.fr hv;have e:=v7 h4;subst e;obtain ⟨g,hg,rfl⟩:=h2;unfold gc6 at hz;split at hz<;>try (cases hz;done)
 rename_i j off;split at hz<;>try (cases hz;done)
 rename_i be' cs hHj h0;have:=X1 h0;subst this;split at hz<;>try (cases hz;done)
 rename_i hbe;have:=X1 hbe;subst this;obtain ⟨b,hb,rfl⟩:=h6;obtain ⟨g',l,c,bs,a1,a2,a3,a4,a5⟩:=h.ents i _ hHi;rw [hg] at a1;simp only [X0,Addr.mk.injEq,and_true] at a1;subst a1;have hrun: ∀ {w2:World},(Instr.mapUpdate t (.map (some g)) (.int kx x) (.pointer (some ⟨b,0,none⟩))).run P w=.ok () w2->(execOp (evD F') o).run P w=.ok .skip w2:=fun {w2} hr=>by
  rcases hop with hop|hop
  ·cases o;simp only at hop hdst;subst hop;subst hdst;simp [execOp,j6 h1,j6 h3,j6 h5,hr]
  ·cases o;simp only at hop hdst;subst hop;subst hdst;simp [execOp,j6 h1,j6 h3,j6 h5,hr]
 split at hz
 ·split at hz<;>try (cases hz;done)
  rename_i u hu;obtain ⟨l',c',bs',p1,p2,p3⟩:=a4.put (P:=P) (x:=x) (u:=u) (j:=j) (b:=b) hb a5;refine WR.skip hd (hrun (p3 hmk a2)) ?_;rw [hdst];exact HK _ hz _ _ ⟨S,φ,h.pput hHi hg a2 a3 p2 p1 fun q hq=>by simp [qo0] at hq;subst hq;exact (X2.1 hHj).1⟩
 ·rename_i y j';split at hz<;>try (cases hz;done)
  rename_i hjj;have:=X1 hjj;subst this;split at hz<;>try (cases hz;done)
  rename_i hyx;subst hyx;rcases a4.find y with ⟨_,_,_,_,_,q⟩|⟨p,e,u0,b0,g1,g2,g3,g4,g5,g6,g7,g8,g9,g10⟩
  ·exact absurd (a4.opn y j' rfl) q
  obtain ⟨hev,hej,_⟩:=g10;have:=hej j' zq1;rw [hb] at this;simp only [X0,Addr.mk.injEq,and_true] at this;subst this;have hb':w.heap[g]?=some (.map l c):=a2;have g2':l[p]?=some e:=by simpa using g2
  have hlt:p<l.size:=by have:=(X2.1 g2).1;simpa using this
  have g2'':l[p]=e:=by rw [Z6 hlt] at g2';exact X5 g2'
  obtain ⟨hu,hkd⟩:=zc6 (zf4 hmk);have hr:(Instr.mapUpdate t (.map (some g)) (.int kx y) (.pointer (some ⟨b,0,none⟩))).run P w=.ok () {w with heap:=w.heap.setIfInBounds g (.map (l.modify p fun e=> {e with key:=.int kx y,val:=.pointer (some ⟨b,0,none⟩)}) c)}:=by
   simp [Instr.mapUpdate,run_underlying hu,MapKept.run_getObj_map hb',MapKept.run_checkKey hkd (show MapKept.IsKey (.int kx) (.int kx y) from rfl),MapKept.run_findKey hkd g1,MapKept.run_setObj_map _ hb',Result.andThen,g2',g2'',g5,MapKept.run_keyThatStays (show MapKept.IsKey (.int kx) (.int kx y) from rfl)]
  have hl':(l.modify p fun e=> {e with key:=.int kx y,val:=.pointer (some ⟨b,0,none⟩)})=l:=by
   refine Array.ext_getElem? fun q=>?_;rw [Array.getElem?_modify];split
   ·rename_i hq;subst hq;rw [g2'];obtain ⟨ek,ev,eb⟩:=e;simp only at hev g5;subst hev;subst g5;rfl
   ·rfl
  refine WR.skip hd (hrun hr) ?_;rw [hdst,hl'];have hself:w.heap.setIfInBounds g (.map l c)=w.heap:=by
   refine Array.ext_getElem? fun q=>?_;by_cases e:g=q
   ·subst e;have:=(Y3.1 hb').1;rw [Array.getElem?_setIfInBounds_self_of_lt this,hb']
   ·rw [Array.getElem?_setIfInBounds_ne e]
  rw [hself];exact HK _ hz _ _ ⟨S,φ,h⟩
def qd0 {R:Type} {r:R} (hd:dec ops k n F'=some o) {K:St T->Option R} (hz:kc3 P C o ⟨F,H⟩ K=some (some r)) (h:Sim T w0 S0 ⟨F,H⟩ F' w S φ)
  (HK: ∀st,K st=some r->zp5 P ops Q (k+1) n ds w0 S0 st):WR P ops Q k n ds F' w:=by
 unfold kc3 at hz;split at hz<;>try (cases hz;done)
 ·rename_i t hop;split at hz<;>try (cases hz;done)
  rename_i kd kt et be d hmk hpm;simp only [X0] at hz;have hdm:zs8 ops k n F'=some (o.dst,t):=by
   unfold zs8;rw [hd];cases o;simp only at hop;subst hop;rfl
  refine WR.mkMap hdm fun g w' hN=>HK _ hz _ _ ⟨g::S,zu1 φ H.length ⟨some ⟨g,0,none⟩,0,0,[]⟩,?_⟩;have h1:=h.add (r:=⟨some ⟨g,0,none⟩,0,0,[]⟩) hN.chg hN.fresh hN.blk.lt (fun a ha=>zv3 ha) (e:=.pmap kd be d [] none)
   ⟨g,#[],0,[],by rw [j5],hN.blk,by simp,⟨rfl,rfl,by simp,fun p x u e b h1=>by simp at h1,fun p p' x x' u u' b _ h1=>by simp at h1,fun x j hx=>by cases hx⟩,MapKept.stamped_empty 0⟩ (by intro j hj;cases hj)
  exact h1.slot ⟨g,by rw [j5],rfl⟩ ⟨by intro i hi;simp [AV.ids] at hi;subst hi;simp,trivial⟩
 ·rename_i t xm xk hop;split at hz<;>try (cases hz;done)
  rename_i i kx x hm hk;split at hz<;>try (cases hz;done)
  rename_i k' be d m hHi;simp only [X0] at hz;split at hz<;>try (cases hz;done)
  rename_i et hko;obtain ⟨rfl,kt,hmk⟩:=yd4 hko;split at hz<;>try (cases hz;done)
  rename_i hnp;have hzv:(P.info? et).bind (·.zero)=some (.pointer none):=by
   unfold vy1 at hnp;split at hnp
   ·assumption
   ·cases hnp
  obtain ⟨M,h1,h2⟩:=z8 h.fr hm;obtain ⟨X,h3,h4⟩:=z8 h.fr hk;have e:=v7 h4;subst e;obtain ⟨g,hg,rfl⟩:=h2;have hdl:zn1 ops k n F'=some (o.dst,t,.map (some g),.int kx x,false):=by
   unfold zn1;rw [hd];cases o;simp only at hop;subst hop;simp only [j6 h1,j6 h3]
  rcases zc7 hz with ⟨hx,hz⟩|⟨hx,hz⟩
  ·obtain ⟨φ',b,g',l,c,p,a1,a2,a3,a4,a5⟩:=h.openP hHi hx;rw [hg] at a1;simp only [X0,Addr.mk.injEq,and_true] at a1;subst a1;have hr:=yf2 (P:=P) a2 hdl (zf4 hmk) rfl _ a3 hzv _ rfl;unfold zt7 at hr;rw [hd] at hr;simp only [X0,X7] at hr;exact WR.val hd hr.2 (HK _ hz _ _ ⟨S,φ',a5.slot (a:=.ptr H.length 0) ⟨b,a4,rfl⟩ ⟨by intro q hq;simp [AV.ids] at hq;subst hq;simp,trivial⟩⟩)
  ·obtain ⟨g',l,c,bs,a1,a2,a3,a4,a5⟩:=h.ents i _ hHi;rw [hg] at a1;simp only [X0,Addr.mk.injEq,and_true] at a1;subst a1;rcases a4.find x with ⟨g1,_⟩|⟨p,e,u,b,_,_,_,_,_,g6,_⟩
   ·have hr:=yf2 (P:=P) a2 hdl (zf4 hmk) rfl _ g1 hzv _ rfl;unfold zt7 at hr;rw [hd] at hr;simp only [X0,X7] at hr;exact WR.val hd hr.2 (HK _ hz _ _ ⟨S,φ,h.slot (a:=.raw (.pointer none)) rfl ⟨fun i hi=>(by cases hi),trivial⟩⟩)
   ·rw [hx] at g6;cases g6
 ·rename_i hop;exact jd4 hd (.inl hop) hz h HK
 ·rename_i hop;exact jd4 hd (.inr hop) hz h HK
 ·rename_i c hop;split at hz<;>try (cases hz;done)
  rename_i hc;split at hz<;>try (cases hz;done)
  rename_i i kx x t at2 has hat;split at hz<;>try (cases hz;done)
  rename_i k' be d m op hHi;simp only [X0] at hz;split at hz<;>try (cases hz;done)
  rename_i et hko;obtain ⟨rfl,kt,hmk⟩:=yd4 hko;obtain ⟨xm,xk,ha,hm,hk⟩: ∃xm xk,c.args.toList= [xm,xk]/\aev T F xm=some (.mp i)/\aev T F xk=some (cI T kx x):=by
   generalize c.args.toList=l at has
   match l,has with
   | [],h=>simp [zn8] at h
   | [a],h=>
    simp only [zn8] at h;split at h<;>try (cases h;done)
    rename_i h1 h2;simp only [X0] at h2;subst h2;simp at h
   | [a,b],h=>
    simp only [zn8] at h;split at h<;>try (cases h;done)
    rename_i a' l' h1 h2;split at h2<;>try (cases h2;done)
    rename_i b' l'' h3 h4;simp only [X0,List.cons.injEq] at h h2 h4;subst h2;subst h4;simp at h;exact ⟨a,b,rfl,by rw [h1,h.1],by rw [h3,h.2]⟩
   |a::b::e::r,h=>
    exfalso;have: ∀(l:List Operand) (q:List (AV T.U)),zn8 T F l=some q->q.length=l.length:=by
     intro l;induction l with
     |nil=>intro q hq;simp [zn8] at hq;subst hq;rfl
     |cons a r ih=>
      intro q hq;simp only [zn8] at hq;split at hq
      ·rename_i b l h1 h2;simp at hq;subst hq;simp [ih _ h2]
      ·cases hq
    have:=this _ _ h;simp at this
  have hargs:c.args= #[xm,xk]:=by rw [<-Array.toArray_toList (xs:=c.args),ha]
  have hatt:c.argTypes=(t::at2).toArray:=by rw [<-hat]
  obtain ⟨M,h1,h2⟩:=z8 h.fr hm;obtain ⟨X,h3,h4⟩:=z8 h.fr hk;have e:=v7 h4;subst e;obtain ⟨g,hg,rfl⟩:=h2;obtain ⟨g',l,cl,bs,a1,a2,a3,a4,a5⟩:=h.ents i _ hHi;rw [hg] at a1;simp only [X0,Addr.mk.injEq,and_true] at a1;subst a1;have key:K ⟨za1 T F o.dst (.tup []),H.set i (.pmap kx be d (zc9 m x) none)⟩=some r/\ ∀y j,op=some (y,j)->y=x:=by
   unfold gc2 at hz;split at hz
   ·exact ⟨hz,fun y j hy=>by cases hy⟩
   ·split at hz<;>try (cases hz;done)
    rename_i hyx;exact ⟨hz,fun y j hy=>by cases hy;exact hyx⟩
  obtain ⟨l',bs',p1,p2,p3⟩:=a4.out (P:=P) (x:=x) key.2 a5;obtain ⟨w2,p4,p5⟩:=p3 (ty':=o.type) (at2:=at2) hmk a2;have hs:Sim T w0 S0 ⟨F,H.set i (.pmap kx be d (zc9 m x) none)⟩ F' w2 S φ:=by
   have:=h.pput hHi hg a2 a3 p2 p1 (fun q hq=>by cases hq);rcases p5 with ⟨rfl,rfl⟩|rfl
   ·have hself:w2.heap.setIfInBounds g (.map l' cl)=w2.heap:=by
     refine Array.ext_getElem? fun q=>?_;by_cases e:g=q
     ·subst e;have hb':w2.heap[g]?=some (.map l' cl):=a2;have:=(Y3.1 hb').1;rw [Array.getElem?_setIfInBounds_self_of_lt this,hb']
     ·rw [Array.getElem?_setIfInBounds_ne e]
    rw [hself] at this;exact this
   ·exact this
  refine yv4 (v:=.tuple #[]) hd (w':=w2) ?_ (HK _ key.1 _ _ ⟨S,φ,hs.slot (a:=.tup []) ⟨#[],rfl,trivial⟩ ⟨fun i hi=>(by cases hi),trivial⟩⟩);rw [<-hatt] at p4;cases o;simp only at hop p4;subst hop;simp [execOp,resolve,hc,invoke,builtin,hargs,j6 h1,j6 h3,p4]
end
end Go.X
