import Derived.Test.YtbanjakljpjknaaGreatAD
import Derived.Test.YtbanjakljpjknaaGreatA9
set_option linter.defProp false
namespace Go.X
open Go.RowKit Go.V
def yr0 {α:Type} (len:α->Nat) (xs:List α):Bool:=Nat.ble xs.length 1048576&&xs.all fun x=>Nat.ble (len x) 1073741824
def qt6 {α:Type} {len:α->Nat} {xs:List α} (h:yr0 len xs=true):xs.length<=1048576/\ ∀x∈xs,len x<=1073741824:=by
 unfold yr0 at h;rw [X3,Y8] at h;exact ⟨Y1 h.1,fun x hx=>Y1 (h.2 x hx)⟩
section
variable {T:Tab} {P:Program}
def gf2 {w w':World} {S:List Nat} {φ:Nat->RA} {C:List Nat} {pin:List RA} {H H':List (Ent T.U)} (hs:Sim T w ⟨C,S,pin⟩ ⟨[],H⟩ [] w S φ) {R:List Nat} (hc:Chg R w w') (hR: ∀b∈R,b∈C) (hg: ∀(i:Nat) (e:Ent T.U),H'[i]?=some e->e=.gone) (hl:H'.length=H.length):Sim T w ⟨C,S,pin⟩ ⟨[],H'⟩ [] w' S φ:=by
 refine ⟨(fun i a h=>by cases h),(fun i a h=>by cases h),hc.weak hR,(fun b hb=>⟨.inl hb,V3 (hs.own b hb).2 hc.size⟩),(fun b hb _ _=>hb),(fun i e h hv=>?_),(fun k r hk=>?_),(fun i e h=>?_),(fun i e h j hj=>?_),(fun i j e e' h h' hv=>?_)⟩
 ·rw [hg i e h] at hv;cases hv
 ·exact ⟨(hs.pins k r hk).1,by have:=(hs.pins k r hk).2;simp only at this⊢;omega⟩
 ·rw [hg i e h];trivial
 ·rw [hg i e h] at hj;cases hj
 ·rw [hg i e h] at hv;cases hv
abbrev ug0 (P:Program) (f:FuncId) (EL:TypeId) (m:Mk):Prop:=
 ∀ {L:List RowA} {lad:Option Addr} {lcap:Nat} {w:World},RowsA w EL m (fun _ _=>False) L->Rg w lad (L.map RowA.val)->L.length<=lcap->(L= []\/bk lad∉rb L)->L.length<=1048576->(∀(j:Nat) (r:RowA),L[j]?=some r->r.len<=1073741824)->(∀b∈rb L,b<w.heap.size)->
  Calls P f #[.slice lad L.length lcap] w (Ret (rb L) w fun v _=>v=.bool true)
def vz7 {f:FuncId} {RT EL:TypeId} {t:Ty} {m:Mk} (hA:ug0 P f EL m) (ht:szT T t=m.z):
  GOk T P f ⟨[.slb 1 2 RT [.row EL t,.row EL t]],[.gone,.gone,.gone],[.val .bool],fun x=>match yr0 List.length [x.1.1,x.1.2.1] with|true=>some (((),(),(),()),(true,()))|false=>none⟩:=by
 intro (x:(List (den T.U t)×List (den T.U t)×Unit)×Unit) y hy w S φ hs vs hv hok;obtain ⟨⟨xs,ys,_⟩,_⟩:=x;have hy:(match yr0 List.length [xs,ys] with|true=>some (((),(),(),()),(true,()))|false=>none)=some y:=hy;cases hb:yr0 (α:=List (den T.U t)) List.length [xs,ys] with
 |false=>rw [hb] at hy;cases hy
 |true=>
 rw [hb] at hy;simp only [X0] at hy;subst hy;have hb:=qt6 hb;have hs:Sim T w ⟨zd8 φ 3,S,[φ 0,φ 1,φ 2]⟩ ⟨[],[.blk RT [.own 1,.own 2],.row EL t xs,.row EL t ys]⟩ [] w S φ:=hs;have hv:VRL T w S φ [.sl 0 1 0 2] vs:=hv;obtain ⟨g,c,b1,b2,b3,b4⟩:=hs.ents 0 _ rfl;obtain ⟨B1,v1,p1,p2,p3,p4,p5⟩:=hs.ents 1 (.row EL t xs) rfl;obtain ⟨B2,v2,q1,q2,q3,q4,q5⟩:=hs.ents 2 (.row EL t ys) rfl;rw [ht] at p1 q1
 match vs,hv with
 | [v],hv=>
 obtain ⟨ad,e1,e2,e3,e4⟩:=hv.1;obtain ⟨g',e5,e6⟩: ∃g',(φ 0).ad=some ⟨g',0,none⟩/\ad=some ⟨g',0+0*1,none⟩:=by rcases e3 with h|h;cases h;exact h
 rw [b1] at e5;simp only [X0,Addr.mk.injEq,and_true] at e5;subst e5;subst e6;subst e1;have hc:c.toList= [.slice (φ 1).ad (φ 1).n (φ 1).cap,.slice (φ 2).ad (φ 2).n (φ 2).cap]:=by
  have h:=b4.vrl T rfl
  match hcl:c.toList,h with
  | [a,b],h=>rw [show a=_ from h.1,show b=_ from h.2.1]
  | [],h=>exact h.elim
  | [_],h=>exact h.2.elim
  |_::_::_::_,h=>exact h.2.2.elim
 let L:List RowA:= [⟨(φ 1).ad,(φ 1).n,(φ 1).cap⟩,⟨(φ 2).ad,(φ 2).n,(φ 2).cap⟩]
 have hap:Apart (φ 1).ad (φ 2).ad:=by
  cases ha:(φ 1).ad with
  |none=>exact .inl rfl
  |some a=>
   cases hb':(φ 2).ad with
   |none=>exact .inr (.inl rfl)
   |some b=>exact .inr (.inr (hs.apart 1 2 _ _ rfl rfl rfl rfl (by decide) a b (.inl ha) (.inl hb')))
 have hrows:RowsA w EL m (fun _ _=>False) L:=by
  refine ⟨fun j r hj=>?_,fun i j r s hij hi hj=>?_⟩
  ·match j,hj with
   |0,hj=>cases hj;exact ⟨v1,p1.zero,fun q h=>h.elim⟩
   |1,hj=>cases hj;exact ⟨v2,q1.zero,fun q h=>h.elim⟩
   |j+2,hj=>cases hj
  ·match i,j,hi,hj with
   |0,1,hi,hj=>cases hi;cases hj;exact hap
   |1,0,hi,hj=>cases hi;cases hj;exact hap.symm
   |0,0,_,_=>exact absurd rfl hij
   |1,1,_,_=>exact absurd rfl hij
   |i+2,_,hi,_=>cases hi
   |_,j+2,_,hj=>cases hj
 have hrb: ∀b∈rb L,(b∈(φ 1).all\/b∈(φ 2).all)/\g≠b:=by
  intro b hb;obtain ⟨r,hr,hb⟩:=V4.1 hb;have key: ∀k,(k=1\/k=2)->b∈ze5 (φ k).ad->b∈(φ k).all/\g≠b:=by
   intro k hk hb;refine ⟨X4.2 (.inl hb),?_⟩;cases ha:(φ k).ad with
   |none=>rw [ha] at hb;cases hb
   |some a=>
    rw [ha] at hb;rw [Q5.1 hb];rcases hk with rfl|rfl
    ·exact hs.apart 0 1 _ _ rfl rfl rfl rfl (by decide) ⟨g,0,none⟩ a (.inl b1) (.inl ha)
    ·exact hs.apart 0 2 _ _ rfl rfl rfl rfl (by decide) ⟨g,0,none⟩ a (.inl b1) (.inl ha)
  grind
 have hcall:=hA hrows (lad:=some ⟨g,0+0*1,none⟩) (lcap:=(φ 0).cap-0) (b2.rg _ (by rw [hc];rfl)) (by show 2<=_;omega) (.inr fun hm=>(hrb _ hm).2 rfl) (by show 2<=_;omega) (fun j r hj=>by
  match j,hj with
  |0,hj=>cases hj;exact W8 (Nat.le_of_eq p2) (hb.2 xs (U6 ..))
  |1,hj=>cases hj;exact W8 (Nat.le_of_eq q2) (hb.2 ys (Z4 _ (U6 ..)))
  |j+2,hj=>cases hj) fun b hb=>hrows.lt hb
 refine hcall.mono fun e w' hr=>?_;cases e with
 |panicked ch=>exact hr.elim
 |outgrown=>exact hr.elim
 |returned v=>
  obtain ⟨hc,rfl⟩:=hr;refine ⟨[],S,φ,[.bool true],gf2 hs hc (fun b hb=>?_) (fun i e h=>?_) rfl,⟨CR.bool true,trivial⟩,rfl,fun i hi=>by cases hi⟩
  ·show b∈ [0,1,2].flatMap fun k=>(φ k).all
   grind
  ·match i,h with
   |0,h=>exact (X5 h).symm
   |1,h=>exact (X5 h).symm
   |2,h=>exact (X5 h).symm
   |i+3,h=>cases h
end
end Go.X
