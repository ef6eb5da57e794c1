import Derived.Test.YthhhfnfgmijggaaGreatAu
import Derived.MapKept
namespace Go.V
open Go.RowKit
def Mp (w:World) (g:Nat) (es:Array MapEntry) (c:Nat):Prop:=w.heap[g]?=some (.map es c)
theorem Mp.lt {w:World} {g:Nat} {es:Array MapEntry} {c:Nat} (h:Mp w g es c):g<w.heap.size:=(Y3.1 h).1
theorem Mp.chg {S:List Nat} {w w':World} {g:Nat} {es:Array MapEntry} {c:Nat} (h:Mp w g es c) (hc:Chg S w w') (hg:g∉S):Mp w' g es c:=(hc.block g h.lt hg).trans h
structure NewM (w w':World) (g:Nat) (es:Array MapEntry) (c:Nat):Prop where
 blk:Mp w' g es c
 chg:Chg [] w w'
 fresh:w.heap.size<=g
def yn4 (P:Program) (t:TypeId):Option (TypeId×TypeId×TypeDesc):=
 match P.underlying t with
 |some (.map kt et)=>(match P.underlying kt with|some d=>some (kt,et,d)|none=>none)
 |_=>none
theorem zu2 {P:Program} {t kt et:TypeId} {d:TypeDesc} (h:yn4 P t=some (kt,et,d)):P.underlying t=some (.map kt et)/\P.underlying kt=some d:=by
 unfold yn4 at h;split at h
 ·rename_i kt' et' hu;split at h
  ·rename_i d' hd;simp only [X0,X7] at h;obtain ⟨rfl,rfl,rfl⟩:=h;exact ⟨hu,hd⟩
  ·cases h
 ·cases h
section
variable {P:Program} {ops:Array Oper} {Q:Exit->Act->World->Prop} {k n:Nat} {ds:List Deferred} {F:PF} {w:World}
def ye0 (ops:Array Oper) (k n:Nat) (F:PF):Option (Option Tmp×TypeId):=
 match dec ops k n F with|some ⟨dst,.makeMap t none,_,_,_,_⟩=>some (dst,t)|_=>none
theorem WR.mkMap {dst:Option Tmp} {t:TypeId} (hd:ye0 ops k n F=some (dst,t))
  (K: ∀g w',NewM w w' g #[] 0->WR P ops Q (k+1) n ds (upd F dst (.map (some g))) w'):WR P ops Q k n ds F w:=by
 unfold ye0 at hd;split at hd
 ·rename_i d t' ty pos af gd hdec;simp only [X0,X7] at hd;obtain ⟨rfl,rfl⟩:=hd;refine .val hdec (v:=.map (some w.heap.size)) (w':=w.alloc (.map #[] 0)) ?_ (K _ _ ⟨(MapKept.heap_alloc w _).1,Chg.alloc w _,Nat.le_refl _⟩);simp [execOp,Instr.makeMap]
 ·cases hd
def ym0 (ops:Array Oper) (k n:Nat) (F:PF):Option (TypeId×Value×Value×Value):=
 match dec ops k n F with
 |some ⟨none,.insert t m x v,_,_,_,_⟩=>some (t,evD F m,evD F x,evD F v)
 |some ⟨none,.mapUpdate t m x v,_,_,_,_⟩=>some (t,evD F m,evD F x,evD F v)
 |_=>none
theorem WR.insert {t kt et:TypeId} {d:TypeDesc} {g c:Nat} {es:Array MapEntry} {x v:Value} (hm:Mp w g es c) (hd:ym0 ops k n F=some (t,.map (some g),x,v)) (hi:yn4 P t=some (kt,et,d)) (hk:MapKept.IsKey d x)
  (hf:Instr.findNow d x es.toList 0=some none) (es':Array MapEntry) (hes:es.push {key:=x,val:=v,born:=c}=es')
  (K: ∀w',Mp w' g es' (c+1)->Chg [g] w w'->WR P ops Q (k+1) n ds F w'):WR P ops Q k n ds F w:=by
 obtain ⟨hu,hkd⟩:=zu2 hi;have key:(Instr.mapUpdate t (.map (some g)) x v).run P w=.ok () {w with heap:=w.heap.setIfInBounds g (.map es' (c+1))}:=by
  have hb:w.heap[g]?=some (.map es c):=hm;rw [<-hes];simp [Instr.mapUpdate,run_underlying hu,MapKept.run_getObj_map hb,MapKept.run_checkKey hkd hk,MapKept.run_findKey hkd hf,MapKept.run_setObj_map _ hb,Result.andThen]
 have hset:=MapKept.heap_set (o':=.map es' (c+1)) hm;have hchg:Chg [g] w {w with heap:=w.heap.setIfInBounds g (.map es' (c+1))}:=⟨rfl,rfl,rfl,by simp,fun r _ hr=>hset.2 r (by simpa using hr)⟩;unfold ym0 at hd;split at hd
 ·rename_i t' m' x' v' ty pos af gd hdec;simp only [X0,X7] at hd;obtain ⟨rfl,h1,h2,h3⟩:=hd;refine .skip hdec (w':= {w with heap:=w.heap.setIfInBounds g (.map es' (c+1))}) ?_ (K _ hset.1 hchg);simp [execOp,h1,h2,h3,key]
 ·rename_i t' m' x' v' ty pos af gd hdec;simp only [X0,X7] at hd;obtain ⟨rfl,h1,h2,h3⟩:=hd;refine .skip hdec (w':= {w with heap:=w.heap.setIfInBounds g (.map es' (c+1))}) ?_ (K _ hset.1 hchg);simp [execOp,h1,h2,h3,key]
 ·cases hd
def zv8 (ops:Array Oper) (k n:Nat) (F:PF):Option (Option Tmp×TypeId×Value×Value×Bool):=
 match dec ops k n F with|some ⟨dst,.lookup t m x co,_,_,_,_⟩=>some (dst,t,evD F m,evD F x,co)|_=>none
def lkV (z:Value):Bool->Option (Nat×Value)->Value
 |true,some (_,v)=>.tuple #[v,.bool true]
 |true,none=>.tuple #[z,.bool false]
 |false,some (_,v)=>v
 |false,none=>z
theorem jh6 {dst:Option Tmp} {t kt et:TypeId} {d:TypeDesc} {g c:Nat} {es:Array MapEntry} {x z:Value} {co:Bool} (hm:Mp w g es c) (hd:zv8 ops k n F=some (dst,t,.map (some g),x,co)) (hi:yn4 P t=some (kt,et,d)) (hk:MapKept.IsKey d x)
  (r:Option (Nat×Value)) (hf:Instr.findNow d x es.toList 0=some r) (hz:(P.info? et).bind (·.zero)=some z) (v:Value) (hv:lkV z co r=v):yi2 P ops k n F w=some (dst,.ok (.value v) w):=by
 obtain ⟨hu,hkd⟩:=zu2 hi;subst hv;unfold zv8 at hd;split at hd
 ·rename_i d' t' m' x' co' ty pos af gd hdec;simp only [X0,X7] at hd;obtain ⟨rfl,rfl,h1,h2,rfl⟩:=hd;unfold yi2;rw [hdec];have hb:w.heap[g]?=some (.map es c):=hm;have hzr:(zeroValue et).run P w=.ok z w:=by
   cases hin:P.info? et with
   |none=>rw [hin] at hz;cases hz
   |some i=>rw [hin] at hz;simp at hz;simp [zeroValue,typeInfo,hin,hz]
  cases r with
  |none=>cases co'<;>simp [execOp,h1,h2,Instr.lookup,run_underlying hu,MapKept.run_getObj_map hb,MapKept.run_checkKey hkd hk,MapKept.run_findKey hkd hf,Result.andThen,hzr,lkV]
  |some jv=>obtain ⟨j,v⟩:=jv;cases co'<;>simp [execOp,h1,h2,Instr.lookup,run_underlying hu,MapKept.run_getObj_map hb,MapKept.run_checkKey hkd hk,MapKept.run_findKey hkd hf,Result.andThen,lkV]
 ·cases hd
end
end Go.V
