import Derived.Test.YtliopfopmhhdeaaGreatXT
import Derived.Test.YtliopfopmhhdeaaGreatXU
set_option linter.defProp false
namespace Go.X
open Go.RowKit Go.V
section
variable {P:Program} {ops:Array Oper} {Q:Exit->Act->World->Prop} {k n:Nat} {F F':PF} {w w':World} {C:World->Prop} {Qf:Act->Prop} {ds:List Deferred}
def WRI.load1 {dst:Option Tmp} {t:TypeId} {a:Addr} (hd:zo4 ops k n F=some (dst,t,.pointer (some a))) (hs:zj9 P t=true) (v:Value) (hv:w.cell? a=some v) (K:WRI P ops Q (k+1) n (upd F dst v) w):WRI P ops Q k n F w:=by
 obtain ⟨op,hdec,rfl,he⟩:=zj3 hd;refine .val hdec (v:=v) (w':=w) ?_ K;rw [he];simp [Instr.loadAt,Instr.sureAddr,zf9 hs hv]
def WRI.index {dst:Option Tmp} {t:TypeId} {b o:Nat} {m cap:Nat} {kk:IntKind} {i:Int} (hd:zq2 ops k n F=some (dst,t,.slice (some ⟨b,o,none⟩) m cap,.int kk i)) (sz:Nat) (hsz:zl6 P t=some sz) (h0:0<=i) (hi:i<m)
  (K:WRI P ops Q (k+1) n (upd F dst (.pointer (some ⟨b,o+i.toNat*sz,none⟩))) w):WRI P ops Q k n F w:=by
 obtain ⟨op,hdec,rfl,hrun⟩:=ye5 hd hsz h0 hi;exact .val hdec (hrun w) K
def CWI.regionQ {id:Nat} (hm:P.follows .mixedOrders=true) (hB:Region.lexB .any ops=true) (h:WQ P ops (fun w'=>Chg [] w w') (fun a'=> ∀w',Chg [] w w'->Q .normal a' w') 0 n [] F):CWI P (.region id ops true) Q n F w:=
 fun a ha=>(wpIn_wide (n:=0)).2 (CW.regionQ hm hB h a ha)
def WQ.sliceP {dst:Option Tmp} {t:TypeId} {b o1 n0 sz:Nat} {kh:IntKind} {m:Int} (hd:zm8 ops k n F=some (dst,t,.pointer (some ⟨b,o1,none⟩),none,some (.int kh m))) (hai:vp9 P t=some (n0,sz)) (h0:0<=m) (hj:m<=(n0:Int)) (hn:n0≠0)
  (K:WQ P ops C Qf (k+1) n ds (upd F dst (.slice (some ⟨b,o1,none⟩) m.toNat n0))):WQ P ops C Qf k n ds F:=by
 obtain ⟨o,hdec,rfl,he⟩:=zj8 hd;refine .step hdec (fun w _=>?_) K;have hb:=je4 (P:=P) (n0:=n0) (l:=none) (h:=some m) (kl:=.i64) (kh:=kh) ⟨by simp,by simpa using h0,by simpa using hj⟩ w;simp only [N9,V3,Option.map_none,Z8] at hb;have hr:(Instr.sliceAt t (.pointer (some ⟨b,o1,none⟩)) none (some (Value.int kh m)) none).run P w=.ok (.slice (some ⟨b,o1,none⟩) m.toNat n0) w:=by
  unfold vp9 at hai;split at hai
  ·rename_i a hu;obtain ⟨e,inf,hu2,_,_,hs⟩:=zf0 hai;simp [Instr.sliceAt,Instr.slice,run_underlying hu,run_underlying hu2,asAddr,hb,hs,zw0]
  ·obtain ⟨e,inf,hu2,_,_,hs⟩:=zf0 hai;simp [Instr.sliceAt,run_underlying hu2,Instr.sureAddr,hb,hs,zw0]
 rw [he,Sem.run_bind,hr];exact ⟨rfl,rfl⟩
def WQ.load1' {dst:Option Tmp} {t:TypeId} {a:Addr} (hd:zo4 ops k n F=some (dst,t,.pointer (some a))) (hs:zj9 P t=true) (v:Value) (hv:w.cell? a=some v)
  (K:WQ P ops (fun w'=>Chg [] w w') Qf (k+1) n ds (upd F dst v)):WQ P ops (fun w'=>Chg [] w w') Qf k n ds F:=
 WQ.load1 hd hs v (fun _ hc=>qg7 hc (by simp) hv) K
end
section
variable {T:Tab}
def vc8 {e:Ty}: ∀ps:List (den T.U (.nl e)),(ps.flatMap (zb1 T (.nl e))).map AV.cell=ps.map (fun l=>(AV.cell ⟨.nl e,l⟩:AV T.U))
 | []=>rfl
 |a::r=>by rw [U1,<-vc8 r];rfl
def vc7 {w:World} {S:List Nat} {φ:Nat->RA} {e:Ty} {n:Nat} {ps:List (den T.U (.nl e))} {k:IntKind} {x:Int} {vs:List Value} (h:BR T w S φ [.arr (.nl e) n ps,.cell ⟨.int k,x⟩] vs):
  ps.length=n/\vs[n]?=some (.int k x)/\ ∀(j:Nat) (l:List (den T.U e)),ps[j]?=some l-> ∃(ad:Option Addr) (cap:Nat),vs[j]?=some (Value.slice ad l.length cap)/\(l= []->ad=none/\cap=0)/\(ad=none->l= [])/\CR T w S (.list e) l (.slice ad l.length cap):=by
 obtain ⟨h1,h2,_⟩:=h;have h2:ps.length=n:=h2;have e1:zg9 T [.arr (.nl e) n ps,.cell ⟨.int k,x⟩]=ps.map (fun l=>(AV.cell ⟨.nl e,l⟩:AV T.U))++ [.cell ⟨.int k,x⟩]:=by
  rw [<-vc8];rfl
 rw [e1] at h1;refine ⟨h2,?_,fun j l hj=>?_⟩
 ·obtain ⟨v,g1,g2⟩:=h1.get T (j:=n) (a:=.cell ⟨.int k,x⟩) (by rw [Z2 (by simp [h2])];simp [h2]);have g2:CR T w S (.int k) x v:=g2;cases g2;exact g1
 ·have hlt:=(X2.1 hj).1;obtain ⟨v,g1,g2⟩:=h1.get T (j:=j) (a:=.cell ⟨.nl e,l⟩) (by rw [X8 (by simpa using hlt),W4,hj];rfl);have g2:CR T w S (.nl e) l v:=g2;cases g2 with
  |nl _ _ ad cap hc hz=>
   refine ⟨ad,cap,g1,hz,fun ha=>?_,hc⟩;cases hc with
   |list _ _ _ _ _ _ hnil _ _ _=>exact R7.1 (hnil ha).1
end
end Go.X
