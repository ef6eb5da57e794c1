import Derived.Test.YtcepemagnfpmdaaGreatTb
import Derived.Tactics
import Derived.Tactics2
import Derived.Defers
import Derived.Laws.Pointers
import Derived.Laws.LoneSync
import Derived.RegionTactic
import Derived.RegionCalls
import Derived.ChangeAlike
import Derived.Lib.Builder
import Derived.KernelRfl
set_option linter.defProp false
namespace Go.X
open Go.RowKit Go.V Go.Proofs
def vm0 {P:Program} {f:FuncId} {fn:Func} (hf:P.funcs[f]?=some fn) (hname:(fn.name== "runtime.NumGoroutine")=false) (hb:fn.body.isNone=true) (hn:Extern.findNext fn=none)
  (he:Extern.find fn=some (Extern.Atomic.loadT .ptr)) {a:Addr} {p:Option Addr} {w:World} (hc:w.cell? a=some (.pointer p)):
  (callFunc f #[.pointer (some a)]).run P w=.ok (.value (.pointer p)) w:=by
 rw [run_callFunc_extern hf hname hb hn he];change (Sem.run P (do Extern.Atomic.read .ptr (<-asAddr (.pointer (some a)))) w).andThen _=_;simp [Extern.Atomic.read,asAddr,hc,Result.andThen]
def qw8 {P:Program} {f:FuncId} {fn:Func} (hf:P.funcs[f]?=some fn) (hname:(fn.name== "runtime.NumGoroutine")=false) (hb:fn.body.isNone=true) (hn:Extern.findNext fn=none)
  (he:Extern.find fn=some Extern.Atomic.storeT) {a:Addr} {p:Option Addr} {u:Value} {w:World} (hc:w.cell? a=some u) (hz:w.frozen? a=false):
  (callFunc f #[.pointer (some a),.pointer p]).run P w=.ok (.value (.tuple #[])) (w.setCell a (.pointer p)):=by
 rw [run_callFunc_extern hf hname hb hn he];change (Sem.run P (do
  store (<-asAddr (.pointer (some a))) (.pointer p) .atomic
  pure Extern.Atomic.none_) w).andThen _=_
 simp [asAddr,hc,hz,run_store P w a (.pointer p) .atomic rfl,Result.andThen,Extern.Atomic.none_]
def qq9 {w:World} {e:TypeId} {n:Nat} {p:Option Addr} (h:jy2 w e n p) {q:Addr} (hq:p=some q):w.shape? q.block=some (e,n)/\q.off=0/\q.spot=none:=by
 obtain ⟨g,c,rfl,hb,hn⟩:=h q hq;have hb:w.heap[g]?=some (.cells c e (0,0)):=hb;exact ⟨by simp [World.shape?,hb,hn],rfl,rfl⟩
def vs6 {w:World} {p:Option Addr} (h:jy2 w 69 6 p):(convert 28 24 (.pointer p)).run Tryz.prog w=.ok (.pointer p) w:=by
 cases p with
 |none=>simp [convert,run_underlying (show Program.underlying Tryz.prog 28=some .unsafePointer by kernel_rfl),run_underlying (show Program.underlying Tryz.prog 24=some (.pointer 69) by kernel_rfl),Conv.unsafePointer]
 |some q=>
  obtain ⟨h1,h2,_⟩:=qq9 h rfl;have hsz:(Tryz.prog.info? 69).map (fun i=>decide (i.size=0))=some false:=by kernel_rfl
  obtain ⟨j,hj,_⟩:=Option.map_eq_some_iff.1 hsz;exact Go.Lib.run_from_unsafe w q (show Program.underlying Tryz.prog 28=some .unsafePointer by kernel_rfl) (show Program.underlying Tryz.prog 24=some (.pointer 69) by kernel_rfl) hj h1 (by rw [h2];kernel_rfl)
def ge4 {w:World} {p:Option Addr} (h:jy2 w 69 6 p):(convert 24 28 (.pointer p)).run Tryz.prog w=.ok (.pointer p) w:=by
 cases p with
 |none=>simp [convert,run_underlying (show Program.underlying Tryz.prog 28=some .unsafePointer by kernel_rfl),run_underlying (show Program.underlying Tryz.prog 24=some (.pointer 69) by kernel_rfl),Conv.unsafePointer]
 |some q=>
  obtain ⟨h1,h2,_⟩:=qq9 h rfl;have hsz:(Tryz.prog.info? 69).map (fun i=>decide (i.size=0))=some false:=by kernel_rfl
  obtain ⟨j,hj,hz0⟩:=Option.map_eq_some_iff.1 hsz;exact Go.Lib.run_to_unsafe w q (show Program.underlying Tryz.prog 24=some (.pointer 69) by kernel_rfl) (show Program.underlying Tryz.prog 28=some .unsafePointer by kernel_rfl) hj (by simpa using hz0) h1 (by rw [h2];decide)
def zm1 (a:Addr) (p:Option Addr) (w:World) (hc:w.cell? a=some (.pointer p)) (hp:jy2 w 69 6 p):Calls Tryz.prog 17 #[.pointer (some a)] w (vp3 w (.pointer p)):=by
 have hl:=vm0 (P:=Tryz.prog) Tryz.func32 (by kernel_rfl) (by kernel_rfl) (by kernel_rfl) (by kernel_rfl) hc;have hcv:=vs6 hp
 go_enter Tryz.func17,Tryz.ntmps17
 go_wp2
 go_ret
 exact ⟨Chg.refl _ _,rfl⟩
def zh4 (a:Addr) (u:Value) (p:Option Addr) (w:World) (hc:w.cell? a=some u) (hz:w.frozen? a=false) (hp:jy2 w 69 6 p):
  Calls Tryz.prog 15 #[.pointer (some a),.pointer p] w fun en w'=>en=.returned (.tuple #[])/\ ∃w1,Chg [] w w1/\w'=w1.setCell a (.pointer p):=by
 have hl:=qw8 (P:=Tryz.prog) Tryz.func31 (by kernel_rfl) (by kernel_rfl) (by kernel_rfl) (by kernel_rfl) (p:=p) hc hz;have hcv:=ge4 hp
 go_enter Tryz.func15,Tryz.ntmps15
 go_wp2
 go_end0
 exact ⟨rfl,w,Chg.refl _ _,rfl⟩
def gc9 (w:World):(callFunc 191 #[]).run Tryz.prog w=.ok (.value (.tuple #[])) w:=run_call_mark0 Tryz.func191 (by kernel_rfl) (by kernel_rfl) (by kernel_rfl) .disable (by kernel_rfl) w
def gd0 (w:World):(callFunc 193 #[]).run Tryz.prog w=.ok (.value (.tuple #[])) w:=run_call_mark0 Tryz.func193 (by kernel_rfl) (by kernel_rfl) (by kernel_rfl) .enable (by kernel_rfl) w
def gy5 (a:Addr) (w:World):(callFunc 194 #[.pointer (some a)]).run Tryz.prog w=.ok (.value (.tuple #[])) w:=run_call_marked Tryz.func194 (by kernel_rfl) (by kernel_rfl) (by kernel_rfl) .acquire (by kernel_rfl) a w
def gy6 (a:Addr) (w:World):(callFunc 196 #[.pointer (some a)]).run Tryz.prog w=.ok (.value (.tuple #[])) w:=run_call_marked Tryz.func196 (by kernel_rfl) (by kernel_rfl) (by kernel_rfl) .releaseMerge (by kernel_rfl) a w
def vw4 (a:Addr) (x:Value) (u:FrameMode) (w:World) (hc:w.cell? a=some x) (hz:w.frozen? a=false):
  CallsD Tryz.prog 80 #[.pointer (some a),.bool true] u w fun e u' w'=>u'=u/\(e=.returned (.tuple #[])/\w'=w.drew.setCell a (.int .u32 1)):=by
 have hc':w.drew.cell? a=some x:=by go_simp
 have hz':w.drew.frozen? a=false:=by go_simp
 have hst:=run_call_store (P:=Tryz.prog) Tryz.func133 (by kernel_rfl) (by kernel_rfl) (by kernel_rfl) (by kernel_rfl) (k:=.u32) (y:=1) hc' hz'
 go_enter_d Tryz.func80,Tryz.ntmps80
 go_wp2
 go_region_calls
 all_goals (go_end0;exact ⟨rfl,rfl⟩)
set_option maxRecDepth 100000 in
def vn1 (a:Addr) (u:FrameMode) (w:World) (hc:w.cell? a=some (.int .i32 1)) (hz:w.frozen? a=false):
  CallsD Tryz.prog 79 #[.pointer (some a)] u w fun e u' w'=>u'=u/\(e=.returned (.tuple #[])/\w'=w.setCell a (.int .i32 0)):=by
 have hd:=gc9;have he:=gd0;have hr:=gy6;have hadd:=run_call_add (P:=Tryz.prog) Tryz.func197 (by kernel_rfl) (by kernel_rfl) (by kernel_rfl) .i32 (by kernel_rfl) (y:= -1) (s:=0) hc hz (by simp [go_sem];rfl);have hcv:=run_convert_to_unsafe (P:=Tryz.prog) (src:=250) (dst:=28) (t:=62) (by kernel_rfl) (by kernel_rfl) (by kernel_rfl) hc
 go_enter_d Tryz.func79,Tryz.ntmps79
 go_wp2
 go_end0
 go_wp2
 go_end0
 exact ⟨rfl,rfl⟩
set_option maxRecDepth 100000 in
def gu9 (a:Addr) (w:World) (hc:w.cell? a=some (.int .i32 0)) (hz:w.frozen? a=false):
  Calls Tryz.prog 78 #[.pointer (some a)] w fun e w'=>e=.returned (.tuple #[])/\w'=w.setCell a (.int .i32 1):=by
 have hd:=gc9;have he:=gd0;have ha:=gy5;have hcas:=run_call_cas_hit (P:=Tryz.prog) Tryz.func192 (by kernel_rfl) (by kernel_rfl) (by kernel_rfl) .i32 (by kernel_rfl) (y:=1) hc hz;have hc':(w.setCell a (.int .i32 1)).cell? a=some (.int .i32 1):=World.cell?_setCell_same w a _ hc;have hcv:=run_convert_to_unsafe (P:=Tryz.prog) (src:=250) (dst:=28) (t:=62) (by kernel_rfl) (by kernel_rfl) (by kernel_rfl) hc'
 go_enter Tryz.func78,Tryz.ntmps78
 go_wp2
 first|go_end0|(simp only [Exit.inBlock,Exit.then];refine bodyPost_ret (results_none rfl _ _ _) rfl ?_)|refine bodyPost_ret (results_none rfl _ _ _) rfl ?_
 go_wp2
 go_end0
 exact ⟨rfl,rfl⟩
set_option maxRecDepth 100000 in
set_option maxHeartbeats 1600000 in
def gv0 (g p:Nat) (caps:Array Value) (w:World) (h0:w.cell? ⟨g,p,none⟩=some (.int .u32 0)) (h1:w.cell? ⟨g,p+1,none⟩=some (.int .i32 0)) (f1:w.frozen? ⟨g,p+1,none⟩=false) (Q:World->Prop)
  (hG:Calls Tryz.prog 34 caps (w.setCell ⟨g,p+1,none⟩ (.int .i32 1)) fun e w2=>(∃v,e=.returned v)/\Q w2/\ ∃t2 c2,Blk w2 g c2 t2/\c2[p]?=some (.int .u32 0)/\c2[p+1]?=some (.int .i32 1)):
  Calls Tryz.prog 48 #[.pointer (some ⟨g,p,none⟩),.func (.func 34) #[] caps] w fun e w'=>e=.returned (.tuple #[])/\ ∃w2,Q w2/\w'=(w2.drew.setCell ⟨g,p,none⟩ (.int .u32 1)).setCell ⟨g,p+1,none⟩ (.int .i32 0):=by
 have hl:=run_call_load (P:=Tryz.prog) Tryz.func77 (by kernel_rfl) (by kernel_rfl) (by kernel_rfl) .u32 (by kernel_rfl) (w:=w.setCell ⟨g,p+1,none⟩ (.int .i32 1)) (a:=⟨g,p,none⟩) (x:=0) ((World.cell?_setCell_other _ ⟨g,p+1,none⟩ ⟨g,p,none⟩ _ (by simp)).trans h0);have hnot: ∀(x:Bool) (w:World),(Op.unary .not (.bool x)).run Tryz.prog w=.ok (.bool (!x)) w:=fun _ _=>rfl
 go_enter_defers Tryz.func48,Tryz.ntmps48
 go_wp2_with (go_at_call 78;refine (gu9 ⟨g,p+1,none⟩ _ h1 f1).mono ?_;rintro e w' ⟨rfl,rfl⟩)
 go_wp2_with (first|(go_at_call 34;refine hG.mono ?_;rintro e w2 ⟨⟨v,rfl⟩,hq,t2,c2,hb,k0,k1⟩)|(go_at_call 47;go_in))
 have b0:=(zk6 (p:=p) hb).1.trans k0;have b1:=(zk6 (p:=p+1) hb).1.trans k1;have z0:=(zk6 (p:=p) hb).2;have z1:=(zk6 (p:=p+1) hb).2;refine leaves_cons (f:=80) (args:= #[.pointer (some ⟨g,p,none⟩),.bool true]) (by simp) (by simp [go_sem]) ?_;refine (vw4 ⟨g,p,none⟩ (.int .u32 0) .returning _ b0 z0).mono ?_
 rintro e u' w'' ⟨rfl,rfl,rfl⟩
 refine leaves_cons (f:=79) (args:= #[.pointer (some ⟨g,p+1,none⟩)]) (by simp [settle]) (by simp [go_sem]) ?_;refine (vn1 ⟨g,p+1,none⟩ _ _ ?_ (by simp [z1])).mono ?_
 ·refine (World.cell?_setCell_other _ ⟨g,p,none⟩ ⟨g,p+1,none⟩ _ (by simp)).trans ?_;rw [World.cell?_drew];exact b1
 rintro e u' w'' ⟨rfl,rfl,rfl⟩
 exact ⟨_,results_none rfl _ _ _,rfl,w2,hq,rfl⟩
def jh3:kd3 Tryz.prog 33 34:=by
 intro g p t c caps w hb;have hnot: ∀(x:Bool) (w:World),(Op.unary .not (.bool x)).run Tryz.prog w=.ok (.bool (!x)) w:=fun _ _=>rfl;refine ⟨fun d hd hc=>?_,fun h0 h1 Q hG=>?_⟩
 ·have b0:=(zk6 (p:=p) hb).1.trans hc;have hl:=run_call_load (P:=Tryz.prog) Tryz.func77 (by kernel_rfl) (by kernel_rfl) (by kernel_rfl) .u32 (by kernel_rfl) b0;have hd':(d != 0)=true:=by simp [hd]
  go_enter Tryz.func33,Tryz.ntmps33
  go_wp2
  go_end0
  exact ⟨Chg.refl _ _,rfl⟩
 ·have b0:=(zk6 (p:=p) hb).1.trans h0;have b1:=(zk6 (p:=p+1) hb).1.trans h1;have hl:=run_call_load (P:=Tryz.prog) Tryz.func77 (by kernel_rfl) (by kernel_rfl) (by kernel_rfl) .u32 (by kernel_rfl) b0
  go_enter Tryz.func33,Tryz.ntmps33
  go_wp2_with (first|(go_at_call 48;refine (gv0 g p caps _ b0 b1 (zk6 hb).2 Q hG).mono ?_;rintro e w' ⟨rfl,w2,hq,rfl⟩)|(go_at_call 47;go_in))
  go_end0
  exact ⟨rfl,w2,w2.drew,hq,Chg.drew w2,rfl⟩
end Go.X
