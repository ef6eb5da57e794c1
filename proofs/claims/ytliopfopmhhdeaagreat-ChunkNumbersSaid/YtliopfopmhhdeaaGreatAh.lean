import Derived.Test.YtliopfopmhhdeaaGreatIm
import Derived.Test.YtliopfopmhhdeaaGreatAq
import Derived.Test.YtliopfopmhhdeaaGreatAE
set_option linter.defProp false
namespace Go.X
open Go.RowKit Go.V Go.Proofs
def qi0 {k:IntKind} {P:Program} {f:FuncId} {g:Int×Int->Option Int} (h:yp0 TT P f ⟨[.val (.int .i64),.val (.int .i64)],[.val (.int k)],g⟩) {x y z:Int} (hz:g (x,y)=some z) (w:World):Calls P f #[.int .i64 x,.int .i64 y] w (zq9 w (.int k z)):=by
 refine (h (x,y) z hz w [] (fun _=>⟨none,0,0,[]⟩) [.int .i64 x,.int .i64 y] ⟨CR.int _ _,CR.int _ _,trivial⟩ (fun b hb=>by cases hb) (fun k e he=>by cases he) (fun k hk=>by cases hk) (fun j k hj=>by cases hj)).mono ?_;intro e w' he;cases e with
 |returned v=>
  obtain ⟨F1,H1,F1',S1,φ1,as1,us,hs,hv,rfl,hr,_⟩:=he;have hr:qa3 TT H1 [.val (.int k)] as1=some z:=hr;have hu:=vd3 (T:=TT) (rs:= [.val (.int k)]) rfl hr hv;subst hu;exact ⟨hs.chg,rfl⟩
 |_=>exact he.elim
noncomputable def mB (k q:Nat):Int:=(zc0 BIG (k:Int) (q:Int)).getD 0
noncomputable def mI (k q:Nat):Int:=(zy7 BIG (k:Int) (q:Int)).getD 0
def vu6 (k q:Nat) (w:World):Calls Tryz.prog 27 #[.int .i64 (k:Int),.int .i64 (q:Int)] w (zq9 w (.int .u8 (mB k q))):=
 qi0 (k:=.u8) (g:=fun x=>zc0 BIG x.1 x.2) zm5 (by show zc0 BIG (k:Int) (q:Int)=some ((zc0 BIG (k:Int) (q:Int)).getD 0);rw [zs9,zz5];rfl) w
def vu7 (k q:Nat) (w:World):Calls Tryz.prog 41 #[.int .i64 (k:Int),.int .i64 (q:Int)] w (zq9 w (.int .i64 (mI k q))):=
 qi0 (k:=.i64) (g:=fun x=>zy7 BIG x.1 x.2) jb1 (by show zy7 BIG (k:Int) (q:Int)=some ((zy7 BIG (k:Int) (q:Int)).getD 0);rw [zz5];rfl) w
def ki5 (xs:List Row8):Option ((Unit×Unit)×(Bool×Unit)):=match zr5 (fun y=>List.length y.l) xs with|true=>some (((),()),(true,()))|false=>none
noncomputable def apB_sp:GSpec TT:=⟨[.dr 22 2 [5]],[.gone],[.val .bool],fun x=>ki5 x.1⟩
def ka5:GOk TT Tryz.prog 12 apB_sp:=vg4 (T:=TT) (RT:=22) (d:=2) (fe:= [5]) (t:=.int .u8) (m:=fun k q=>.int .u8 (mB k q)) (kv3 mB vu6) (by kernel_rfl) (fun (y:Row8)=>y.l) (fun _=>rfl) rfl (by decide) rfl
def ki6 (xs ys:List Int):Option ((Unit×Unit×Unit×Unit)×(Bool×Unit)):=match zr5 List.length [xs,ys] with|true=>some (((),(),(),()),(true,()))|false=>none
noncomputable def apI_sp:GSpec TT:=⟨[.slb 1 2 45 [.row 3 (.int .i64),.row 3 (.int .i64)]],[.gone,.gone,.gone],[.val .bool],fun x=>ki6 x.1.1 x.1.2.1⟩
def kv6:GOk TT Tryz.prog 26 apI_sp:=vg3 (t:=.int .i64) (m:=fun k q=>.int .i64 (mI k q)) (kv4 mI vu7) rfl
end Go.X
