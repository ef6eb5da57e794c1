import Derived.Test.YtliopfopmhhdeaaGreatIm
import Derived.Test.YtliopfopmhhdeaaGreatAq
import Derived.Test.YtliopfopmhhdeaaGreatAE
set_option linter.defProp false
namespace Go.X
open Go.RowKit Go.V Go.Proofs
def ve2 {k:IntKind} {P:Program} {f:FuncId} {g:Int×Int->Option Int} (h:yw9 TT P f ⟨[.val (.int .i64),.val (.int .i64)],[.val (.int k)],g⟩) {x y z:Int} (hz:g (x,y)=some z) (w:World):Calls P f #[.int .i64 x,.int .i64 y] w (zh0 w (.int k z)):=by
 refine (h (x,y) z hz w [] (fun _=>⟨none,0,0,[]⟩) [.int .i64 x,.int .i64 y] ⟨CR.int _ _,CR.int _ _,trivial⟩ (fun b hb=>by cases hb) (fun k e he=>by cases he) (fun k hk=>by cases hk) (fun j k hj=>by cases hj)).mono ?_;intro e w' he;cases e with
 |returned v=>
  obtain ⟨F1,H1,F1',S1,φ1,as1,us,hs,hv,rfl,hr,_⟩:=he;have hr:jr1 TT H1 [.val (.int k)] as1=some z:=hr;have hu:=qo2 (T:=TT) (rs:= [.val (.int k)]) rfl hr hv;subst hu;exact ⟨hs.chg,rfl⟩
 |_=>exact he.elim
noncomputable def mB (k q:Nat):Int:=(zc5 BIG (k:Int) (q:Int)).getD 0
def vf0 (k q:Nat) (w:World):Calls Tryz.prog 27 #[.int .i64 (k:Int),.int .i64 (q:Int)] w (zh0 w (.int .u8 (mB k q))):=
 ve2 (k:=.u8) (g:=fun x=>zc5 BIG x.1 x.2) zp6 (by show zc5 BIG (k:Int) (q:Int)=some ((zc5 BIG (k:Int) (q:Int)).getD 0);rw [yc1,yu4];rfl) w
def vx2 (xs:List Row8):Option ((Unit×Unit)×(Bool×Unit)):=match yi5 (fun y=>List.length y.l) xs with|true=>some (((),()),(true,()))|false=>none
noncomputable def apB_sp:GSpec TT:=⟨[.dr 22 2 [5]],[.gone],[.val .bool],fun x=>vx2 x.1⟩
def kc4:GOk TT Tryz.prog 12 apB_sp:=qr7 (T:=TT) (RT:=22) (d:=2) (fe:= [5]) (t:=.int .u8) (m:=fun k q=>.int .u8 (mB k q)) (kc1 mB vf0) (by kernel_rfl) (fun (y:Row8)=>y.l) (fun _=>rfl) rfl (by decide) rfl
end Go.X
