import Derived.Test.YtliopfopmhhdeaaGreatIm
import Derived.Test.YtliopfopmhhdeaaGreatAq
import Derived.Test.YtliopfopmhhdeaaGreatAE
set_option linter.defProp false
namespace Go.X
open Go.RowKit Go.V Go.Proofs
def qe9 {k:IntKind} {P:Program} {f:FuncId} {g:Int×Int->Option Int} (h:yt7 TT P f ⟨[.val (.int .i64),.val (.int .i64)],[.val (.int k)],g⟩) {x y z:Int} (hz:g (x,y)=some z) (w:World):Calls P f #[.int .i64 x,.int .i64 y] w (zp6 w (.int k z)):=by
 refine (h (x,y) z hz w [] (fun _=>⟨none,0,0,[]⟩) [.int .i64 x,.int .i64 y] ⟨CR.int _ _,CR.int _ _,trivial⟩ (fun b hb=>by cases hb) (fun k e he=>by cases he) (fun k hk=>by cases hk) (fun j k hj=>by cases hj)).mono ?_;intro e w' he;cases e with
 |returned v=>
  obtain ⟨F1,H1,F1',S1,φ1,as1,us,hs,hv,rfl,hr,_⟩:=he;have hr:jx5 TT H1 [.val (.int k)] as1=some z:=hr;have hu:=qz2 (T:=TT) (rs:= [.val (.int k)]) rfl hr hv;subst hu;exact ⟨hs.chg,rfl⟩
 |_=>exact he.elim
noncomputable def mB (k q:Nat):Int:=(zb6 BIG (k:Int) (q:Int)).getD 0
noncomputable def mI (k q:Nat):Int:=(zx9 BIG (k:Int) (q:Int)).getD 0
def vq5 (k q:Nat) (w:World):Calls Tryz.prog 27 #[.int .i64 (k:Int),.int .i64 (q:Int)] w (zp6 w (.int .u8 (mB k q))):=
 qe9 (k:=.u8) (g:=fun x=>zb6 BIG x.1 x.2) zl6 (by show zb6 BIG (k:Int) (q:Int)=some ((zb6 BIG (k:Int) (q:Int)).getD 0);rw [zs1,zy6];rfl) w
def vq6 (k q:Nat) (w:World):Calls Tryz.prog 41 #[.int .i64 (k:Int),.int .i64 (q:Int)] w (zp6 w (.int .i64 (mI k q))):=
 qe9 (k:=.i64) (g:=fun x=>zx9 BIG x.1 x.2) yy8 (by show zx9 BIG (k:Int) (q:Int)=some ((zx9 BIG (k:Int) (q:Int)).getD 0);rw [zy6];rfl) w
def kj5 (xs:List Row8):Option ((Unit×Unit)×(Bool×Unit)):=match zq3 (fun y=>List.length y.l) xs with|true=>some (((),()),(true,()))|false=>none
noncomputable def apB_sp:GSpec TT:=⟨[.dr 22 2 [5]],[.gone],[.val .bool],fun x=>kj5 x.1⟩
def kp1:GOk TT Tryz.prog 12 apB_sp:=vc5 (T:=TT) (RT:=22) (d:=2) (fe:= [5]) (t:=.int .u8) (m:=fun k q=>.int .u8 (mB k q)) (ko7 mB vq5) (by kernel_rfl) (fun (y:Row8)=>y.l) (fun _=>rfl) rfl (by decide) rfl
def kd1 (xs ys:List Int):Option ((Unit×Unit×Unit×Unit)×(Bool×Unit)):=match zq3 List.length [xs,ys] with|true=>some (((),(),(),()),(true,()))|false=>none
noncomputable def apI_sp:GSpec TT:=⟨[.slb 1 2 45 [.row 3 (.int .i64),.row 3 (.int .i64)]],[.gone,.gone,.gone],[.val .bool],fun x=>kd1 x.1.1 x.1.2.1⟩
def kp2:GOk TT Tryz.prog 26 apI_sp:=vc4 (t:=.int .i64) (m:=fun k q=>.int .i64 (mI k q)) (ko8 mI vq6) rfl
end Go.X
