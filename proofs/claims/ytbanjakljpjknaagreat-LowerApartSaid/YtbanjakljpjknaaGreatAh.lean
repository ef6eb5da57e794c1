import Derived.Test.YtbanjakljpjknaaGreatIm
import Derived.Test.YtbanjakljpjknaaGreatAq
import Derived.Test.YtbanjakljpjknaaGreatXAg
set_option linter.defProp false
namespace Go.X
open Go.RowKit Go.V Go.Proofs Tryz
noncomputable section
def kt7 {k:IntKind} {P:Program} {f:FuncId} {g:Int×Int->Option Int} (h:vr3 TT P f ⟨[.val (.int .i64),.val (.int .i64)],[.val (.int k)],g⟩) {x y z:Int} (hz:g (x,y)=some z) (w:World):Calls P f #[.int .i64 x,.int .i64 y] w (zu2 w (.int k z)):=by
 refine (h (x,y) z hz w [] (fun _=>⟨none,0,0,[]⟩) [.int .i64 x,.int .i64 y] ⟨CR.int _ _,CR.int _ _,trivial⟩ (fun b hb=>by cases hb) (fun k e he=>by cases he) (fun k hk=>by cases hk) (fun j k hj=>by cases hj)).mono ?_;intro e w' he;cases e with
 |returned v=>
  obtain ⟨F1,H1,F1',S1,φ1,as1,us,hs,hv,rfl,hr,_⟩:=he;have hr:qm7 TT H1 [.val (.int k)] as1=some z:=hr;have hu:=vu9 (T:=TT) (rs:= [.val (.int k)]) rfl hr hv;subst hu;exact ⟨hs.chg,rfl⟩
 |_=>exact he.elim
def mI (k q:Nat):Int:=(qdf g9 (k:Int) (q:Int)).getD 0
def ku3 (k q:Nat) (w:World):Calls prog 32 #[.int .i64 (k:Int),.int .i64 (q:Int)] w (zu2 w (.int .i64 (mI k q))):=
 kt7 (k:=.i64) (g:=fun x=>qdf g9 x.1 x.2) uv1 (by show qdf g9 (k:Int) (q:Int)=some ((qdf g9 (k:Int) (q:Int)).getD 0);rw [uv0];rfl) w
set_option maxRecDepth 8000 in
def qu9 (k q:Nat) (w:World):Calls prog 153 #[.int .i64 (k:Int),.int .i64 (q:Int)] w (zu2 w (.agg (aF (mI k q)))):=by
 have key:CW prog (yy9 f153) (bodyPost prog f153 (zu2 w (.agg (aF (mI k q))))) 9 [] [(0,.int .i64 ((k:Nat):Int)),(1,.int .i64 ((q:Nat):Int))] w:=by
  refine CW.seq fun K1 hK1=>CW.region ?_;refine WR.alloc (dst:=some 4) (e:=48) (by kernel_rfl) (zF) (by kernel_rfl) fun g w1 hn=>?_;refine WR.sub [(0,.int .i64 ((k:Nat):Int)),(1,.int .i64 ((q:Nat):Int)),(4,.pointer (some ⟨g,0,none⟩))] (by kernel_rfl) (WR.fin (by kernel_rfl) fun a ha=>go hK1 ?_ a ha);refine CW.seq fun K2 hK2=>CW.region (WR.batch 2 [(0,.int .i64 ((k:Nat):Int)),(1,.int .i64 ((q:Nat):Int)),(4,.pointer (some ⟨g,0,none⟩)),(5,.int .i64 ((k:Nat):Int)),(6,.int .i64 ((q:Nat):Int))] (by kernel_rfl) ?_);refine WR.call (dst:=some 7) (f:=32) (args:= #[.int .i64 ((k:Nat):Int),.int .i64 ((q:Nat):Int)]) (by kernel_rfl) (ku3 k q w1) ?_
  rintro v w2 hw2 rfl
  refine WR.batch 1 [(4,.pointer (some ⟨g,0,none⟩)),(8,.agg (aF (mI k q)))] (by kernel_rfl) ?_;refine WR.storeW (t:=48) (g:=g) (c:=zF) (e:=48) (vs:=cF (mI k q)) (hn.blk.pure hw2) (by kernel_rfl) (by kernel_rfl) rfl (by simp [Value.oneCell']) fun w3 hb3 hw3=>?_;refine WR.sub [(4,.pointer (some ⟨g,0,none⟩))] (by kernel_rfl) (WR.fin (by kernel_rfl) fun a ha=>go hK2 ?_ a ha);exact CW.ret (retC [.agg (aF (mI k q))] _ rfl ⟨wg5 (o:=0) hb3 (by kernel_rfl) (by kernel_rfl),trivial⟩ ⟨(hn.chg.pure hw2).step1 hw3 hn.fresh,rfl⟩)
 exact zo6 func153 (show f153.body=some (yy9 f153) by kernel_rfl) Tryz.ntmps153 (by kernel_rfl) [0,1] (by kernel_rfl) key
def wi9 (xs ys:List Flat):Option ((Unit×Unit×Unit×Unit)×(Bool×Unit)):=match yr0 List.length [xs,ys] with|true=>some (((),(),(),()),(true,()))|false=>none
def apF_sp:GSpec TT:=⟨[.slb 1 2 26 [.row 48 (.user 7),.row 48 (.user 7)]],[.gone,.gone,.gone],[.val .bool],fun x=>wi9 x.1.1 x.1.2.1⟩
def ug4:GOk TT prog 16 apF_sp:=vz7 (t:=.user 7) (m:=mzG 9 fun k q=>cF (mI k q)) (uf9 mI qu9) rfl
end
end Go.X
