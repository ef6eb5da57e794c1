import Derived.Test.YtbanjakljpjknaaGreatIe
import Derived.Test.YtbanjakljpjknaaGreatIf
import Derived.Test.YtbanjakljpjknaaGreatIr
import Derived.Test.YtbanjakljpjknaaGreatAh
set_option linter.defProp false
namespace Go.X
open Go.RowKit Go.V Go.Proofs Tryz IntKind
noncomputable section
variable (n:Nat) (m5:List Flat) (f6:List Ins) (m6:List Flat) (aA:Int) (cA:Bool) (mB:List Flat) (aC:Int) (cC:Bool) (mC:List Flat) (aD:Int) (mD mE:List Flat)
def zaw8:Ctx TT:=⟨za3,[(7,qe_sp.toCall),(12,qfr_sp.toCall)],0,[],v7,za4,za2⟩
def wv8:=ze2 zaw8 [] f5 ⟨[],[]⟩ [] zk0
def qdt:tZ1:=wv8 n ()
def ux9 (n:Nat):qdt n=j6 (qe g9 ([(⟨(12:Int),false,0,0,true,0,7,(0:Int)⟩:Ins),(⟨(28:Int),false,0,0,false,0,0,(0:Int)⟩:Ins)]:List Ins)) fun y1=>j6 (qe g9 ([(⟨(28:Int),false,0,0,false,0,0,(0:Int)⟩:Ins)]:List Ins)) fun y2=>j6 (qfr g9 y1.1 ([]:List Int)) fun y3=>j9 (y1.2.Err==0) (j9 (decide ((y1.1.length:Int)>=1)) (j9 (y3.Err==0) (j9 (y3.Verdict==7) (some ((y2.2.Err==110)&&(y2.2.At==0))) (some false)) (some false)) (some false)) (some false):=by kernel_rfl
def qdt_sp:FnSpec TT:=spY wv8
def uy0:ze3 5 qdt_sp:=okY (v8 (q7 ww5) (v8 (q7 zah4) q8)) func5
def wp2:Ctx TT:=⟨za3,[],0,[],v7,za4,za2⟩
def qz8:List (Pos×Cut):= [(zb3 58,⟨[0,1,5],[],false,[],0,false⟩)]
def wp3:=ze2 wp2 qz8 f14 ⟨[],[]⟩ [yr7,yr7] zk0
def qat:tZ1:=wp3 n (m5,m6)
noncomputable abbrev zap3:=jm9 wp2 qz8 f14 ⟨[],[]⟩ [yr7,yr7] zk0
def jm0:tZ1:=zap3 n 58 ⟨[(0,.cell ⟨.list (.user 7),m5⟩),(1,.cell ⟨.list (.user 7),m6⟩),(5,ci aA)],[]⟩
def um2:qat n m5 m6=j9 ((m5.length:Int) != (m6.length:Int)) (some false) (jm0 n m5 m6 0):=by kernel_rfl
def qh8:jm0 (n+1) m5 m6 aA=j9 (decide (aA<(m5.length:Int))) (if 0<=aA/\aA<(m5.length:Int) then (if 0<=aA/\aA<(m6.length:Int) then (j9 (!((((m5.getD aA.toNat k9).Do)==((m6.getD aA.toNat k9).Do))&&((((m5.getD aA.toNat k9).What)==((m6.getD aA.toNat k9).What))&&((((m5.getD aA.toNat k9).Narrow)==((m6.getD aA.toNat k9).Narrow))&&((((m5.getD aA.toNat k9).D)==((m6.getD aA.toNat k9).D))&&((((m5.getD aA.toNat k9).A)==((m6.getD aA.toNat k9).A))&&((((m5.getD aA.toNat k9).B)==((m6.getD aA.toNat k9).B))&&((((m5.getD aA.toNat k9).N)==((m6.getD aA.toNat k9).N))&&((((m5.getD aA.toNat k9).Size)==((m6.getD aA.toNat k9).Size))&&(((m5.getD aA.toNat k9).To)==((m6.getD aA.toNat k9).To))))))))))) (some false) (jm0 n m5 m6 (i64.wrap (aA+1)))) else none) else none) (some true):=by kernel_rfl
def qat_sp:FnSpec TT:=spY wp3
def um3:ze3 14 qat_sp:=okY q8 func14
def qp_C:Ctx TT:=⟨za3,[(5,qdt_sp.toCall),(7,qe_sp.toCall),(14,qat_sp.toCall),(15,qk_sp.toCall),(16,apF_sp.toCall (v4 TT))],0,[],v7,za4,za2⟩
def vw7:List (Pos×Cut):= [(zb3 126,⟨[3,4,5,31],[],false,[],0,false⟩),(zb3 2042,⟨[3,5,7],[],false,[],0,false⟩),(zb3 32676,⟨[3,5,7,76],[],false,[],0,false⟩)]
def qp_t:=ze2 qp_C vw7 f4 ⟨[],[]⟩ jz9 zk0
def qp:tZ1:=qp_t n f6
noncomputable abbrev qp_z:=jm9 qp_C vw7 f4 ⟨[],[]⟩ jz9 zk0
def gt3:tZ1:=qp_z n 126 ⟨[(3,.own 0),(4,.ptr 1 0),(5,.own 2),(31,cb cA)],[.row 48 (.user 7) mB,.blk 29 [ci aC,ci aD],.row 48 (.user 7) mE]⟩
def jr4:tZ1:=qp_z n 2042 ⟨[(3,.own 0),(5,.own 1),(7,ci aA)],[.row 48 (.user 7) mB,.row 48 (.user 7) mC]⟩
def qd4:tZ1:=qp_z n 32676 ⟨[(3,.own 0),(5,.own 1),(7,ci aA),(76,cb cC)],[.row 48 (.user 7) mD,.row 48 (.user 7) mE]⟩
def zbf4:qp n f6=j6 (qdt g9) fun y1=>j9 (!y1) (some false) (j9 (decide ((f6.length:Int)>200)) (some true) (j6 (qe g9 f6) fun y2=>j6 (qe g9 f6) fun y3=>j9 (!((y2.2.Err==y3.2.Err)&&(y2.2.At==y3.2.At))) (gt3 n true y2.1 y2.2.Err y2.2.At y3.1) (j6 (qat g9 y2.1 y3.1) fun y4=>gt3 n (!y4) y2.1 y2.2.Err y2.2.At y3.1))):=by kernel_rfl
def va9:gt3 (n+1) cA mB aC aD mE=j9 cA (some false) (j9 (aC != 0) (some ((mB.length:Int)==0)) (jr4 n 0 mB mE)):=by kernel_rfl
def vb0:jr4 (n+1) aA mB mC=j9 (decide (aA<(mB.length:Int))) (if 0<=aA/\aA<(mB.length:Int) then (j9 (((mB.getD aA.toNat k9).Do)==7) (if 0<=aA/\aA<(mB.length:Int) then (j9 (decide (((mB.getD aA.toNat k9).To)<=aA)) (qd4 n aA true mB mC) (if 0<=aA/\aA<(mB.length:Int) then (qd4 n aA (decide (((mB.getD aA.toNat k9).To)>=(mB.length:Int))) mB mC) else none)) else none) (if 0<=aA/\aA<(mB.length:Int) then (j9 (((mB.getD aA.toNat k9).Do)==8) (if 0<=aA/\aA<(mB.length:Int) then (j9 (decide (((mB.getD aA.toNat k9).To)<=aA)) (qd4 n aA true mB mC) (if 0<=aA/\aA<(mB.length:Int) then (qd4 n aA (decide (((mB.getD aA.toNat k9).To)>=(mB.length:Int))) mB mC) else none)) else none) (qd4 n aA false mB mC)) else none)) else none) (j6 (qk g9 mB) fun y1=>j9 y1 (j6 (wi9 mB mC) fun y2=>some y2.2.1) (some false)):=by kernel_rfl
def gc5:qd4 (n+1) aA cC mD mE=j9 cC (some false) (jr4 n (i64.wrap (aA+1)) mD mE):=by kernel_rfl
def zbf5:FnSpec TT:=spY qp_t
def qp_ok:ze3 4 zbf5:=okY (v8 (q7 uy0) (v8 (q7 ww5) (v8 (q7 um3) (v8 (q7 zbe8) (v8 (q9 ug4 (j8 16)) q8))))) func4
end
end Go.X
