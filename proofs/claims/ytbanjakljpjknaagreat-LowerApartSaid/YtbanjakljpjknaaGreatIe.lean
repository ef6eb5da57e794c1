import Derived.Test.YtbanjakljpjknaaGreatId
set_option linter.defProp false
namespace Go.X
open Go.RowKit Go.V Go.Proofs Tryz IntKind
noncomputable section
variable (n:Nat) (f6:List Ins) (aA:Int) (cA:Bool) (aB:Int) (fB:List Ins) (aC:Int) (cC:Bool) (aD:Int) (cD:Bool) (fD:List Ins) (aE:Int) (fE:List Ins) (aG:Int) (fH:List Ins) (mH:List Flat) (aI aJ aK:Int) (cL:Bool) (hL:List Place) (aM:Int) (iM:List Int) (mM:List Flat) (aN:Int) (iN:List Int) (mN:List Flat) (aO:Int) (iO:List Int) (aP:Int) (cP:Bool) (mP:List Flat) (sP:Ins) (aQ:Int) (cQ:Bool) (aR:Int) (cS:Bool) (mS:List Flat) (aT aU:Int) (cU:Bool) (hU:List Place) (aV:Int) (iV:List Int) (aW aX:Int)
def zat0:Ctx TT:=⟨za3,[],4,[],v7,za4,za2⟩
def ws0:=zd6 zat0 [] f19 nl0 [qo5,ze9] [.blk 58 [.val (.list (.user 2)),.own 1,.val (.int .i64),.own 2,.own 3],jy9,.row 48 (.user 7),yg0] ye0
def qce:Option (((List Ins×Unit×Int×Unit×Unit×Unit)×List Place×List Flat×List Int×Unit)×(Bool×Unit)):=ws0 n ((f6,hL,aM,mN,iO,()),aP,())
def ur6:qce n f6 hL aM mN iO aP=if 0<=aP/\aP<(hL.length:Int) then (some (((f6,(),aM,(),(),()),hL,mN,iO,()),((hL.getD aP.toNat v6).Live,()))) else none:=by kernel_rfl
def qce_sp:GSpec TT:=spZ ws0
def gm3:zd7 19 qce_sp:=okZ q8 func19
def qz_C:Ctx TT:=⟨za3,[],5,[],v7,za4,za2⟩
def qz_t:=zd6 qz_C [] f42 nl0 [qo5,.row 48 (.user 7)] [gg9,jy9,.gone,yg0,.row 48 (.user 7)] []
def qz:Option (((List Ins×Unit×Int×List Flat×Unit×Unit)×List Place×Unit×List Int×List Flat×Unit)×(Unit)):=qz_t n ((f6,hL,aM,mN,iO,()),mP,())
def zbg5:qz n f6 hL aM mN iO mP=if (mN.length+mP.length)*56<=140737488355328 then (some (((f6,(),aM,mN++mP,(),()),hL,(),iO,mP,()),())) else none:=by kernel_rfl
def qz_sp:GSpec TT:=spZ qz_t
def qd5:zd7 42 qz_sp:=okZ q8 func42
def zaw9:Ctx TT:=⟨za3,[(42,qz_sp.toCall (v4 TT))],4,[(2,1)],v7,za4,za2⟩
def wv9:=zd6 zaw9 [] f39 nl0 qa2 ys6 []
def qdu:vz0:=wv9 n ((f6,hL,aM,mN,iO,()),sP,())
def uy1:qdu n f6 hL aM mN iO sP=if 0<=aM/\aM<(hL.length:Int) then (if 0<=sP.Src/\sP.Src<((((hL.getD aM.toNat v6).Regs).length:Nat):Int) then (j9 (((((hL.getD aM.toNat v6).Regs).getD sP.Src.toNat v5).Kind)==3) (j6 (qz g9 f6 hL aM mN iO ([(⟨(5:Int),0,false,sP.Dst,sP.Src,0,u64.wrap sP.Off,sP.Size,(0:Int)⟩:Flat)]:List Flat)) fun y1=>some (((y1.1.1.1,(),y1.1.1.2.2.1,y1.1.1.2.2.2.1,(),()),y1.1.2.1,(),y1.1.2.2.2.1,()),())) (j6 (qz g9 f6 hL aM mN iO ([(⟨(4:Int),0,false,sP.Dst,sP.Src,0,u64.wrap sP.Off,sP.Size,(0:Int)⟩:Flat)]:List Flat)) fun y2=>some (((y2.1.1.1,(),y2.1.1.2.2.1,y2.1.1.2.2.2.1,(),()),y2.1.2.1,(),y2.1.2.2.2.1,()),()))) else none) else none:=by kernel_rfl
def qdu_sp:GSpec TT:=spZ wv9
def uy2:zd7 39 qdu_sp:=okZ (v8 (q9 qd5 (j8 42)) q8) func39
def zbb1:Ctx TT:=⟨za3,[(39,qdu_sp.toCall (v4 TT))],6,[],v7,za4,za2⟩
def ua0:=zd6 zbb1 [] f38 nl0 vo0 vn5 []
def qfi:tZ35:=ua0 n (((f6,hL,aM,mN,iO,()),()),(aP,cQ,aR,aT,cU,aV,aW,aX,()),())
def zag3:qfi n f6 hL aM mN iO aP cQ aR aT cU aV aW aX=j6 (qdu g9 f6 hL aM mN iO (⟨aP,cQ,aR,aT,cU,aV,aW,aX⟩:Ins)) fun y1=>some ((((),()),(y1.1.1.1,(),y1.1.1.2.2.1,y1.1.1.2.2.2.1,(),()),y1.1.2.1,(),y1.1.2.2.2.1,(aP,cQ,aR,aT,cU,aV,aW,aX,()),()),()):=by kernel_rfl
def qfi_sp:GSpec TT:=spZ ua0
def zag4:zd7 38 qfi_sp:=okZ (v8 (q9 uy2 (j8 39)) q8) func38
def zar8:Ctx TT:=⟨za3,[(42,qz_sp.toCall (v4 TT))],4,[],v7,za4,za2⟩
def wq9:=zd6 zar8 [] f41 nl0 qa2 ys6 jo8
def qbu:Option (((List Ins×Unit×Int×List Flat×Unit×Unit)×List Place×Unit×List Int×Unit)×(Int×Unit)):=wq9 n ((f6,hL,aM,mN,iO,()),sP,())
def up9:qbu n f6 hL aM mN iO sP=j9 (!sP.UseImm) (some (((f6,(),aM,mN,(),()),hL,(),iO,()),(sP.Src,()))) (j6 (qz g9 f6 hL aM mN iO ([(⟨(1:Int),0,false,15,0,0,u64.wrap sP.Imm,0,(0:Int)⟩:Flat)]:List Flat)) fun y1=>some (((y1.1.1.1,(),y1.1.1.2.2.1,y1.1.1.2.2.2.1,(),()),y1.1.2.1,(),y1.1.2.2.2.1,()),(15,()))):=by kernel_rfl
def qbu_sp:GSpec TT:=spZ wq9
def vq3:zd7 41 qbu_sp:=okZ (v8 (q9 qd5 (j8 42)) q8) func41
def zbb2:Ctx TT:=⟨za3,[(41,qbu_sp.toCall (v4 TT)),(42,qz_sp.toCall (v4 TT))],6,[],v7,za4,za2⟩
def ua1:=zd6 zbb2 [] f40 nl0 vo0 vn5 []
def qfj:tZ35:=ua1 n (((f6,hL,aM,mN,iO,()),()),(aP,cQ,aR,aT,cU,aV,aW,aX,()),())
def zag5:qfj n f6 hL aM mN iO aP cQ aR aT cU aV aW aX=j6 (qbu g9 f6 hL aM mN iO (⟨aP,cQ,aR,aT,cU,aV,aW,aX⟩:Ins)) fun y1=>j6 (qz g9 y1.1.1.1 y1.1.2.1 y1.1.1.2.2.1 y1.1.1.2.2.2.1 y1.1.2.2.2.1 ([(⟨(6:Int),0,false,0,aR,y1.2.1,u64.wrap aV,aX,(0:Int)⟩:Flat)]:List Flat)) fun y2=>some ((((),()),(y2.1.1.1,(),y2.1.1.2.2.1,y2.1.1.2.2.2.1,(),()),y2.1.2.1,(),y2.1.2.2.2.1,(aP,cQ,aR,aT,cU,aV,aW,aX,()),()),()):=by kernel_rfl
def qfj_sp:GSpec TT:=spZ ua1
def zag6:zd7 40 qfj_sp:=okZ (v8 (q9 vq3 (j8 41)) (v8 (q9 qd5 (j8 42)) q8)) func40
def zat7:Ctx TT:=⟨za3,[(42,qz_sp.toCall (v4 TT))],4,[],v7,za4,za2⟩
def ws8:=zd6 zat7 [] f44 nl0 [qo5,ze9] ys6 []
def qcm:vz0:=ws8 n ((f6,hL,aM,mN,iO,()),aP,())
def us6:qcm n f6 hL aM mN iO aP=j9 (decide (aP>(i64.wrap (aM+1)))) (j6 (qz g9 f6 hL aM mN iO ([(⟨(7:Int),0,false,0,0,0,0,0,aP⟩:Flat)]:List Flat)) fun y1=>some (((y1.1.1.1,(),y1.1.1.2.2.1,y1.1.1.2.2.2.1,(),()),y1.1.2.1,(),y1.1.2.2.2.1,()),())) (some (((f6,(),aM,mN,(),()),hL,(),iO,()),())):=by kernel_rfl
def qcm_sp:GSpec TT:=spZ ws8
def gm9:zd7 44 qcm_sp:=okZ (v8 (q9 qd5 (j8 42)) q8) func44
def zbb3:Ctx TT:=⟨za3,[(44,qcm_sp.toCall (v4 TT))],6,[(0,1)],v7,za4,za2⟩
def ua2:=zd6 zbb3 [] f43 nl0 vo0 vn5 []
def qfk:tZ35:=ua2 n (((f6,hL,aM,mN,iO,()),()),(aP,cQ,aR,aT,cU,aV,aW,aX,()),())
def zag7:qfk n f6 hL aM mN iO aP cQ aR aT cU aV aW aX=j6 (qcm g9 f6 hL aM mN iO (i64.wrap ((i64.wrap (aM+1))+aV))) fun y1=>some ((((),()),(y1.1.1.1,(),y1.1.1.2.2.1,y1.1.1.2.2.2.1,(),()),y1.1.2.1,(),y1.1.2.2.2.1,(aP,cQ,aR,aT,cU,aV,aW,aX,()),()),()):=by kernel_rfl
def qfk_sp:GSpec TT:=spZ ua2
def zag8:zd7 43 qfk_sp:=okZ (v8 (q9 gm9 (j8 44)) q8) func43
def zbb4:Ctx TT:=⟨za3,[(42,qz_sp.toCall (v4 TT))],5,[],v7,za4,za2⟩
def ua3:=zd6 zbb4 [] f45 nl0 [gh2] [.blk 55 [.at_ 1 0],gh0,jy9,.gone,yg0] []
def qfl:Option (((Unit×Unit)×(List Ins×Unit×Int×List Flat×Unit×Unit)×List Place×Unit×List Int×Unit)×(Unit)):=ua3 n (((f6,hL,aM,mN,iO,()),()),())
def zag9:qfl n f6 hL aM mN iO=j6 (qz g9 f6 hL aM mN iO ([(⟨(9:Int),0,false,0,0,0,0,0,(0:Int)⟩:Flat)]:List Flat)) fun y1=>some ((((),()),(y1.1.1.1,(),y1.1.1.2.2.1,y1.1.1.2.2.2.1,(),()),y1.1.2.1,(),y1.1.2.2.2.1,()),()):=by kernel_rfl
def qfl_sp:GSpec TT:=spZ ua3
def zah0:zd7 45 qfl_sp:=okZ (v8 (q9 qd5 (j8 42)) q8) func45
def wp9:Ctx TT:=⟨za3,[(19,qce_sp.toCall (v4 TT)),(44,qcm_sp.toCall (v4 TT)),(41,qbu_sp.toCall (v4 TT)),(42,qz_sp.toCall (v4 TT))],4,[],v7,za4,za2⟩
def va0:List (Pos×Cut):= [(zb3 28,⟨[0,3,4,5,20],[],false,[],0,false⟩)]
def wq0:=zd6 wp9 va0 f47 nl0 qa2 ys6 []
def qbd:vz0:=wq0 n ((f6,hL,aM,mN,iO,()),sP,())
noncomputable abbrev zaq4:=ko8 wp9 va0 f47 nl0 ys6 []
def vp2:vz0:=zaq4 n 28 ⟨[(0,.ptr 0 0),(3,.ptr 4 0),(4,ci aA),(5,ci aB),(20,cb cC)],[.blk 58 [.cell ⟨.list (.user 2),fD⟩,.own 1,ci aE,.own 2,.own 3],.row 65 (.user 4) hL,.row 48 (.user 7) mM,.row 3 (.int .i64) iN,.blk 53 [cu8 aO,cb cP,ci aQ,ci aR,cb cS,ci aT,ci aU,ci aV]]⟩
def un5:qbd n f6 hL aM mN iO sP=j9 ((i64.wrap ((i64.wrap (aM+1))+sP.Off))==(i64.wrap (aM+1))) (vp2 n (i64.wrap (aM+1)) (i64.wrap ((i64.wrap (aM+1))+sP.Off)) true f6 aM hL mN iO sP.Op sP.Narrow sP.Dst sP.Src sP.UseImm sP.Off sP.Imm sP.Size) (j6 (qce g9 f6 hL aM mN iO (i64.wrap ((i64.wrap (aM+1))+sP.Off))) fun y1=>vp2 n (i64.wrap (aM+1)) (i64.wrap ((i64.wrap (aM+1))+sP.Off)) (!y1.2.1) y1.1.1.1 y1.1.1.2.2.1 y1.1.2.1 y1.1.2.2.1 y1.1.2.2.2.1 sP.Op sP.Narrow sP.Dst sP.Src sP.UseImm sP.Off sP.Imm sP.Size):=by kernel_rfl
def qh9:vp2 (n+1) aA aB cC fD aE hL mM iN aO cP aQ aR cS aT aU aV=j9 cC (some (((fD,(),aE,mM,(),()),hL,(),iN,()),())) (j6 (qce g9 fD hL aE mM iN aA) fun y1=>j9 (!y1.2.1) (j6 (qcm g9 y1.1.1.1 y1.1.2.1 y1.1.1.2.2.1 y1.1.2.2.1 y1.1.2.2.2.1 aB) fun y2=>some (((y2.1.1.1,(),y2.1.1.2.2.1,y2.1.1.2.2.2.1,(),()),y2.1.2.1,(),y2.1.2.2.2.1,()),())) (j6 (qbu g9 y1.1.1.1 y1.1.2.1 y1.1.1.2.2.1 y1.1.2.2.1 y1.1.2.2.2.1 (⟨aO,cP,aQ,aR,cS,aT,aU,aV⟩:Ins)) fun y3=>j6 (qz g9 y3.1.1.1 y3.1.2.1 y3.1.1.2.2.1 y3.1.1.2.2.2.1 y3.1.2.2.2.1 ([(⟨(8:Int),aO,cP,0,aQ,y3.2.1,0,0,aB⟩:Flat)]:List Flat)) fun y4=>some (((y4.1.1.1,(),y4.1.1.2.2.1,y4.1.1.2.2.2.1,(),()),y4.1.2.1,(),y4.1.2.2.2.1,()),()))):=by kernel_rfl
def qbd_sp:GSpec TT:=spZ wq0
def un6:zd7 47 qbd_sp:=okZ (v8 (q9 gm3 (j8 19)) (v8 (q9 gm9 (j8 44)) (v8 (q9 vq3 (j8 41)) (v8 (q9 qd5 (j8 42)) q8)))) func47
def wo3:Ctx TT:=⟨za3,[(42,qz_sp.toCall (v4 TT)),(41,qbu_sp.toCall (v4 TT))],4,[],v7,za4,za2⟩
def qz5:List (Pos×Cut):= [(zb3 27,⟨[0,3,37],[],false,[],0,false⟩),(zb3 111,⟨[0,3,59],[],false,[],0,false⟩)]
def wo4:=zd6 wo3 qz5 f48 nl0 qa2 ys6 []
def qak:vz0:=wo4 n ((f6,hL,aM,mN,iO,()),sP,())
noncomputable abbrev wo5:=ko8 wo3 qz5 f48 nl0 ys6 []
def qa7:vz0:=wo5 n 27 ⟨[(0,.ptr 0 0),(3,.ptr 4 0),(37,cb cA)],[.blk 58 [.cell ⟨.list (.user 2),fB⟩,.own 1,ci aC,.own 2,.own 3],.row 65 (.user 4) hL,.row 48 (.user 7) mM,.row 3 (.int .i64) iN,.blk 53 [cu8 aO,cb cP,ci aQ,ci aR,cb cS,ci aT,ci aU,ci aV]]⟩
def qr1:vz0:=wo5 n 111 ⟨[(0,.ptr 0 0),(3,.ptr 4 0),(59,cb cA)],[.blk 58 [.cell ⟨.list (.user 2),fB⟩,.own 1,ci aC,.own 2,.own 3],.row 65 (.user 4) hL,.row 48 (.user 7) mM,.row 3 (.int .i64) iN,.blk 53 [cu8 aO,cb cP,ci aQ,ci aR,cb cS,ci aT,ci aU,ci aV]]⟩
def uk8:qak n f6 hL aM mN iO sP=j9 (sP.Op==13) (j6 (qz g9 f6 hL aM mN iO ([(⟨(3:Int),sP.Op,sP.Narrow,sP.Dst,sP.Dst,0,0,0,(0:Int)⟩:Flat)]:List Flat)) fun y1=>some (((y1.1.1.1,(),y1.1.1.2.2.1,y1.1.1.2.2.2.1,(),()),y1.1.2.1,(),y1.1.2.2.2.1,()),())) (j9 (sP.Op==12) (j9 (!sP.Narrow) (qa7 n sP.UseImm f6 aM hL mN iO sP.Op sP.Narrow sP.Dst sP.Src sP.UseImm sP.Off sP.Imm sP.Size) (qa7 n false f6 aM hL mN iO sP.Op sP.Narrow sP.Dst sP.Src sP.UseImm sP.Off sP.Imm sP.Size)) (qa7 n false f6 aM hL mN iO sP.Op sP.Narrow sP.Dst sP.Src sP.UseImm sP.Off sP.Imm sP.Size)):=by kernel_rfl
def kf5:qa7 (n+1) cA fB aC hL mM iN aO cP aQ aR cS aT aU aV=j9 cA (j6 (qz g9 fB hL aC mM iN ([(⟨(1:Int),0,false,aQ,0,0,u64.wrap aU,0,(0:Int)⟩:Flat)]:List Flat)) fun y1=>some (((y1.1.1.1,(),y1.1.1.2.2.1,y1.1.1.2.2.2.1,(),()),y1.1.2.1,(),y1.1.2.2.2.1,()),())) (j9 (aO==12) (qr1 n (!cP) fB aC hL mM iN aO cP aQ aR cS aT aU aV) (qr1 n false fB aC hL mM iN aO cP aQ aR cS aT aU aV)):=by kernel_rfl
def kf6:qr1 (n+1) cA fB aC hL mM iN aO cP aQ aR cS aT aU aV=j9 cA (j6 (qz g9 fB hL aC mM iN ([(⟨(2:Int),0,false,aQ,aR,0,0,0,(0:Int)⟩:Flat)]:List Flat)) fun y1=>some (((y1.1.1.1,(),y1.1.1.2.2.1,y1.1.1.2.2.2.1,(),()),y1.1.2.1,(),y1.1.2.2.2.1,()),())) (j6 (qbu g9 fB hL aC mM iN (⟨aO,cP,aQ,aR,cS,aT,aU,aV⟩:Ins)) fun y2=>j6 (qz g9 y2.1.1.1 y2.1.2.1 y2.1.1.2.2.1 y2.1.1.2.2.2.1 y2.1.2.2.2.1 ([(⟨(3:Int),aO,cP,aQ,aQ,y2.2.1,0,0,(0:Int)⟩:Flat)]:List Flat)) fun y3=>some (((y3.1.1.1,(),y3.1.1.2.2.1,y3.1.1.2.2.2.1,(),()),y3.1.2.1,(),y3.1.2.2.2.1,()),())):=by kernel_rfl
def qak_sp:GSpec TT:=spZ wo4
def uk9:zd7 48 qak_sp:=okZ (v8 (q9 qd5 (j8 42)) (v8 (q9 vq3 (j8 41)) q8)) func48
def zax0:Ctx TT:=⟨za3,[(38,qfi_sp.toCall (v4 TT)),(40,qfj_sp.toCall (v4 TT)),(43,qfk_sp.toCall (v4 TT)),(45,qfl_sp.toCall (v4 TT)),(46,qbs_sp.toCall),(47,qbd_sp.toCall (v4 TT)),(48,qak_sp.toCall (v4 TT))],4,[],v7,za4,za2⟩
def ww0:=zd6 zax0 [] f20 nl0 qa2 ys6 []
def qdv:vz0:=ww0 n ((f6,hL,aM,mN,iO,()),sP,())
def uy3:qdv n f6 hL aM mN iO sP=if sP.Op=14 then (j6 (qfi g9 f6 hL aM mN iO sP.Op sP.Narrow sP.Dst sP.Src sP.UseImm sP.Off sP.Imm sP.Size) fun y1=>some (((y1.1.2.1.1,(),y1.1.2.1.2.2.1,y1.1.2.1.2.2.2.1,(),()),y1.1.2.2.1,(),y1.1.2.2.2.2.1,()),())) else (if sP.Op=15 then (j6 (qfj g9 f6 hL aM mN iO sP.Op sP.Narrow sP.Dst sP.Src sP.UseImm sP.Off sP.Imm sP.Size) fun y2=>some (((y2.1.2.1.1,(),y2.1.2.1.2.2.1,y2.1.2.1.2.2.2.1,(),()),y2.1.2.2.1,(),y2.1.2.2.2.2.1,()),())) else (if sP.Op=16 then (j6 (qfk g9 f6 hL aM mN iO sP.Op sP.Narrow sP.Dst sP.Src sP.UseImm sP.Off sP.Imm sP.Size) fun y3=>some (((y3.1.2.1.1,(),y3.1.2.1.2.2.1,y3.1.2.1.2.2.2.1,(),()),y3.1.2.2.1,(),y3.1.2.2.2.2.1,()),())) else (if sP.Op=28 then (j6 (qfl g9 f6 hL aM mN iO) fun y4=>some (((y4.1.2.1.1,(),y4.1.2.1.2.2.1,y4.1.2.1.2.2.2.1,(),()),y4.1.2.2.1,(),y4.1.2.2.2.2.1,()),())) else (j6 (qbs g9 sP) fun y5=>j9 y5 (j6 (qbd g9 f6 hL aM mN iO sP) fun y6=>some (((y6.1.1.1,(),y6.1.1.2.2.1,y6.1.1.2.2.2.1,(),()),y6.1.2.1,(),y6.1.2.2.2.1,()),())) (j6 (qak g9 f6 hL aM mN iO sP) fun y7=>some (((y7.1.1.1,(),y7.1.1.2.2.1,y7.1.1.2.2.2.1,(),()),y7.1.2.1,(),y7.1.2.2.2.1,()),())))))):=by kernel_rfl
def qdv_sp:GSpec TT:=spZ ww0
def uy4:zd7 20 qdv_sp:=okZ (v8 (q9 zag4 (j8 38)) (v8 (q9 zag6 (j8 40)) (v8 (q9 zag8 (j8 43)) (v8 (q9 zah0 (j8 45)) (v8 (q7 vq2) (v8 (q9 un6 (j8 47)) (v8 (q9 uk9 (j8 48)) q8))))))) func20
def qe_C:Ctx TT:=⟨za3,[(18,qf_sp.toCall (v4 TT)),(19,qce_sp.toCall (v4 TT)),(20,qdv_sp.toCall (v4 TT))],0,[(3,1),(8,1),(16,1)],v7,za4,za2⟩
def vv9:List (Pos×Cut):= [(zb3 250,⟨[0,3,6,23,24],[],false,[(1,3,48,.user 7),(1,4,3,.int .i64)],0,false⟩),(zb3 2003,⟨[0,3,6,23,24],[],false,[],0,false⟩),(zb3 506,⟨[3,6,63,64,65],[],false,[],0,false⟩),(zb3 4051,⟨[3,6,63,64,65],[],false,[],0,false⟩),(zb3 32409,⟨[3,6,7,8,63,64,65,77],[],false,[],0,false⟩)]
def qe_t:=ze2 qe_C vv9 f7 ⟨[],[]⟩ jz9 gi8
def qe:gp4:=qe_t n f6
noncomputable abbrev we8:=jm9 qe_C vv9 f7 ⟨[],[]⟩ jz9 gi8
def jr3:gp4:=we8 n 250 ⟨[(0,.cell ⟨.list (.user 2),f6⟩),(3,.ptr 0 0),(6,.ptr 1 0),(23,ci aA),(24,ci aB)],[.blk 29 [ci aC,ci aD],.blk 58 [.cell ⟨.list (.user 2),fE⟩,.own 2,ci aG,.own 3,.own 4],.row 65 (.user 4) hL,.row 48 (.user 7) mM,.row 3 (.int .i64) iN]⟩
def gs8:gp4:=we8 n 2003 ⟨[(0,.cell ⟨.list (.user 2),f6⟩),(3,.ptr 0 0),(6,.ptr 1 0),(23,ci aA),(24,ci aB)],[.blk 29 [ci aC,ci aD],.blk 58 [.cell ⟨.list (.user 2),fE⟩,.own 2,ci aG,.own 3,.own 4],.row 65 (.user 4) hL,.row 48 (.user 7) mM,.row 3 (.int .i64) iN]⟩
def vj6:gp4:=we8 n 506 ⟨[(3,.ptr 0 0),(6,.ptr 1 0),(63,.own 2),(64,ci aA),(65,ci aB)],[.blk 29 [ci aC,ci aD],.blk 58 [.cell ⟨.list (.user 2),fE⟩,.own 3,ci aG,.own 2,.own 4],.row 48 (.user 7) mH,.row 65 (.user 4) hL,.row 3 (.int .i64) iM]⟩
def km6:gp4:=we8 n 32409 ⟨[(3,.ptr 0 0),(6,.ptr 1 0),(7,ci aA),(8,.ptr 2 0),(63,.own 3),(64,ci aB),(65,ci aC),(77,cb cD)],[.blk 29 [ci aE,ci aG],.blk 58 [.cell ⟨.list (.user 2),fH⟩,.own 4,ci aI,.own 3,.own 5],.blk 48 [cu8 aJ,cu8 aK,cb cL,ci aM,ci aN,ci aO,k8 aP,ci aQ,ci aR],.row 48 (.user 7) mS,.row 65 (.user 4) hU,.row 3 (.int .i64) iV]⟩
def gs9:gp4:=we8 n 4051 ⟨[(3,.ptr 0 0),(6,.ptr 1 0),(63,.own 2),(64,ci aA),(65,ci aB)],[.blk 29 [ci aC,ci aD],.blk 58 [.cell ⟨.list (.user 2),fE⟩,.own 3,ci aG,.own 2,.own 4],.row 48 (.user 7) mH,.row 65 (.user 4) hL,.row 3 (.int .i64) iM]⟩
def zax5:qe n f6=j6 (qf g9 f6) fun y1=>j9 (y1.2.2.1.Err != 0) (some (([]:List Flat),y1.2.2.1)) (jr3 n f6 (f6.length:Int) 0 0 0 f6 0 y1.2.1 ([]:List Flat) ([]:List Int)):=by kernel_rfl
def va4:jr3 (n+1) f6 aA aB aC aD fE aG hL mM iN=j9 (decide (aB<aA)) (if (iN.length+1)*8<=140737488355328 then (j6 (qce g9 fE hL aB mM (iN++([(mM.length:Int)]:List Int)) aB) fun y1=>j9 y1.2.1 (if 0<=y1.1.1.2.2.1/\y1.1.1.2.2.1<(f6.length:Int) then (j6 (qdv g9 y1.1.1.1 y1.1.2.1 y1.1.1.2.2.1 y1.1.2.2.1 y1.1.2.2.2.1 (f6.getD y1.1.1.2.2.1.toNat zb5)) fun y2=>gs8 n f6 aA aB aC aD y2.1.1.1 y2.1.1.2.2.1 y2.1.2.1 y2.1.1.2.2.2.1 y2.1.2.2.2.1) else none) (gs8 n f6 aA aB aC aD y1.1.1.1 y1.1.1.2.2.1 y1.1.2.1 y1.1.2.2.1 y1.1.2.2.2.1)) else none) (vj6 n (mM.length:Int) 0 aC aD fE aG mM hL iN):=by kernel_rfl
def va2:gs8 (n+1) f6 aA aB aC aD fE aG hL mM iN=jr3 n f6 aA (i64.wrap (aB+1)) aC aD fE aG hL mM iN:=by kernel_rfl
def va5:vj6 (n+1) aA aB aC aD fE aG mH hL iM=j9 (decide (aB<aA)) (if 0<=aB/\aB<(mH.length:Int) then (j9 (((mH.getD aB.toNat k9).Do)==7) (km6 n aB aA aB true aC aD fE aG ((mH.getD aB.toNat k9).Do) ((mH.getD aB.toNat k9).What) ((mH.getD aB.toNat k9).Narrow) ((mH.getD aB.toNat k9).D) ((mH.getD aB.toNat k9).A) ((mH.getD aB.toNat k9).B) ((mH.getD aB.toNat k9).N) ((mH.getD aB.toNat k9).Size) ((mH.getD aB.toNat k9).To) mH hL iM) (km6 n aB aA aB (((mH.getD aB.toNat k9).Do)==8) aC aD fE aG ((mH.getD aB.toNat k9).Do) ((mH.getD aB.toNat k9).What) ((mH.getD aB.toNat k9).Narrow) ((mH.getD aB.toNat k9).D) ((mH.getD aB.toNat k9).A) ((mH.getD aB.toNat k9).B) ((mH.getD aB.toNat k9).N) ((mH.getD aB.toNat k9).Size) ((mH.getD aB.toNat k9).To) mH hL iM)) else none) (some (mH,(⟨(0:Int),(0:Int)⟩:Fault))):=by kernel_rfl
def kz4:km6 (n+1) aA aB aC cD aE aG fH aI aJ aK cL aM aN aO aP aQ aR mS hU iV=j9 cD (if 0<=aR/\aR<(iV.length:Int) then (if 0<=aA/\aA<(mS.length:Int) then (gs9 n aB aC aE aG fH aI (mS.set aA.toNat (⟨(mS.getD aA.toNat k9).Do,(mS.getD aA.toNat k9).What,(mS.getD aA.toNat k9).Narrow,(mS.getD aA.toNat k9).D,(mS.getD aA.toNat k9).A,(mS.getD aA.toNat k9).B,(mS.getD aA.toNat k9).N,(mS.getD aA.toNat k9).Size,iV.getD aR.toNat (0:Int)⟩:Flat)) hU iV) else none) else none) (gs9 n aB aC aE aG fH aI mS hU iV):=by kernel_rfl
def va3:gs9 (n+1) aA aB aC aD fE aG mH hL iM=vj6 n aA (i64.wrap (aB+1)) aC aD fE aG mH hL iM:=by kernel_rfl
def qe_sp:FnSpec TT:=spY qe_t
def ww5:ze3 7 qe_sp:=okY (v8 (q9 zba2 (j8 18)) (v8 (q9 gm3 (j8 19)) (v8 (q9 uy4 (j8 20)) q8))) func7
end
end Go.X
