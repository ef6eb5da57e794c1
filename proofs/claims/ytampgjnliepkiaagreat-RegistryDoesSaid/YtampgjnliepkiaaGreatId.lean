import Derived.Test.YtampgjnliepkiaaGreatIc
import Derived.Test.YtampgjnliepkiaaGreatAr
set_option linter.defProp false
namespace Go.X
open Go.RowKit Go.V Go.Proofs Tryz IntKind
noncomputable section
variable (n:Nat) (m5 m6:Entry) (t6:(Int×Int×Int×Int×Bool×(List Int×Nat×Nat)×yc7)×List Entry×Unit) (o8:List Entry) (aA:Int) (bA:(Int×Int×Int×Int×Bool×(List Int×Nat×Nat)×yc7)×Unit) (cA:List Int) (dA:Bool) (fA:Nat) (rA:Registry) (xA:Int×Int×Int×Int×Bool×(List Int×Nat×Nat)×yc7) (aB:Int) (dB:Bool) (fB:Nat) (iB:List (Int×List Int)) (oB:List Entry) (aC:Int) (cC:List Int) (dC:Bool) (fC:Nat) (aD:Int) (cD:List Int) (dD:Bool) (aE:Int) (cE:List Int) (dE:Bool) (aF:Int) (cF:List Int) (dF:Bool) (lF:List (Int×Bool)) (aG:Int) (dG:Bool) (fG:Nat) (iG:List (Int×List Int)) (aH:Int) (lH:List (Int×Bool)) (aI:Int) (dI:Bool) (aJ:Int) (cJ:List Int) (fJ:Nat) (aK:Int) (mK:Entry) (aL:Int) (dL:Bool) (aM:Int) (cM:List Int) (hM:List Held) (iM:List (Int×List Int)) (aN:Int) (cN:List Int) (dN:Bool) (fN:Nat) (lN:List (Int×Bool)) (aO:Int) (dO:Bool) (fO:Nat) (iO:List (Int×List Int)) (aP:Int) (fP:Nat) (lP:List (Int×Bool)) (aQ:Int) (cQ:List Int) (fQ:Nat) (aR:Int) (dS:Bool) (cT:List Int) (mT:Entry) (cU:List Int) (hU:List Held) (cV:List Int)
def gp1:Ctx TT:=ctZ [(90,qag_sp.toCall)] 0 []
def qn4:List (Pos×Cut):= [(zc0 122,⟨[0,3,4],[],false,[],0,false⟩)]
def gp2:=zh0 gp1 qn4 f49 nl0 [jn5] [] kx2
def qae:un0:=gp2 n (cA,())
noncomputable abbrev wt7:=yx4 gp1 qn4 f49 nl0 [] kx2
def yt9:un0:=wt7 n 122 ⟨[(0,.cell ⟨.list (.int .u8),cA⟩),(3,.own 0),(4,ci aB)],[.row 5 (.int .u8) cC]⟩
def wd3:qae n cA=if 0<=(0:Int)/\0<=i64.wrap ((cA.length:Int)+12)/\1*((i64.wrap ((cA.length:Int)+12)).toNat)<=281474976710656/\i64.wrap ((cA.length:Int)+12)<=9223372036854775807 then (if ((List.replicate 0 (0:Int)).length+cA.length)*1<=140737488355328 then (yt9 n cA 0 ((List.replicate 0 (0:Int))++cA)) else none) else none:=by kernel_rfl
def jv4:yt9 (n+1) cA aB cC=j9 (decide (aB<12)) (q9 (qag BIG 1 aB) fun y1=>if (cC.length+1)*1<=140737488355328 then (yt9 n cA (i64.wrap (aB+1)) (cC++([y1]:List Int))) else none) (if 0<=(0:Int)/\0<=(cA.length:Int)/\(cA.length:Int)<=(cC.length:Int) then (some ((),((cC,0,((cA.length:Int).toNat)-0),()))) else none):=by kernel_rfl
def qae_sp:GSpec TT:=spZ gp2
def wd4:zh4 49 qae_sp:=okZ (za0 (q8 qe6) v7) func49
def wy7:Ctx TT:=ctZ [(49,qae_sp.toCall (k9 TT))] 0 []
def gv1:=zh0 wy7 [] f24 nl0 [vw9] [] [qc0]
def qcj:Option ((Unit)×((Int×Int×Int×Int×Bool×(List Int×Nat×Nat)×Unit)×Unit)):=gv1 n (m5,())
def wl3:qcj n m5=q9 (qae BIG m5.Data) fun y1=>some ((),((m5.Term,m5.Kind,m5.Version,m5.Server,m5.Good,(y1.2.1.1,y1.2.1.2.1,y1.2.1.2.2),()),())):=by kernel_rfl
def qcj_sp:GSpec TT:=spZ gv1
def wl4:zh4 24 qcj_sp:=okZ (za0 (q7 wd4 (j8 49)) v7) func24
def qcy_C:Ctx TT:=⟨(go0 [22] qt3),[(24,qcj_sp.toCall (k9 TT)),(25,qcl_sp.toCall)],0,[],yv9,(fun _=>none),qm6⟩
def gh7:zb2 TT prog qcy_C.E:=za0 (q7 wl4 (j8 24)) (za0 (q8 vd4) v7)
def qo8:List (Pos×Cut):= [(zc0 58,⟨[0,3,4],[],true,[],0,false⟩),(zc0 122,⟨[0,3,6],[],true,[],0,false⟩)]
def qcy:un1:=gk5 TT prog qcy_C qo8 f7 (za4 f7) ⟨[],[],[],[],[]⟩ [.val (.list (.user 0))] [] [.asq 40 (.val (.int .i64):: .val (.int .u8):: .val (.int .i64):: .val (.int .i64):: .val (.bool):: .slr 5 (.int .u8)::jd5) 0 6 13 0 1] n (o8,())
def zm9:un1:=wp9 (fun e=>qcy BIG [e]) o8
def qcy_sp:GSpec TT:=⟨[.val (.list (.user 0))],[],[vb5],fun x=>zm9 x.1⟩
def wm8:GOk TT prog 7 qcy_sp:=qc4 (C:=qcy_C) (cuts:=qo8) (by kernel_rfl) gh7 func7 (show f7.body=some (za4 f7) by kernel_rfl) (by kernel_rfl) (by kernel_rfl) (by kernel_rfl) fun x y h=>⟨BIG,qm4 (g:=fun z=>qcy BIG z) (fun _=>rfl) h⟩
def wz5:Ctx TT:=ctZ [] 4 []
def gv9:=zh0 wz5 [] f27 nl0 yt8 ya5 zd1
def qcr:jx2:=gv9 n ((aA,iB,aC,aD,aE,lF,dG,()),(aH,aI,aJ,aK,dL,(cM,fN,fO),()),())
def wm1:qcr n aA iB aC aD aE lF dG aH aI aJ aK dL cM fN fO=some (((aA,(),aC,aD,aE,(),dG,()),iB,lF,cM,()),(0,())):=by kernel_rfl
def qcr_sp:GSpec TT:=spZ gv9
def wm2:zh4 27 qcr_sp:=okZ v7 func27
def gr5:Ctx TT:=ctZ [(23,qaa_sp.toCall),(51,qbd_sp.toCall),(52,qu_sp.toCall),(44,qaj_sp.toCall)] 4 [(8,1)]
def qo3:List (Pos×Cut):= [(zc0 463,⟨[0,3,29],[],false,[],0,false⟩)]
def gr6:=zh0 gr5 qo3 f28 nl0 yt8 ya5 zd1
def qat:jx2:=gr6 n ((aA,iB,aC,aD,aE,lF,dG,()),(aH,aI,aJ,aK,dL,(cM,fN,fO),()),())
noncomputable abbrev wv2:=yx4 gr5 qo3 f28 nl0 ya5 zd1
def qf1:jx2:=wv2 n 463 ⟨[(0,.ptr 0 0),(3,.ptr 4 0),(29,cb dA)],[.blk 64 [ci aB,.mp 1,ci aC,ci aD,ci aE,.mp 2,cb dF],.tmap .i64 (.list (.int .u8)) iG,.tmap .i64 (.bool) lH,.row 5 (.int .u8) cJ,.blk 40 [ci aK,cu8 aL,ci aM,ci aN,cb dO,.sl 3 1 fP fQ]]⟩
def wf2:qat n aA iB aC aD aE lF dG aH aI aJ aK dL cM fN fO=q9 (qaa BIG aJ 1073741824) fun y1=>j9 (!y1) (some (((aA,(),aC,aD,aE,(),dG,()),iB,lF,cM,()),(2,()))) (if fN+fO<=cM.length then (q9 (qbd BIG aJ (List.take fO (List.drop fN cM))) fun y2=>j9 (!y2) (some (((aA,(),aC,aD,aE,(),dG,()),iB,lF,cM,()),(4,()))) (j9 (zq2 iB aJ) (if fN+fO<=cM.length then (q9 (qu BIG (jb8 TT (.list (.int .u8)) iB aJ) (List.take fO (List.drop fN cM))) fun y3=>qf1 n (!y3) aA aC aD aE dG iB lF cM aH aI aJ aK dL fN fO) else none) (qf1 n false aA aC aD aE dG iB lF cM aH aI aJ aK dL fN fO))) else none):=by kernel_rfl
def vs7:qf1 (n+1) dA aB aC aD aE dF iG lH cJ aK aL aM aN dO fP fQ=j9 dA (some (((aB,(),aC,aD,aE,(),dF,()),iG,lH,cJ,()),(7,()))) (if fP+fQ<=cJ.length then (q9 (qaj BIG (List.take fQ (List.drop fP cJ))) fun y1=>some (((aB,(),aC,aD,aE,(),dF,()),zh5 iG aM y1,lH,cJ,()),(0,()))) else none):=by kernel_rfl
def qat_sp:GSpec TT:=spZ gr6
def wf3:zh4 28 qat_sp:=okZ (za0 (q8 yo7) (za0 (q8 vd2) (za0 (q8 ky7) (za0 (q8 jo7) v7)))) func28
def wy4:Ctx TT:=ctZ [] 4 []
def gu8:=zh0 wy4 [] f29 nl0 yt8 ya5 zd1
def qce:jx2:=gu8 n ((aA,iB,aC,aD,aE,lF,dG,()),(aH,aI,aJ,aK,dL,(cM,fN,fO),()),())
def wk3:qce n aA iB aC aD aE lF dG aH aI aJ aK dL cM fN fO=j9 (!(zq2 iB aJ)) (some (((aA,(),aC,aD,aE,(),dG,()),iB,lF,cM,()),(6,()))) (j9 (aE != 0) (some (((aA,(),aC,aD,aE,(),dG,()),iB,lF,cM,()),(8,()))) (j9 (aJ==aC) (some (((aA,(),aC,aD,aE,(),dG,()),iB,lF,cM,()),(7,()))) (some (((aA,(),aC,aD,aJ,(),dG,()),iB,lF,cM,()),(0,()))))):=by kernel_rfl
def qce_sp:GSpec TT:=spZ gu8
def wk4:zh4 29 qce_sp:=okZ v7 func29
def gr3:Ctx TT:=ctZ [(23,qaa_sp.toCall)] 4 [(7,1)]
def qo2:List (Pos×Cut):= [(zc0 12,⟨[0,3,8],[],false,[],0,false⟩)]
def gr4:=zh0 gr3 qo2 f30 nl0 yt8 ya5 zd1
def qas:jx2:=gr4 n ((aA,iB,aC,aD,aE,lF,dG,()),(aH,aI,aJ,aK,dL,(cM,fN,fO),()),())
noncomputable abbrev wv1:=yx4 gr3 qo2 f30 nl0 ya5 zd1
def qf0:jx2:=wv1 n 12 ⟨[(0,.ptr 0 0),(3,.ptr 4 0),(8,cb dA)],[.blk 64 [ci aB,.mp 1,ci aC,ci aD,ci aE,.mp 2,cb dF],.tmap .i64 (.list (.int .u8)) iG,.tmap .i64 (.bool) lH,.row 5 (.int .u8) cJ,.blk 40 [ci aK,cu8 aL,ci aM,ci aN,cb dO,.sl 3 1 fP fQ]]⟩
def wf0:qas n aA iB aC aD aE lF dG aH aI aJ aK dL cM fN fO=j9 (decide (aJ<1)) (qf0 n true aA aC aD aE dG iB lF cM aH aI aJ aK dL fN fO) (qf0 n (aJ != aE) aA aC aD aE dG iB lF cM aH aI aJ aK dL fN fO):=by kernel_rfl
def vs6:qf0 (n+1) dA aB aC aD aE dF iG lH cJ aK aL aM aN dO fP fQ=j9 dA (some (((aB,(),aC,aD,aE,(),dF,()),iG,lH,cJ,()),(6,()))) (q9 (qaa BIG aN aB) fun y1=>j9 (!y1) (some (((aB,(),aC,aD,aE,(),dF,()),iG,lH,cJ,()),(2,()))) (j9 dO (some (((aB,(),aC,aD,aE,(),dF,()),iG,zh5 lH aN true,cJ,()),(0,()))) (some (((aB,(),aC,aD,aE,(),true,()),iG,lH,cJ,()),(0,()))))):=by kernel_rfl
def qas_sp:GSpec TT:=spZ gr4
def wf1:zh4 30 qas_sp:=okZ (za0 (q8 yo7) v7) func30
def um0:Ctx TT:=ctZ [(53,qai_sp.toCall (k9 TT))] 4 [(5,1)]
def vk3:List (Pos×Cut):= [(zc0 12,⟨[0,3,5],[],false,[],0,false⟩),(zc0 51,⟨[0,3,18],[],false,[],0,false⟩)]
def um1:=zh0 um0 vk3 f31 nl0 yt8 ya5 zd1
def qz:jx2:=um1 n ((aA,iB,aC,aD,aE,lF,dG,()),(aH,aI,aJ,aK,dL,(cM,fN,fO),()),())
noncomputable abbrev um2:=yx4 um0 vk3 f31 nl0 ya5 zd1
def ka8:jx2:=um2 n 12 ⟨[(0,.ptr 0 0),(3,.ptr 4 0),(5,cb dA)],[.blk 64 [ci aB,.mp 1,ci aC,ci aD,ci aE,.mp 2,cb dF],.tmap .i64 (.list (.int .u8)) iG,.tmap .i64 (.bool) lH,.row 5 (.int .u8) cJ,.blk 40 [ci aK,cu8 aL,ci aM,ci aN,cb dO,.sl 3 1 fP fQ]]⟩
def ka9:jx2:=um2 n 51 ⟨[(0,.ptr 0 0),(3,.ptr 4 0),(18,cb dA)],[.blk 64 [ci aB,.mp 1,ci aC,ci aD,ci aE,.mp 2,cb dF],.tmap .i64 (.list (.int .u8)) iG,.tmap .i64 (.bool) lH,.row 5 (.int .u8) cJ,.blk 40 [ci aK,cu8 aL,ci aM,ci aN,cb dO,.sl 3 1 fP fQ]]⟩
def ue6:qz n aA iB aC aD aE lF dG aH aI aJ aK dL cM fN fO=j9 (decide (aJ<1)) (ka8 n true aA aC aD aE dG iB lF cM aH aI aJ aK dL fN fO) (ka8 n (aJ != aE) aA aC aD aE dG iB lF cM aH aI aJ aK dL fN fO):=by kernel_rfl
def kl0:ka8 (n+1) dA aB aC aD aE dF iG lH cJ aK aL aM aN dO fP fQ=j9 dA (some (((aB,(),aC,aD,aE,(),dF,()),iG,lH,cJ,()),(6,()))) (j9 dF (ka9 n true aB aC aD aE dF iG lH cJ aK aL aM aN dO fP fQ) (ka9 n (decide ((lH.length:Int)<aB)) aB aC aD aE dF iG lH cJ aK aL aM aN dO fP fQ)):=by kernel_rfl
def kl1:ka9 (n+1) dA aB aC aD aE dF iG lH cJ aK aL aM aN dO fP fQ=j9 dA (some (((aB,(),aC,aD,aE,(),dF,()),iG,lH,cJ,()),(8,()))) (q9 (qai BIG aB iG aM aC aE lH dF) fun y1=>some (((y1.1.1.1,(),y1.1.1.2.2.1,y1.1.1.2.2.2.1,y1.1.1.2.2.2.2.1,(),y1.1.1.2.2.2.2.2.2.1,()),y1.1.2.1,y1.1.2.2.1,cJ,()),(0,()))):=by kernel_rfl
def qz_sp:GSpec TT:=spZ um1
def ue7:zh4 31 qz_sp:=okZ (za0 (q7 jd8 (j8 53)) v7) func31
def gq5:Ctx TT:=ctZ [(53,qai_sp.toCall (k9 TT))] 4 []
def qn9:List (Pos×Cut):= [(zc0 12,⟨[0,3,7],[],false,[],0,false⟩)]
def gq6:=zh0 gq5 qn9 f32 nl0 yt8 ya5 zd1
def qan:jx2:=gq6 n ((aA,iB,aC,aD,aE,lF,dG,()),(aH,aI,aJ,aK,dL,(cM,fN,fO),()),())
noncomputable abbrev wu6:=yx4 gq5 qn9 f32 nl0 ya5 zd1
def jo9:jx2:=wu6 n 12 ⟨[(0,.ptr 0 0),(3,.ptr 4 0),(7,cb dA)],[.blk 64 [ci aB,.mp 1,ci aC,ci aD,ci aE,.mp 2,cb dF],.tmap .i64 (.list (.int .u8)) iG,.tmap .i64 (.bool) lH,.row 5 (.int .u8) cJ,.blk 40 [ci aK,cu8 aL,ci aM,ci aN,cb dO,.sl 3 1 fP fQ]]⟩
def we3:qan n aA iB aC aD aE lF dG aH aI aJ aK dL cM fN fO=j9 (decide (aJ<1)) (jo9 n true aA aC aD aE dG iB lF cM aH aI aJ aK dL fN fO) (j9 (aJ != aE) (jo9 n (aJ != aC) aA aC aD aE dG iB lF cM aH aI aJ aK dL fN fO) (jo9 n false aA aC aD aE dG iB lF cM aH aI aJ aK dL fN fO)):=by kernel_rfl
def vs3:jo9 (n+1) dA aB aC aD aE dF iG lH cJ aK aL aM aN dO fP fQ=j9 dA (some (((aB,(),aC,aD,aE,(),dF,()),iG,lH,cJ,()),(6,()))) (j9 (aM==aC) (j9 (aE==aD) (q9 (qai BIG aB iG aD 0 aE lH dF) fun y1=>some (((y1.1.1.1,(),y1.1.1.2.2.1,y1.1.1.2.2.2.1,y1.1.1.2.2.2.2.1,(),y1.1.1.2.2.2.2.2.2.1,()),y1.1.2.1,y1.1.2.2.1,cJ,()),(0,()))) (some (((aB,(),aD,0,aE,(),dF,()),iG,lH,cJ,()),(0,())))) (q9 (qai BIG aB iG aC aD aE lH dF) fun y2=>some (((y2.1.1.1,(),y2.1.1.2.2.1,y2.1.1.2.2.2.1,y2.1.1.2.2.2.2.1,(),y2.1.1.2.2.2.2.2.2.1,()),y2.1.2.1,y2.1.2.2.1,cJ,()),(0,())))):=by kernel_rfl
def qan_sp:GSpec TT:=spZ gq6
def we4:zh4 32 qan_sp:=okZ (za0 (q7 jd8 (j8 53)) v7) func32
def wy2:Ctx TT:=ctZ [(26,qah_sp.toCall (k9 TT)),(27,qcr_sp.toCall (qdf_sp.toCall (qcq_sp.toCall (k9 TT)))),(28,qat_sp.toCall (qdh_sp.toCall (qct_sp.toCall (k9 TT)))),(29,qce_sp.toCall (qdg_sp.toCall (qcs_sp.toCall (k9 TT)))),(30,qas_sp.toCall (qdd_sp.toCall (qco_sp.toCall (k9 TT)))),(31,qz_sp.toCall (qde_sp.toCall (qcp_sp.toCall (k9 TT)))),(32,qan_sp.toCall (qdi_sp.toCall (qcu_sp.toCall (k9 TT))))] 4 []
def gu6:=zh0 wy2 [] f8 nl0 yt8 ya5 zd1
def qcc:jx2:=gu6 n ((aA,iB,aC,aD,aE,lF,dG,()),(aH,aI,aJ,aK,dL,(cM,fN,fO),()),())
def wj9:qcc n aA iB aC aD aE lF dG aH aI aJ aK dL cM fN fO=q9 (qah BIG aA iB aC aD aE lF dG) fun y1=>j9 (!y1.2.1) (some (((y1.1.1.1,(),y1.1.1.2.2.1,y1.1.1.2.2.2.1,y1.1.1.2.2.2.2.1,(),y1.1.1.2.2.2.2.2.2.1,()),y1.1.2.1,y1.1.2.2.1,cM,()),(1,()))) (if aI=1 then (q9 (qcr BIG y1.1.1.1 y1.1.2.1 y1.1.1.2.2.1 y1.1.1.2.2.2.1 y1.1.1.2.2.2.2.1 y1.1.2.2.1 y1.1.1.2.2.2.2.2.2.1 aH aI aJ aK dL cM fN fO) fun y2=>some (((y2.1.1.1,(),y2.1.1.2.2.1,y2.1.1.2.2.2.1,y2.1.1.2.2.2.2.1,(),y2.1.1.2.2.2.2.2.2.1,()),y2.1.2.1,y2.1.2.2.1,y2.1.2.2.2.1,()),(y2.2.1,()))) else (if aI=2 then (q9 (qat BIG y1.1.1.1 y1.1.2.1 y1.1.1.2.2.1 y1.1.1.2.2.2.1 y1.1.1.2.2.2.2.1 y1.1.2.2.1 y1.1.1.2.2.2.2.2.2.1 aH aI aJ aK dL cM fN fO) fun y3=>some (((y3.1.1.1,(),y3.1.1.2.2.1,y3.1.1.2.2.2.1,y3.1.1.2.2.2.2.1,(),y3.1.1.2.2.2.2.2.2.1,()),y3.1.2.1,y3.1.2.2.1,y3.1.2.2.2.1,()),(y3.2.1,()))) else (if aI=3 then (q9 (qce BIG y1.1.1.1 y1.1.2.1 y1.1.1.2.2.1 y1.1.1.2.2.2.1 y1.1.1.2.2.2.2.1 y1.1.2.2.1 y1.1.1.2.2.2.2.2.2.1 aH aI aJ aK dL cM fN fO) fun y4=>some (((y4.1.1.1,(),y4.1.1.2.2.1,y4.1.1.2.2.2.1,y4.1.1.2.2.2.2.1,(),y4.1.1.2.2.2.2.2.2.1,()),y4.1.2.1,y4.1.2.2.1,y4.1.2.2.2.1,()),(y4.2.1,()))) else (if aI=4 then (q9 (qas BIG y1.1.1.1 y1.1.2.1 y1.1.1.2.2.1 y1.1.1.2.2.2.1 y1.1.1.2.2.2.2.1 y1.1.2.2.1 y1.1.1.2.2.2.2.2.2.1 aH aI aJ aK dL cM fN fO) fun y5=>some (((y5.1.1.1,(),y5.1.1.2.2.1,y5.1.1.2.2.2.1,y5.1.1.2.2.2.2.1,(),y5.1.1.2.2.2.2.2.2.1,()),y5.1.2.1,y5.1.2.2.1,y5.1.2.2.2.1,()),(y5.2.1,()))) else (if aI=5 then (q9 (qz BIG y1.1.1.1 y1.1.2.1 y1.1.1.2.2.1 y1.1.1.2.2.2.1 y1.1.1.2.2.2.2.1 y1.1.2.2.1 y1.1.1.2.2.2.2.2.2.1 aH aI aJ aK dL cM fN fO) fun y6=>some (((y6.1.1.1,(),y6.1.1.2.2.1,y6.1.1.2.2.2.1,y6.1.1.2.2.2.2.1,(),y6.1.1.2.2.2.2.2.2.1,()),y6.1.2.1,y6.1.2.2.1,y6.1.2.2.2.1,()),(y6.2.1,()))) else (if aI=6 then (q9 (qan BIG y1.1.1.1 y1.1.2.1 y1.1.1.2.2.1 y1.1.1.2.2.2.1 y1.1.1.2.2.2.2.1 y1.1.2.2.1 y1.1.1.2.2.2.2.2.2.1 aH aI aJ aK dL cM fN fO) fun y7=>some (((y7.1.1.1,(),y7.1.1.2.2.1,y7.1.1.2.2.2.1,y7.1.1.2.2.2.2.1,(),y7.1.1.2.2.2.2.2.2.1,()),y7.1.2.1,y7.1.2.2.1,y7.1.2.2.2.1,()),(y7.2.1,()))) else (some (((y1.1.1.1,(),y1.1.1.2.2.1,y1.1.1.2.2.2.1,y1.1.1.2.2.2.2.1,(),y1.1.1.2.2.2.2.2.2.1,()),y1.1.2.1,y1.1.2.2.1,cM,()),(2,()))))))))):=by kernel_rfl
def qcc_sp:GSpec TT:=spZ gu6
def wk0:zh4 8 qcc_sp:=okZ (za0 (q7 jd7 (j8 26)) (za0 (q7 wm2 (q7 ku7 (q7 vd7 (j8 27)))) (za0 (q7 wf3 (q7 ku9 (q7 vd9 (j8 28)))) (za0 (q7 wk4 (q7 ku8 (q7 vd8 (j8 29)))) (za0 (q7 wf1 (q7 ku5 (q7 vd5 (j8 30)))) (za0 (q7 ue7 (q7 ku6 (q7 vd6 (j8 31)))) (za0 (q7 we4 (q7 kv0 (q7 ve0 (j8 32)))) v7))))))) func8
def ww0:Ctx TT:=ctZ [(19,ql_sp.toCall)] 0 []
def gs1:=zn0 ww0 [] f16 ⟨[],[]⟩ [.val (.user 0),.val (.user 0)] zn9
def qbb:tZ1:=gs1 n (m5,m6)
def wf8:qbb n m5 m6=j9 (m5.Term==m6.Term) (j9 (m5.Kind==m6.Kind) (j9 (m5.Version==m6.Version) (j9 (m5.Server==m6.Server) (j9 (m5.Good==m6.Good) (q9 (ql BIG m5.Data m6.Data) fun y1=>some y1) (some false)) (some false)) (some false)) (some false)) (some false):=by kernel_rfl
def qbb_sp:FnSpec TT:=spY gs1
def vd0:zn7 16 qbb_sp:=okY (za0 (q8 vz5) v7) func16
def ui1:Ctx TT:=ctZ [(90,qag_sp.toCall)] 1 []
def vi9:List (Pos×Cut):= [(zc0 122,⟨[1,5,6],[],false,[],0,false⟩),(zc0 1956,⟨[1,5,6,57],[],false,[],0,false⟩)]
def ui2:=zh0 ui1 vi9 f54 nl0 [.slr 5 (.int .u8),jn5] [zq6] ym3
def qj:gz1:=ui2 n ((cA,fB,fC),cD,())
noncomputable abbrev ui3:=yx4 ui1 vi9 f54 nl0 [zq6] ym3
def jh5:gz1:=ui3 n 122 ⟨[(1,.cell ⟨.list (.int .u8),cA⟩),(5,.sl 0 1 fB fC),(6,ci aD)],[.row 5 (.int .u8) cE]⟩
def jr4:gz1:=ui3 n 1956 ⟨[(1,.cell ⟨.list (.int .u8),cA⟩),(5,.sl 0 1 fB fC),(6,ci aD),(57,cb dE)],[.row 5 (.int .u8) cF]⟩
def uc3:qj n cA fB fC cD=j9 ((fC:Int) != (cD.length:Int)) (some ((cA,()),(false,()))) (if 0<=(0:Int)/\0<=i64.wrap ((cD.length:Int)+12)/\(i64.wrap ((cD.length:Int)+12)<=(fC:Int)\/((fB:Int)+i64.wrap ((cD.length:Int)+12)<=(cA.length:Int)/\(fB=0\/0<fC))) then (jh5 n cD (fB+0) (((i64.wrap ((cD.length:Int)+12)).toNat)-0) 0 cA) else none):=by kernel_rfl
def qp5:jh5 (n+1) cA fB fC aD cE=j9 (decide (aD<(fC:Int))) (j9 (decide (aD<(cA.length:Int))) (if 0<=aD/\aD<(fC:Int) then (if fB+aD.toNat<cE.length then (if 0<=aD/\aD<(cA.length:Int) then (j9 (!((cE.getD (fB+aD.toNat) 0)==(cA.getD aD.toNat 0))) (jr4 n cA fB fC aD true cE) (j9 (decide (aD>=(cA.length:Int))) (if 0<=aD/\aD<(fC:Int) then (if fB+aD.toNat<cE.length then (q9 (qag BIG 1 (i64.wrap (aD-(cA.length:Int)))) fun y1=>jr4 n cA fB fC aD (!((cE.getD (fB+aD.toNat) 0)==y1)) cE) else none) else none) (jr4 n cA fB fC aD false cE))) else none) else none) else none) (j9 (decide (aD>=(cA.length:Int))) (if 0<=aD/\aD<(fC:Int) then (if fB+aD.toNat<cE.length then (q9 (qag BIG 1 (i64.wrap (aD-(cA.length:Int)))) fun y2=>jr4 n cA fB fC aD (!((cE.getD (fB+aD.toNat) 0)==y2)) cE) else none) else none) (jr4 n cA fB fC aD false cE))) (some ((cE,()),(true,()))):=by kernel_rfl
def kk2:jr4 (n+1) cA fB fC aD dE cF=j9 dE (some ((cF,()),(false,()))) (jh5 n cA fB fC (i64.wrap (aD+1)) cF):=by kernel_rfl
def qj_sp:GSpec TT:=spZ ui2
def uc4:zh4 54 qj_sp:=okZ (za0 (q8 qe6) v7) func54
def wx5:Ctx TT:=ctZ [(16,qbb_sp.toCall),(54,qj_sp.toCall (k9 TT))] 1 []
def gt9:=zh0 wx5 [] f33 nl0 [qc0,vw9] [zq6] ym3
def qbv:gz1:=gt9 n ((aA,aB,aC,aD,dE,(cF,fG,fJ),()),mK,())
def wi4:qbv n aA aB aC aD dE cF fG fJ mK=if fG+fJ<=cF.length then (q9 (qbb BIG (⟨aA,aB,aC,aD,dE,List.take fJ (List.drop fG cF)⟩:Entry) mK) fun y1=>j9 y1 (q9 (qj BIG cF fG fJ mK.Data) fun y2=>some ((y2.1.1,()),(y2.2.1,()))) (some ((cF,()),(false,())))) else none:=by kernel_rfl
def qbv_sp:GSpec TT:=spZ gt9
def wi5:zh4 33 qbv_sp:=okZ (za0 (q8 vd0) (za0 (q7 uc4 (j8 54)) v7)) func33
def qcx_C:Ctx TT:=⟨(go0 [22] qt3),[(33,qbv_sp.toCall (k9 TT)),(25,qcl_sp.toCall),(16,qbb_sp.toCall)],2,[(7,1)],yv9,(fun _=>none),qm6⟩
def gh6:zb2 TT prog qcx_C.E:=za0 (q7 wi5 (j8 33)) (za0 (q8 vd4) (za0 (q8 vd0) v7))
def qo7:List (Pos×Cut):= [(zc0 122,⟨[1,5,6],[],true,[],0,false⟩)]
def qcx:un2:=gk5 TT prog qcx_C qo7 f9 (za4 f9) ⟨[],[],[],[],[]⟩ [.asq 40 (.val (.int .i64):: .val (.int .u8):: .val (.int .i64):: .val (.int .i64):: .val (.bool):: .slr 5 (.int .u8)::jd5) 0 6 13 0 1,.val (.list (.user 0))] [.blk 40 (.val (.int .i64):: .val (.int .u8):: .val (.int .i64):: .val (.int .i64):: .val (.bool):: .part 1 1::jd5),.row 5 (.int .u8)] [.val (.bool)] n t6
def zm8:un2:=wp9 (fun e=>qcx BIG (xA,[e],())) oB
def qcx_sp:GSpec TT:=⟨[vb5,.val (.list (.user 0))],[.blk 40 (.val (.int .i64):: .val (.int .u8):: .val (.int .i64):: .val (.int .i64):: .val (.bool):: .part 1 1::jd5),zq6],ym3,fun x=>zm8 x.1 x.2.1⟩
def wm7:GOk TT prog 9 qcx_sp:=qc4 (C:=qcx_C) (cuts:=qo7) (by kernel_rfl) gh6 func9 (show f9.body=some (za4 f9) by kernel_rfl) (by kernel_rfl) (by kernel_rfl) (by kernel_rfl) fun x y h=>⟨BIG,qm4 (g:=fun z=>qcx BIG (x.1,z,())) (fun _=>rfl) h⟩
def wx8:Ctx TT:=ctZ [] 0 []
def gu2:=zh0 wx8 [] f131 nl0 [jn5] [] qd3
def qby:Option ((Unit)×((List Int×Int×Bool×Unit)×Unit)):=gu2 n (cA,())
def wj1:qby n cA=if (0+cA.length)*1<=140737488355328 then (some ((),((([]:List Int)++cA,0,false,()),()))) else none:=by kernel_rfl
def qby_sp:GSpec TT:=spZ gu2
def wj2:zh4 131 qby_sp:=okZ v7 func131
def uh6:Ctx TT:=ctZ [] 2 []
def vi7:List (Pos×Cut):= [(zc0 6,⟨[0,21],[],false,[],0,false⟩),(zc0 122,⟨[0,3,4],[],false,[],0,false⟩)]
def uh7:=zh0 uh6 vi7 f132 nl0 qd3 jo0 zd1
def qh:wq2:=uh7 n ((cA,aB,dC,()),())
noncomputable abbrev uh8:=yx4 uh6 vi7 f132 nl0 jo0 zd1
def vz1:wq2:=uh8 n 6 ⟨[(0,.ptr 0 0),(21,cb dA)],[.blk 246 [.own 1,ci aB,cb dC],.row 5 (.int .u8) cD]⟩
def jh4:wq2:=uh8 n 122 ⟨[(0,.ptr 0 0),(3,yq1 aA),(4,ci aB)],[.blk 246 [.own 1,ci aC,cb dD],.row 5 (.int .u8) cE]⟩
def uc0:qh n cA aB dC=j9 dC (vz1 n true aB dC cA) (vz1 n (decide ((i64.wrap ((cA.length:Int)-aB))<8)) aB dC cA):=by kernel_rfl
def kj9:vz1 (n+1) dA aB dC cD=j9 dA (some ((((),aB,true,()),cD,()),(0,()))) (jh4 n 0 0 aB dC cD):=by kernel_rfl
def qp3:jh4 (n+1) aA aB aC dD cE=j9 (decide (aB<8)) (if 0<=i64.wrap (aC+aB)/\i64.wrap (aC+aB)<(cE.length:Int) then (jh4 n (u64.wrap ((u64.wrap (256*aA))+(u64.wrap (cE.getD ((i64.wrap (aC+aB)).toNat) 0)))) (i64.wrap (aB+1)) aC dD cE) else none) (some ((((),i64.wrap (aC+8),dD,()),cE,()),(i64.wrap aA,()))):=by kernel_rfl
def qh_sp:GSpec TT:=spZ uh7
def gy1:zh4 132 qh_sp:=okZ v7 func132
def go9:Ctx TT:=ctZ [(132,qh_sp.toCall (k9 TT))] 2 [(6,1)]
def qn3:List (Pos×Cut):= [(zc0 14,⟨[0,3,27],[],false,[],0,false⟩)]
def gp0:=zh0 go9 qn3 f133 ⟨[(0,5,.int .u8,true)],[],[],[],[]⟩ qd3 jo0 [yv1]
def qac:un3:=gp0 n ((cA,aB,dC,()),())
noncomputable abbrev wt5:=yx4 go9 qn3 f133 ⟨[(0,5,.int .u8,true)],[],[],[],[]⟩ jo0 [yv1]
def jd6:un3:=wt5 n 14 ⟨[(0,.ptr 0 0),(3,ci aA),(27,cb dB)],[.blk 246 [.own 1,ci aC,cb dD],.row 5 (.int .u8) cE]⟩
def wc9:qac n cA aB dC=q9 (qh BIG cA aB dC) fun y1=>j9 y1.1.1.2.2.1 (jd6 n y1.2.1 true y1.1.1.2.1 y1.1.1.2.2.1 y1.1.2.1) (j9 (decide (y1.2.1<0)) (jd6 n y1.2.1 true y1.1.1.2.1 y1.1.1.2.2.1 y1.1.2.1) (jd6 n y1.2.1 (decide (y1.2.1>(i64.wrap ((y1.1.2.1.length:Int)-y1.1.1.2.1)))) y1.1.1.2.1 y1.1.1.2.2.1 y1.1.2.1)):=by kernel_rfl
def jv2:jd6 (n+1) aA dB aC dD cE=j9 dB (some ((((),aC,true,()),cE,()),(([]:List Int),()))) (if 0<=i64.wrap ((i64.wrap (aC+aA))-aA)/\i64.wrap ((i64.wrap (aC+aA))-aA)<=i64.wrap (aC+aA)/\i64.wrap (aC+aA)<=(cE.length:Int) then (if ((i64.wrap ((i64.wrap (aC+aA))-aA)).toNat)+(((i64.wrap (aC+aA)).toNat)-((i64.wrap ((i64.wrap (aC+aA))-aA)).toNat))<=cE.length then (if (0+(List.take (((i64.wrap (aC+aA)).toNat)-((i64.wrap ((i64.wrap (aC+aA))-aA)).toNat)) (List.drop ((i64.wrap ((i64.wrap (aC+aA))-aA)).toNat) cE)).length)*1<=140737488355328 then (some ((((),i64.wrap (aC+aA),dD,()),cE,()),(([]:List Int)++(List.take (((i64.wrap (aC+aA)).toNat)-((i64.wrap ((i64.wrap (aC+aA))-aA)).toNat)) (List.drop ((i64.wrap ((i64.wrap (aC+aA))-aA)).toNat) cE)),()))) else none) else none) else none):=by kernel_rfl
def qac_sp:GSpec TT:=spZ gp0
def wd0:zh4 133 qac_sp:=okZ (za0 (q7 gy1 (j8 132)) v7) func133
def wx9:Ctx TT:=ctZ [] 2 []
def gu3:=zh0 wx9 [] f134 nl0 qd3 jo0 ym3
def qbz:Option (((Unit×Int×Bool×Unit)×List Int×Unit)×(Bool×Unit)):=gu3 n ((cA,aB,dC,()),())
def wj3:qbz n cA aB dC=j9 (!dC) (some ((((),aB,dC,()),cA,()),(aB==(cA.length:Int),()))) (some ((((),aB,dC,()),cA,()),(false,()))):=by kernel_rfl
def qbz_sp:GSpec TT:=spZ gu3
def wj4:zh4 134 qbz_sp:=okZ v7 func134
def wy0:Ctx TT:=ctZ [(131,qby_sp.toCall (k9 TT)),(132,qh_sp.toCall (k9 TT)),(133,qac_sp.toCall (k9 TT)),(134,qbz_sp.toCall (k9 TT)),(88,qo_sp.toCall)] 0 []
def gu4:=zn0 wy0 [] f92 ⟨[],[(0,.user 3)]⟩ yq9 kx1
def qca:tZ3:=gu4 n cA
def wj5:qca n cA=q9 (qby BIG cA) fun y1=>q9 (qh BIG y1.2.1.1 y1.2.1.2.1 y1.2.1.2.2.1) fun y2=>q9 (qac BIG y2.1.2.1 y2.1.1.2.1 y2.1.1.2.2.1) fun y3=>q9 (qac BIG y3.1.2.1 y3.1.1.2.1 y3.1.1.2.2.1) fun y4=>q9 (qac BIG y4.1.2.1 y4.1.1.2.1 y4.1.1.2.2.1) fun y5=>q9 (qbz BIG y5.1.2.1 y5.1.1.2.1 y5.1.1.2.2.1) fun y6=>j9 (!y6.2.1) (some ((⟨(0:Int),([]:List Int),([]:List Int),([]:List Int)⟩:Bundle),4)) (q9 (qo BIG (⟨y2.2.1,y3.2.1,y4.2.1,y5.2.1⟩:Bundle)) fun y7=>j9 (y7 != 0) (some ((⟨(0:Int),([]:List Int),([]:List Int),([]:List Int)⟩:Bundle),4)) (some ((⟨y2.2.1,y3.2.1,y4.2.1,y5.2.1⟩:Bundle),0))):=by kernel_rfl
def qca_sp:FnSpec TT:=spY gu4
def wj6:zn7 92 qca_sp:=okY (za0 (q7 wj2 (j8 131)) (za0 (q7 gy1 (j8 132)) (za0 (q7 wd0 (j8 133)) (za0 (q7 wj4 (j8 134)) (za0 (q8 vz7) v7))))) func92
def wy1:Ctx TT:=ctZ [(92,qca_sp.toCall)] 0 []
def gu5:=zn0 wy1 [] f55 ⟨[],[]⟩ [yh9,yh8] zn9
def qcb:tZ1:=gu5 n (aA,cC)
def wj7:qcb n aA cC=q9 (qca BIG cC) fun y1=>j9 (y1.2==0) (some (y1.1.Version==aA)) (some false):=by kernel_rfl
def qcb_sp:FnSpec TT:=spY gu5
def wj8:zn7 55 qcb_sp:=okY (za0 (q8 wj6) v7) func55
def uk7:Ctx TT:=ctZ [] 0 []
def vj8:List (Pos×Cut):= [(zc0 26,⟨[1,2,5],[],false,[],0,false⟩)]
def uk8:=zn0 uk7 vj8 f18 ⟨[],[]⟩ [.val (.user 2),yh9] [jq5]
def qt:tZ2:=uk8 n (rA,aB)
noncomputable abbrev up0:=yx3 uk7 vj8 f18 ⟨[],[]⟩ [.val (.user 2),yh9] [jq5]
def ka4:tZ2:=up0 n 26 ⟨[(1,ci aA),(2,.ptr 0 0),(5,ci aB)],[.blk 31 [.cell ⟨.list (.user 1),hM⟩,ci aN,ci aO,ci aP,.cell ⟨.list (.int .i64),cQ⟩,cb dS]]⟩
def ud8:qt n rA aB=ka4 n aB 0 rA.Held rA.Active rA.Before rA.Rollout rA.Yes rA.No:=by kernel_rfl
def qq7:ka4 (n+1) aA aB hM aN aO aP cQ dS=j9 (decide (aB<(hM.length:Int))) (if 0<=aB/\aB<(hM.length:Int) then (j9 (((hM.getD aB.toNat zt3).Version)==aA) (some aB) (ka4 n aA (i64.wrap (aB+1)) hM aN aO aP cQ dS)) else none) (some (-1:Int)):=by kernel_rfl
def qt_sp:FnSpec TT:=spY uk8
def ky6:zn7 18 qt_sp:=okY v7 func18
def wx1:Ctx TT:=ctZ [] 0 []
def gt5:=zn0 wx1 [] f56 ⟨[],[]⟩ yq9 yi3
def qbq:tZ0:=gt5 n cA
def wh5:qbq n cA=if (0+cA.length)*1<=140737488355328 then (some (([]:List Int)++cA)) else none:=by kernel_rfl
def qbq_sp:FnSpec TT:=spY gt5
def wh6:zn7 56 qbq_sp:=okY v7 func56
def ug8:Ctx TT:=ctZ [(55,qcb_sp.toCall),(18,qt_sp.toCall),(19,ql_sp.toCall),(56,qbq_sp.toCall)] 3 [(16,1),(20,1)]
def vh7:List (Pos×Cut):= [(zc0 6,⟨[0,3,16],[],false,[],0,false⟩),(zc0 2042,⟨[0,3,6,7,8],[(6,53,.user 1)],false,[],0,false⟩),(zc0 32676,⟨[0,3,6,7,8],[],false,[],0,false⟩),(zc0 65352,⟨[0,3,6,7,8,69],[],false,[],0,false⟩),(zc0 511,⟨[0,6],[],false,[],0,false⟩)]
def ug9:=zh0 ug8 vh7 f34 nl0 qd6 kq1 zd1
def qd:kw0:=ug9 n ((aA,hM,aN,aO,aP,cQ,dS,()),mT,())
noncomputable abbrev gh8:=yx4 ug8 vh7 f34 nl0 kq1 zd1
def vy7:kw0:=gh8 n 6 ⟨[(0,.ptr 0 0),(3,.ptr 3 0),(16,cb dA)],[.blk 33 [ci aB,.own 1,ci aC,ci aD,ci aE,.own 2,cb dF],.row 53 (.user 1) hM,.row 3 (.int .i64) cN,.blk 40 [ci aO,cu8 aP,ci aQ,ci aR,cb dS,.cell ⟨.list (.int .u8),cT⟩]]⟩
def qx9:kw0:=gh8 n 2042 ⟨[(0,.ptr 0 0),(3,.ptr 3 0),(6,.own 4),(7,cb dA),(8,ci aB)],[.blk 33 [ci aC,.own 1,ci aD,ci aE,ci aF,.own 2,cb dG],.row 53 (.user 1) hM,.row 3 (.int .i64) cN,.blk 40 [ci aO,cu8 aP,ci aQ,ci aR,cb dS,.cell ⟨.list (.int .u8),cT⟩],.row 53 (.user 1) hU]⟩
def ky0:kw0:=gh8 n 65352 ⟨[(0,.ptr 0 0),(3,.ptr 3 0),(6,.own 4),(7,cb dA),(8,ci aB),(69,cb dC)],[.blk 33 [ci aD,.own 1,ci aE,ci aF,ci aG,.own 2,cb dI],.row 53 (.user 1) hM,.row 3 (.int .i64) cN,.blk 40 [ci aO,cu8 aP,ci aQ,ci aR,cb dS,.cell ⟨.list (.int .u8),cT⟩],.row 53 (.user 1) hU]⟩
def ky1:kw0:=gh8 n 511 ⟨[(0,.ptr 0 0),(6,.own 3)],[.blk 33 [ci aA,.own 1,ci aB,ci aC,ci aD,.own 2,cb dE],.row 53 (.user 1) hM,.row 3 (.int .i64) cN,.row 53 (.user 1) hU]⟩
def vy8:kw0:=gh8 n 32676 ⟨[(0,.ptr 0 0),(3,.ptr 3 0),(6,.own 4),(7,cb dA),(8,ci aB)],[.blk 33 [ci aC,.own 1,ci aD,ci aE,ci aF,.own 2,cb dG],.row 53 (.user 1) hM,.row 3 (.int .i64) cN,.blk 40 [ci aO,cu8 aP,ci aQ,ci aR,cb dS,.cell ⟨.list (.int .u8),cT⟩],.row 53 (.user 1) hU]⟩
def ua1:qd n aA hM aN aO aP cQ dS mT=j9 (decide (mT.Version<1)) (vy7 n true aA aN aO aP dS hM cQ mT.Term mT.Kind mT.Version mT.Server mT.Good mT.Data) (vy7 n (decide (mT.Version>1073741824)) aA aN aO aP dS hM cQ mT.Term mT.Kind mT.Version mT.Server mT.Good mT.Data):=by kernel_rfl
def ki9:vy7 (n+1) dA aB aC aD aE dF hM cN aO aP aQ aR dS cT=j9 dA (some (((aB,hM,aC,aD,aE,(),dF,()),(),cN,()),(2,()))) (q9 (qcb BIG aQ cT) fun y1=>j9 (!y1) (some (((aB,hM,aC,aD,aE,(),dF,()),(),cN,()),(4,()))) (q9 (qt BIG (⟨hM,aC,aD,aE,cN,dF⟩:Registry) aQ) fun y2=>j9 (decide (y2>=0)) (if 0<=y2/\y2<(hM.length:Int) then (q9 (ql BIG ((hM.getD y2.toNat zt3).Data) cT) fun y3=>j9 y3 (some (((aB,hM,aC,aD,aE,(),dF,()),(),cN,()),(0,()))) (some (((aB,hM,aC,aD,aE,(),dF,()),(),cN,()),(7,())))) else none) (qx9 n false 0 aB aC aD aE dF hM cN aO aP aQ aR dS cT ([]:List Held)))):=by kernel_rfl
def qp1:qx9 (n+1) dA aB aC aD aE aF dG hM cN aO aP aQ aR dS cT hU=j9 (decide (aB<(hM.length:Int))) (j9 (!dA) (if 0<=aB/\aB<(hM.length:Int) then (ky0 n dA aB (decide (((hM.getD aB.toNat zt3).Version)>aQ)) aC aD aE aF dG hM cN aO aP aQ aR dS cT hU) else none) (ky0 n dA aB false aC aD aE aF dG hM cN aO aP aQ aR dS cT hU)) (j9 (!dA) (q9 (qbq BIG cT) fun y1=>if (hU.length+1)*32<=140737488355328 then (ky1 n aC aD aE aF dG hM cN (hU++([(⟨aQ,y1⟩:Held)]:List Held))) else none) (ky1 n aC aD aE aF dG hM cN hU)):=by kernel_rfl
def qo9:ky0 (n+1) dA aB dC aD aE aF aG dI hM cN aO aP aQ aR dS cT hU=j9 dC (q9 (qbq BIG cT) fun y1=>if (hU.length+1)*32<=140737488355328 then (vy8 n true aB aD aE aF aG dI hM cN aO aP aQ aR dS cT (hU++([(⟨aQ,y1⟩:Held)]:List Held))) else none) (vy8 n dA aB aD aE aF aG dI hM cN aO aP aQ aR dS cT hU):=by kernel_rfl
def qp0:ky1 (n+1) aA aB aC aD dE hM cN hU=some (((aA,hU,aB,aC,aD,(),dE,()),(),cN,()),(0,())):=by kernel_rfl
def kj0:vy8 (n+1) dA aB aC aD aE aF dG hM cN aO aP aQ aR dS cT hU=if 0<=aB/\aB<(hM.length:Int) then (if (hU.length+1)*32<=140737488355328 then (qx9 n dA (i64.wrap (aB+1)) aC aD aE aF dG hM cN aO aP aQ aR dS cT (hU++([hM.getD aB.toNat zt3]:List Held))) else none) else none:=by kernel_rfl
def qd_sp:GSpec TT:=spZ ug9
def ua2:zh4 34 qd_sp:=okZ (za0 (q8 wj8) (za0 (q8 ky6) (za0 (q8 vz5) (za0 (q8 wh6) v7)))) func34
def ug6:Ctx TT:=ctZ [] 3 []
def vh6:List (Pos×Cut):= [(zc0 6,⟨[0,3,21],[],false,[],0,false⟩),(zc0 14,⟨[0,3,33],[],false,[],0,false⟩),(zc0 506,⟨[0,3,5,6],[(5,3,.int .i64)],false,[],0,false⟩),(zc0 2025,⟨[0,3,5,6],[],false,[],0,false⟩),(zc0 129610,⟨[0,3,5,6,7,8],[],false,[],0,false⟩),(zc0 518441,⟨[0,3,5,6,7,8],[],false,[],0,false⟩)]
def ug7:=zh0 ug6 vh6 f35 nl0 qd6 qd0 zd1
def qb:va1:=ug7 n ((aA,hM,aN,aO,aP,cQ,dS,()),mT,())
noncomputable abbrev kt1:=yx4 ug6 vh6 f35 nl0 qd0 zd1
def vy2:va1:=kt1 n 6 ⟨[(0,.ptr 0 0),(3,.ptr 3 0),(21,cb dA)],[.blk 33 [ci aB,.own 1,ci aC,ci aD,ci aE,.own 2,cb dF],.row 53 (.user 1) hM,.row 3 (.int .i64) cN,.blk 40 [ci aO,cu8 aP,ci aQ,ci aR,cb dS,.cell ⟨.list (.int .u8),cT⟩]]⟩
def vy3:va1:=kt1 n 14 ⟨[(0,.ptr 0 0),(3,.ptr 3 0),(33,cb dA)],[.blk 33 [ci aB,.own 1,ci aC,ci aD,ci aE,.own 2,cb dF],.row 53 (.user 1) hM,.row 3 (.int .i64) cN,.blk 40 [ci aO,cu8 aP,ci aQ,ci aR,cb dS,.cell ⟨.list (.int .u8),cT⟩]]⟩
def vy5:va1:=kt1 n 506 ⟨[(0,.ptr 0 0),(3,.ptr 3 0),(5,.own 4),(6,ci aA)],[.blk 33 [ci aB,.own 1,ci aC,ci aD,ci aE,.own 2,cb dF],.row 53 (.user 1) hM,.row 3 (.int .i64) cN,.blk 40 [ci aO,cu8 aP,ci aQ,ci aR,cb dS,.cell ⟨.list (.int .u8),cT⟩],.row 3 (.int .i64) cU]⟩
def vy6:va1:=kt1 n 129610 ⟨[(0,.ptr 0 0),(3,.ptr 3 0),(5,.own 4),(6,ci aA),(7,cb dB),(8,ci aC)],[.blk 33 [ci aD,.own 1,ci aE,ci aF,ci aG,.own 2,cb dI],.row 53 (.user 1) hM,.row 3 (.int .i64) cN,.blk 40 [ci aO,cu8 aP,ci aQ,ci aR,cb dS,.cell ⟨.list (.int .u8),cT⟩],.row 3 (.int .i64) cU]⟩
def kx9:va1:=kt1 n 518441 ⟨[(0,.ptr 0 0),(3,.ptr 3 0),(5,.own 4),(6,ci aA),(7,cb dB),(8,ci aC)],[.blk 33 [ci aD,.own 1,ci aE,ci aF,ci aG,.own 2,cb dI],.row 53 (.user 1) hM,.row 3 (.int .i64) cN,.blk 40 [ci aO,cu8 aP,ci aQ,ci aR,cb dS,.cell ⟨.list (.int .u8),cT⟩],.row 3 (.int .i64) cU]⟩
def vy4:va1:=kt1 n 2025 ⟨[(0,.ptr 0 0),(3,.ptr 3 0),(5,.own 4),(6,ci aA)],[.blk 33 [ci aB,.own 1,ci aC,ci aD,ci aE,.own 2,cb dF],.row 53 (.user 1) hM,.row 3 (.int .i64) cN,.blk 40 [ci aO,cu8 aP,ci aQ,ci aR,cb dS,.cell ⟨.list (.int .u8),cT⟩],.row 3 (.int .i64) cU]⟩
def wv7:qb n aA hM aN aO aP cQ dS mT=j9 (decide (mT.Version<1)) (vy2 n true aA aN aO aP dS hM cQ mT.Term mT.Kind mT.Version mT.Server mT.Good mT.Data) (vy2 n (mT.Version != aP) aA aN aO aP dS hM cQ mT.Term mT.Kind mT.Version mT.Server mT.Good mT.Data):=by kernel_rfl
def ki1:vy2 (n+1) dA aB aC aD aE dF hM cN aO aP aQ aR dS cT=j9 dA (some (((aB,(),aC,aD,aE,cN,dF,()),hM,(),()),(6,()))) (j9 (decide (aR<1)) (vy3 n true aB aC aD aE dF hM cN aO aP aQ aR dS cT) (vy3 n (decide (aR>aB)) aB aC aD aE dF hM cN aO aP aQ aR dS cT)):=by kernel_rfl
def ki2:vy3 (n+1) dA aB aC aD aE dF hM cN aO aP aQ aR dS cT=j9 dA (some (((aB,(),aC,aD,aE,cN,dF,()),hM,(),()),(2,()))) (j9 (!dS) (some (((aB,(),aC,aD,aE,cN,true,()),hM,(),()),(0,()))) (vy5 n 1 aB aC aD aE dF hM cN aO aP aQ aR dS cT ([]:List Int))):=by kernel_rfl
def qo5:vy5 (n+1) aA aB aC aD aE dF hM cN aO aP aQ aR dS cT cU=j9 (decide (aA<=aB)) (vy6 n aA (aA==aR) 0 aB aC aD aE dF hM cN aO aP aQ aR dS cT cU) (some (((aB,(),aC,aD,aE,cU,dF,()),hM,(),()),(0,()))):=by kernel_rfl
def qo6:vy6 (n+1) aA dB aC aD aE aF aG dI hM cN aO aP aQ aR dS cT cU=j9 (decide (aC<(cN.length:Int))) (j9 dB (kx9 n aA true aC aD aE aF aG dI hM cN aO aP aQ aR dS cT cU) (if 0<=aC/\aC<(cN.length:Int) then (kx9 n aA ((cN.getD aC.toNat 0)==aA) aC aD aE aF aG dI hM cN aO aP aQ aR dS cT cU) else none)) (j9 dB (if (cU.length+1)*8<=140737488355328 then (vy4 n aA aD aE aF aG dI hM cN aO aP aQ aR dS cT (cU++([aA]:List Int))) else none) (vy4 n aA aD aE aF aG dI hM cN aO aP aQ aR dS cT cU)):=by kernel_rfl
def qo4:kx9 (n+1) aA dB aC aD aE aF aG dI hM cN aO aP aQ aR dS cT cU=vy6 n aA dB (i64.wrap (aC+1)) aD aE aF aG dI hM cN aO aP aQ aR dS cT cU:=by kernel_rfl
def ki3:vy4 (n+1) aA aB aC aD aE dF hM cN aO aP aQ aR dS cT cU=vy5 n (i64.wrap (aA+1)) aB aC aD aE dF hM cN aO aP aQ aR dS cT cU:=by kernel_rfl
def qb_sp:GSpec TT:=spZ ug7
def wv8:zh4 35 qb_sp:=okZ v7 func35
def ww1:Ctx TT:=ctZ [] 3 []
def gs2:=zh0 ww1 [] f36 nl0 [vb4] [.blk 33 [.val (.int .i64),.own 1,.val (.int .i64),.val (.int .i64),.val (.int .i64),.nils,.val (.bool)],qb9,qu9] []
def qbc:Option (((Int×Unit×Int×Int×Int×Unit×Bool×Unit)×List Held×List Int×Unit)×(Unit)):=gs2 n ((aA,hM,aN,aO,aP,cQ,dS,()),())
def vd1:qbc n aA hM aN aO aP cQ dS=some (((aA,(),aN,aO,0,(),false,()),hM,cQ,()),()):=by kernel_rfl
def qbc_sp:GSpec TT:=spZ gs2
def kt3:zh4 36 qbc_sp:=okZ v7 func36
def gr1:Ctx TT:=ctZ [(36,qbc_sp.toCall (k9 TT))] 3 []
def qo1:List (Pos×Cut):= [(zc0 12,⟨[0,3,5],[],false,[],0,false⟩)]
def gr2:=zh0 gr1 qo1 f37 ⟨[],[],[(0,5,3,.int .i64)],[],[]⟩ qd6 qd0 zd1
def qar:va1:=gr2 n ((aA,hM,aN,aO,aP,cQ,dS,()),mT,())
noncomputable abbrev wv0:=yx4 gr1 qo1 f37 ⟨[],[],[(0,5,3,.int .i64)],[],[]⟩ qd0 zd1
def jp0:va1:=wv0 n 12 ⟨[(0,.ptr 0 0),(3,.ptr 3 0),(5,cb dA)],[.blk 33 [ci aB,.own 1,ci aC,ci aD,ci aE,.own 2,cb dF],.row 53 (.user 1) hM,.row 3 (.int .i64) cN,.blk 40 [ci aO,cu8 aP,ci aQ,ci aR,cb dS,.cell ⟨.list (.int .u8),cT⟩]]⟩
def we8:qar n aA hM aN aO aP cQ dS mT=j9 (decide (mT.Version<1)) (jp0 n true aA aN aO aP dS hM cQ mT.Term mT.Kind mT.Version mT.Server mT.Good mT.Data) (j9 (mT.Version != aP) (jp0 n (mT.Version != aN) aA aN aO aP dS hM cQ mT.Term mT.Kind mT.Version mT.Server mT.Good mT.Data) (jp0 n false aA aN aO aP dS hM cQ mT.Term mT.Kind mT.Version mT.Server mT.Good mT.Data)):=by kernel_rfl
def vs5:jp0 (n+1) dA aB aC aD aE dF hM cN aO aP aQ aR dS cT=j9 dA (some (((aB,(),aC,aD,aE,cN,dF,()),hM,(),()),(6,()))) (j9 (aQ==aE) (q9 (qbc BIG aB hM aC aD aE cN dF) fun y1=>some (((y1.1.1.1,(),y1.1.1.2.2.1,y1.1.1.2.2.2.1,y1.1.1.2.2.2.2.1,([]:List Int),y1.1.1.2.2.2.2.2.2.1,()),y1.1.2.1,(),()),(0,()))) (j9 (aE != 0) (j9 (aE==aD) (q9 (qbc BIG aB hM aD 0 aE cN dF) fun y2=>some (((y2.1.1.1,(),y2.1.1.2.2.1,y2.1.1.2.2.2.1,y2.1.1.2.2.2.2.1,([]:List Int),y2.1.1.2.2.2.2.2.2.1,()),y2.1.2.1,(),()),(0,()))) (some (((aB,(),aD,0,aE,cN,dF,()),hM,(),()),(0,())))) (some (((aB,(),aD,0,aE,cN,dF,()),hM,(),()),(0,()))))):=by kernel_rfl
def qar_sp:GSpec TT:=spZ gr2
def we9:zh4 37 qar_sp:=okZ (za0 (q7 kt3 (j8 36)) v7) func37
def ul7:Ctx TT:=ctZ [(34,qd_sp.toCall (k9 TT)),(18,qt_sp.toCall),(35,qb_sp.toCall (k9 TT)),(37,qar_sp.toCall (k9 TT)),(36,qbc_sp.toCall (k9 TT))] 3 []
def vk2:List (Pos×Cut):= [(zc0 55292,⟨[0,3,66],[],false,[],0,false⟩),(zc0 110586,⟨[0,3,84],[],false,[],0,false⟩)]
def ul8:=zh0 ul7 vk2 f10 ⟨[],[],[(0,5,3,.int .i64)],[],[]⟩ qd6 kq0 zd1
def qy:wq3:=ul8 n ((aA,hM,aN,aO,aP,cQ,dS,()),mT,())
noncomputable abbrev ul9:=yx4 ul7 vk2 f10 ⟨[],[],[(0,5,3,.int .i64)],[],[]⟩ kq0 zd1
def ka6:wq3:=ul9 n 55292 ⟨[(0,.ptr 0 0),(3,.ptr 3 0),(66,cb dA)],[.blk 33 [ci aB,.own 1,ci aC,ci aD,ci aE,.own 2,cb dF],.row 53 (.user 1) hM,.row 3 (.int .i64) cN,.blk 40 [ci aO,cu8 aP,ci aQ,ci aR,cb dS,.cell ⟨.list (.int .u8),cT⟩]]⟩
def ka7:wq3:=ul9 n 110586 ⟨[(0,.ptr 0 0),(3,.ptr 3 0),(84,cb dA)],[.blk 33 [ci aB,.own 1,ci aC,ci aD,ci aE,.own 2,cb dF],.row 53 (.user 1) hM,.row 3 (.int .i64) cN,.blk 40 [ci aO,cu8 aP,ci aQ,ci aR,cb dS,.cell ⟨.list (.int .u8),cT⟩]]⟩
def ue4:qy n aA hM aN aO aP cQ dS mT=j9 (mT.Kind==1) (some (((aA,hM,aN,aO,aP,cQ,dS,()),(),(),()),(0,()))) (j9 (mT.Kind==2) (q9 (qd BIG aA hM aN aO aP cQ dS mT) fun y1=>some (((y1.1.1.1,y1.1.1.2.1,y1.1.1.2.2.1,y1.1.1.2.2.2.1,y1.1.1.2.2.2.2.1,y1.1.2.2.1,y1.1.1.2.2.2.2.2.2.1,()),(),(),()),(y1.2.1,()))) (j9 (mT.Kind==3) (q9 (qt BIG (⟨hM,aN,aO,aP,cQ,dS⟩:Registry) mT.Version) fun y2=>j9 (decide (y2<0)) (some (((aA,hM,aN,aO,aP,cQ,dS,()),(),(),()),(6,()))) (j9 (aP != 0) (some (((aA,hM,aN,aO,aP,cQ,dS,()),(),(),()),(8,()))) (j9 (mT.Version==aN) (some (((aA,hM,aN,aO,aP,cQ,dS,()),(),(),()),(7,()))) (some (((aA,hM,aN,aO,mT.Version,cQ,dS,()),(),(),()),(0,())))))) (j9 (mT.Kind==4) (q9 (qb BIG aA hM aN aO aP cQ dS mT) fun y3=>some (((y3.1.1.1,y3.1.2.1,y3.1.1.2.2.1,y3.1.1.2.2.2.1,y3.1.1.2.2.2.2.1,y3.1.1.2.2.2.2.2.1,y3.1.1.2.2.2.2.2.2.1,()),(),(),()),(y3.2.1,()))) (j9 (mT.Kind==5) (j9 (decide (mT.Version<1)) (ka6 n true aA aN aO aP dS hM cQ mT.Term mT.Kind mT.Version mT.Server mT.Good mT.Data) (ka6 n (mT.Version != aP) aA aN aO aP dS hM cQ mT.Term mT.Kind mT.Version mT.Server mT.Good mT.Data)) (j9 (mT.Kind==6) (q9 (qar BIG aA hM aN aO aP cQ dS mT) fun y4=>some (((y4.1.1.1,y4.1.2.1,y4.1.1.2.2.1,y4.1.1.2.2.2.1,y4.1.1.2.2.2.2.1,y4.1.1.2.2.2.2.2.1,y4.1.1.2.2.2.2.2.2.1,()),(),(),()),(y4.2.1,()))) (some (((aA,hM,aN,aO,aP,cQ,dS,()),(),(),()),(2,())))))))):=by kernel_rfl
def kk8:ka6 (n+1) dA aB aC aD aE dF hM cN aO aP aQ aR dS cT=j9 dA (some (((aB,hM,aC,aD,aE,cN,dF,()),(),(),()),(6,()))) (j9 dF (ka7 n true aB aC aD aE dF hM cN aO aP aQ aR dS cT) (ka7 n ((cN.length:Int) != aB) aB aC aD aE dF hM cN aO aP aQ aR dS cT)):=by kernel_rfl
def kk9:ka7 (n+1) dA aB aC aD aE dF hM cN aO aP aQ aR dS cT=j9 dA (some (((aB,hM,aC,aD,aE,cN,dF,()),(),(),()),(8,()))) (q9 (qbc BIG aB hM aQ aC aE cN dF) fun y1=>some (((y1.1.1.1,y1.1.2.1,y1.1.1.2.2.1,y1.1.1.2.2.2.1,y1.1.1.2.2.2.2.1,([]:List Int),y1.1.1.2.2.2.2.2.2.1,()),(),(),()),(0,()))):=by kernel_rfl
def qy_sp:GSpec TT:=spZ ul8
def ue5:zh4 10 qy_sp:=okZ (za0 (q7 ua2 (j8 34)) (za0 (q8 ky6) (za0 (q7 wv8 (j8 35)) (za0 (q7 we9 (j8 37)) (za0 (q7 kt3 (j8 36)) v7))))) func10
def gp9:Ctx TT:=ctZ [(90,qag_sp.toCall)] 1 []
def qn6:List (Pos×Cut):= [(zc0 14,⟨[2,3],[],false,[],0,false⟩)]
def gq0:=zh0 gp9 qn6 f57 nl0 kx2 [zq6] []
def qak:wq4:=gq0 n ((cA,fB,fC),())
noncomputable abbrev wu3:=yx4 gp9 qn6 f57 nl0 [zq6] []
def qe8:wq4:=wu3 n 14 ⟨[(2,.sl 0 1 fA fB),(3,ci aC)],[.row 5 (.int .u8) cD]⟩
def wd8:qak n cA fB fC=if 0<=(0:Int)/\0<=i64.wrap ((fC:Int)+12)/\(i64.wrap ((fC:Int)+12)<=(fC:Int)\/((fB:Int)+i64.wrap ((fC:Int)+12)<=(cA.length:Int)/\(fB=0\/0<fC))) then (qe8 n (fB+0) (((i64.wrap ((fC:Int)+12)).toNat)-0) 0 cA) else none:=by kernel_rfl
def jv6:qe8 (n+1) fA fB aC cD=j9 (decide (aC<(fB:Int))) (q9 (qag BIG 2 aC) fun y1=>if 0<=aC/\aC<(fB:Int) then (if fA+aC.toNat<cD.length then (qe8 n fA fB (i64.wrap (aC+1)) (cD.set (fA+aC.toNat) y1)) else none) else none) (some ((cD,()),())):=by kernel_rfl
def qak_sp:GSpec TT:=spZ gq0
def wd9:zh4 57 qak_sp:=okZ (za0 (q8 qe6) v7) func57
def wy8:Ctx TT:=ctZ [(57,qak_sp.toCall (k9 TT))] 1 []
def gv2:=zh0 wy8 [] f38 nl0 [qc0] [zq6] []
def qck:wq4:=gv2 n ((aA,aB,aC,aD,dE,(cF,fG,fJ),()),())
def wl5:qck n aA aB aC aD dE cF fG fJ=q9 (qak BIG cF fG fJ) fun y1=>some ((y1.1.1,()),()):=by kernel_rfl
def qck_sp:GSpec TT:=spZ gv2
def wl6:zh4 38 qck_sp:=okZ (za0 (q7 wd9 (j8 57)) v7) func38
def ua0:Ctx TT:=⟨(go0 [22] qt3),[(38,qck_sp.toCall (k9 TT)),(25,qcl_sp.toCall)],2,[],yv9,(fun _=>none),qm6⟩
def ki8:List (Pos×Cut):= [(zc0 10,⟨[0,2],[],true,[],0,false⟩),(zc0 30,⟨[3,4],[],true,[],0,false⟩)]
def gw4:=zh0 ua0 ki8 f11 nl0 [vb5] [.blk 40 (.val (.int .i64):: .val (.int .u8):: .val (.int .i64):: .val (.int .i64):: .val (.bool):: .val (.list (.int .u8))::jd5),zq6] []
def qcz:Option (((Int×Int×Int×Int×Bool×List Int×yc7)×List Int×Unit)×(Unit)):=gw4 n bA
def qcz_sp:GSpec TT:=spZ gw4
def wm9:zh4 11 qcz_sp:=okZ (za0 (q7 wl6 (j8 38)) (za0 (q8 vd4) v7)) func11
def gq1:Ctx TT:=ctZ [] 3 []
def qn7:List (Pos×Cut):= [(zc0 6,⟨[0,2,30],[],false,[(3,5,5,.int .u8)],0,false⟩)]
def gq2:=zh0 gq1 qn7 f13 nl0 [vb4] kq2 qd5
def qal:un4:=gq2 n ((aA,hM,aN,aO,aP,cQ,dS,()),())
noncomputable abbrev wu4:=yx4 gq1 qn7 f13 nl0 kq2 qd5
def jo8:un4:=wu4 n 6 ⟨[(0,.ptr 0 0),(2,.ptr 3 0),(30,cb dA)],[.blk 33 [ci aB,.own 1,ci aC,ci aD,ci aE,.own 2,cb dF],.row 53 (.user 1) hM,.row 3 (.int .i64) cN,.blk 40 [ci aO,cu8 aP,ci aQ,ci aR,cb dS,.own 4],.row 5 (.int .u8) cT]⟩
def we0:qal n aA hM aN aO aP cQ dS=j9 (aP==0) (jo8 n true aA aN aO aP dS hM cQ 0 0 0 0 false ([]:List Int)) (j9 (!dS) (jo8 n ((cQ.length:Int) != aA) aA aN aO aP dS hM cQ 0 0 0 0 false ([]:List Int)) (jo8 n false aA aN aO aP dS hM cQ 0 0 0 0 false ([]:List Int))):=by kernel_rfl
def vr8:jo8 (n+1) dA aB aC aD aE dF hM cN aO aP aQ aR dS cT=j9 dA (some (((aB,(),aC,aD,aE,(),dF,()),hM,cN,()),((0,0,0,0,false,(),()),false,()))) (j9 dF (some (((aB,(),aC,aD,aE,(),dF,()),hM,cN,()),((0,6,aE,0,false,(),()),true,()))) (some (((aB,(),aC,aD,aE,(),dF,()),hM,cN,()),((0,5,aE,0,false,(),()),true,())))):=by kernel_rfl
def qal_sp:GSpec TT:=spZ gq2
def we1:zh4 13 qal_sp:=okZ v7 func13
def gp3:Ctx TT:=⟨qt3,[(58,qba_sp.toCall)],2,[(6,1)],yv9,gb5,qm6⟩
def qn5:List (Pos×Cut):= [(zc0 58,⟨[0,1,5],[],false,[],1,false⟩)]
def gp4:=zh0 gp3 qn5 f39 ⟨[],[],[(0,0,4000000001,.bool)],[],[]⟩ [.dr 53 1 [0,5],.row 53 (.user 1)] [.dr 53 1 [0,5],qb9] ym3
def qaf:un5:=gp4 n (hM,hU,())
noncomputable abbrev wt8:=yx4 gp3 qn5 f39 ⟨[],[],[(0,0,4000000001,.bool)],[],[]⟩ [.dr 53 1 [0,5],qb9] ym3
def yu0:un5:=wt8 n 58 ⟨[(0,.own 0),(1,.own 1),(5,ci aA)],[.drow 53 1 [0,5] hM none,.row 53 (.user 1) hU]⟩
def wd5:qaf n hM hU=j9 ((hM.length:Int) != (hU.length:Int)) (some ((hM,hU,()),(false,()))) (yu0 n 0 hM hU):=by kernel_rfl
def jv5:yu0 (n+1) aA hM hU=j9 (decide (aA<(hM.length:Int))) (if 0<=aA/\aA<(hM.length:Int) then (if aA.toNat<hM.length then (if 0<=aA/\aA<(hU.length:Int) then (q9 (qba BIG (hM.getD aA.toNat zt3) (hU.getD aA.toNat zt3)) fun y1=>j9 (!y1) (some ((hM.set aA.toNat (hM.getD aA.toNat zt3),hU,()),(false,()))) (yu0 n (i64.wrap (aA+1)) (hM.set aA.toNat (hM.getD aA.toNat zt3)) hU)) else none) else none) else none) (some ((hM,hU,()),(true,()))):=by kernel_rfl
def qaf_sp:GSpec TT:=spZ gp4
def wd6:zh4 39 qaf_sp:=okZ (za0 (q8 vc9) v7) func39
def wx7:Ctx TT:=⟨qt3,[(39,qaf_sp.toCall (k9 TT)),(40,qw_sp.toCall)],4,[],yv9,gb5,qm6⟩
def gu1:=zh0 wx7 [] f14 ⟨[],[],[(0,0,4000000001,.bool)],[],[]⟩ [vb3,.agg [.row 53 (.user 1),.val (.int .i64),.val (.int .i64),.val (.int .i64),.row 3 (.int .i64),.val (.bool)]] [.dr 53 1 [0,5],qu9,qb9,qu9] ym3
def qbx (n:Nat) (x0:List Held) (x1 x2 x3:Int) (x4:List Int) (x5:Bool) (x6:List Held) (x7 x8 x9:Int) (x10:List Int) (x11:Bool):Option ((List Held×List Int×List Held×List Int×Unit)×(Bool×Unit)):=gu1 n ((x0,x1,x2,x3,x4,x5,()),(x6,x7,x8,x9,x10,x11,()),())
def wi9 (n:Nat) (x0 x1 x2 x3 x4 x5 x6 x7 x8 x9 x10 x11):qbx n x0 x1 x2 x3 x4 x5 x6 x7 x8 x9 x10 x11=q9 (qaf BIG x0 x6) fun y1=>j9 y1.2.1 (j9 (x1==x7) (j9 (x2==x8) (j9 (x3==x9) (q9 (qw BIG x4 x10) fun y2=>j9 y2 (some ((y1.1.1,x4,y1.1.2.1,x10,()),(x5==x11,()))) (some ((y1.1.1,x4,y1.1.2.1,x10,()),(false,())))) (some ((y1.1.1,x4,y1.1.2.1,x10,()),(false,())))) (some ((y1.1.1,x4,y1.1.2.1,x10,()),(false,())))) (some ((y1.1.1,x4,y1.1.2.1,x10,()),(false,())))) (some ((y1.1.1,x4,y1.1.2.1,x10,()),(false,()))):=by kernel_rfl
def qbx_sp:GSpec TT:=spZ gu1
def wj0:zh4 14 qbx_sp:=okZ (za0 (q7 wd6 (j8 39)) (za0 (q8 gy4) v7)) func14
def wy3:Ctx TT:=ctZ [(26,qah_sp.toCall (k9 TT)),(44,qaj_sp.toCall)] 3 []
def gu7:=zh0 wy3 [] f17 ⟨[(0,5,.int .u8,true)],[],[],[],[]⟩ [yi0,yq2] zj0 [yv1,qv0]
def qcd:Option (((Int×Unit×Int×Int×Int×Unit×Bool×Unit)×(List (Int×List Int))×(List (Int×Bool))×Unit)×(List Int×Bool×Unit)):=gu7 n ((aA,iB,aC,aD,aE,lF,dG,()),aH,())
def wk1:qcd n aA iB aC aD aE lF dG aH=q9 (qah BIG aA iB aC aD aE lF dG) fun y1=>j9 (!y1.2.1) (some (((y1.1.1.1,(),y1.1.1.2.2.1,y1.1.1.2.2.2.1,y1.1.1.2.2.2.2.1,(),y1.1.1.2.2.2.2.2.2.1,()),y1.1.2.1,y1.1.2.2.1,()),(([]:List Int),false,()))) (q9 (qaj BIG (jb8 TT (.list (.int .u8)) y1.1.2.1 aH)) fun y2=>some (((y1.1.1.1,(),y1.1.1.2.2.1,y1.1.1.2.2.2.1,y1.1.1.2.2.2.2.1,(),y1.1.1.2.2.2.2.2.2.1,()),y1.1.2.1,y1.1.2.2.1,()),(y2,zq2 y1.1.2.1 aH,()))):=by kernel_rfl
def qcd_sp:GSpec TT:=spZ gu7
def wk2:zh4 17 qcd_sp:=okZ (za0 (q7 jd7 (j8 26)) (za0 (q8 jo7) v7)) func17
def uh0:Ctx TT:=⟨(go0 [55,56] qt3),[(4,qx_sp.toCall),(5,qs_sp.toCall),(6,(CallSpec.forkS [.val (.int .i64)] (fun x=>zz3 x.1) (qbs_sp.toCall (k9 TT)) (qbg_sp.toCall (k9 TT)))),(7,qcy_sp.toCall (k9 TT)),(8,qcc_sp.toCall (qdc_sp.toCall (qdb_sp.toCall (k9 TT)))),(9,qcx_sp.toCall (k9 TT)),(10,qy_sp.toCall (k9 TT)),(11,qcz_sp.toCall (k9 TT)),(12,qam_sp.toCall (k9 TT)),(13,qal_sp.toCall (k9 TT)),(15,qk_sp.toCall (k9 TT)),(14,qbx_sp.toCall (k9 TT)),(16,qbb_sp.toCall),(20,apR_sp.toCall (k9 TT)),(17,qcd_sp.toCall (k9 TT)),(18,qt_sp.toCall),(19,ql_sp.toCall)],0,[(19,1)],yv9,(asT [55,56] (fun _=>none)),qm6⟩
def vi4:List (Pos×Cut):= [(zc0 1018,⟨[1,2,7,8,9],[],false,[(0,1,53,.user 1),(0,5,3,.int .i64),(1,1,53,.user 1),(1,5,3,.int .i64)],0,false⟩),(zc0 8342014,⟨[1,2,7,8,9,16],[],false,[],0,false⟩),(zc0 266944457,⟨[1,2,7,8,9,16,17],[],false,[],0,false⟩)]
def uh1:=zn0 uh0 vi4 f3 ⟨[],[]⟩ kq4 zn9
def qe:tZ1:=uh1 n (aA,oB,aC)
noncomputable abbrev gx7:=yx3 uh0 vi4 f3 ⟨[],[]⟩ kq4 zn9
def ub2:tZ1:=gx7 n 1018 ⟨[(1,.cell ⟨.list (.user 0),o8⟩),(2,ci aA),(7,.raw (.pointer none)),(8,.ptr 0 0),(9,ci aB)],[.blk 33 [ci aC,.own 1,ci aD,ci aE,ci aF,.own 2,cb dG],.row 53 (.user 1) hM,.row 3 (.int .i64) cN]⟩
def yu1:tZ1:=gx7 n 1018 ⟨[(1,.cell ⟨.list (.user 0),o8⟩),(2,ci aA),(7,.ptr 0 0),(8,.ptr 1 0),(9,ci aB)],[.blk 64 [ci aC,.mp 2,ci aD,ci aE,ci aF,.mp 3,cb dG],.blk 33 [ci aH,.own 4,ci aI,ci aJ,ci aK,.own 5,cb dL],.tmap .i64 (.list (.int .u8)) iM,.tmap .i64 (.bool) lN,.row 53 (.user 1) hU,.row 3 (.int .i64) cV]⟩
def jc6:tZ1:=gx7 n 8342014 ⟨[(1,.cell ⟨.list (.user 0),o8⟩),(2,ci aA),(7,.ptr 0 0),(8,.ptr 1 0),(9,ci aB),(16,ci aC)],[.blk 64 [ci aD,.mp 2,ci aE,ci aF,ci aG,.mp 3,cb dI],.blk 33 [ci aJ,.own 4,ci aK,ci aL,ci aM,.own 5,cb dN],.tmap .i64 (.list (.int .u8)) iO,.tmap .i64 (.bool) lP,.row 53 (.user 1) hU,.row 3 (.int .i64) cV]⟩
def vy9:tZ1:=gx7 n 266944457 ⟨[(1,.cell ⟨.list (.user 0),o8⟩),(2,ci aA),(7,.ptr 0 0),(8,.ptr 1 0),(9,ci aB),(16,ci aC),(17,ci aD)],[.blk 64 [ci aE,.mp 2,ci aF,ci aG,ci aH,.mp 3,cb dI],.blk 33 [ci aJ,.own 4,ci aK,ci aL,ci aM,.own 5,cb dN],.tmap .i64 (.list (.int .u8)) iO,.tmap .i64 (.bool) lP,.row 53 (.user 1) hU,.row 3 (.int .i64) cV]⟩
def ub3:qe n aA oB aC=q9 (qx BIG) fun y1=>j9 (!y1) (some false) (q9 (qs BIG oB) fun y2=>j9 (!y2) (some true) (j9 (match qaa BIG aA 7 with|some y1=>(!y1)|none=>false) (q9 (qbs BIG aA) fun y3=>j9 (decide (aA<1)) (some true) (j9 (decide (aA>7)) (some true) (ub2 n oB aC 0 aA 0 0 0 false ([]:List Held) ([]:List Int)))) (q9 (qbg BIG aA) fun y4=>j9 (decide (aA<1)) (some false) (j9 (decide (aA>7)) (some false) (yu1 n oB aC 0 y4.2.1.1 y4.2.1.2.2.1 y4.2.1.2.2.2.1 y4.2.1.2.2.2.2.1 y4.2.1.2.2.2.2.2.2.1 aA 0 0 0 false y4.2.1.2.1 y4.2.1.2.2.2.2.2.1 ([]:List Held) ([]:List Int)))))):=by kernel_rfl
def jv7:yu1 (n+1) o8 aA aB aC aD aE aF dG aH aI aJ aK dL iM lN hU cV=j9 (decide (aB<(o8.length:Int))) (if 0<=aB/\aB<=i64.wrap (aB+1)/\i64.wrap (aB+1)<=(o8.length:Int) then (q9 (zm9 (List.take (((i64.wrap (aB+1)).toNat)-aB.toNat) (List.drop aB.toNat o8))) fun y1=>q9 (qcc BIG aC iM aD aE aF lN dG y1.2.1.1 y1.2.1.2.1 y1.2.1.2.2.1 y1.2.1.2.2.2.1 y1.2.1.2.2.2.2.1 y1.2.1.2.2.2.2.2.1.1 y1.2.1.2.2.2.2.2.1.2.1 y1.2.1.2.2.2.2.2.1.2.2) fun y2=>if 0<=aB/\aB<=i64.wrap (aB+1)/\i64.wrap (aB+1)<=(o8.length:Int) then (q9 (zm8 (y1.2.1.1,y1.2.1.2.1,y1.2.1.2.2.1,y1.2.1.2.2.2.1,y1.2.1.2.2.2.2.1,(y2.1.2.2.2.1,y1.2.1.2.2.2.2.2.1.2),y1.2.1.2.2.2.2.2.2) (List.take (((i64.wrap (aB+1)).toNat)-aB.toNat) (List.drop aB.toNat o8))) fun y3=>j9 (!y3.2.1) (some false) (if 0<=aB/\aB<(o8.length:Int) then (q9 (qy BIG aH hU aI aJ aK cV dL (o8.getD aB.toNat jd0)) fun y4=>j9 (y2.2.1 != y4.2.1) (some false) (q9 (qcz BIG ((y3.1.1.1,y3.1.1.2.1,y3.1.1.2.2.1,y3.1.1.2.2.2.1,y3.1.1.2.2.2.2.1,(y3.1.2.1,y3.1.1.2.2.2.2.2.1),y3.1.1.2.2.2.2.2.2),())) fun y5=>q9 (qam BIG y2.1.1.1 y2.1.2.1 y2.1.1.2.2.1 y2.1.1.2.2.2.1 y2.1.1.2.2.2.2.1 y2.1.2.2.1 y2.1.1.2.2.2.2.2.2.1) fun y6=>q9 (qal BIG y4.1.1.1 y4.1.1.2.1 y4.1.1.2.2.1 y4.1.1.2.2.2.1 y4.1.1.2.2.2.2.1 y4.1.1.2.2.2.2.2.1 y4.1.1.2.2.2.2.2.2.1) fun y7=>q9 (qk BIG y6.1.1.1 y6.1.2.1 y6.1.1.2.2.1 y6.1.1.2.2.2.1 y6.1.1.2.2.2.2.1 y6.1.2.2.1 y6.1.1.2.2.2.2.2.2.1) fun y8=>q9 (qbx BIG y8.2.1.1 y8.2.1.2.1 y8.2.1.2.2.1 y8.2.1.2.2.2.1 y8.2.1.2.2.2.2.1 y8.2.1.2.2.2.2.2.1 y7.1.2.1 y7.1.1.2.2.1 y7.1.1.2.2.2.1 y7.1.1.2.2.2.2.1 y7.1.2.2.1 y7.1.1.2.2.2.2.2.2.1) fun y9=>j9 (!y9.2.1) (some false) (j9 (!(y6.2.2.1==y7.2.2.1)) (some false) (q9 (qbb BIG (⟨y6.2.1.1,y6.2.1.2.1,y6.2.1.2.2.1,y6.2.1.2.2.2.1,y6.2.1.2.2.2.2.1,([]:List Int)⟩:Entry) (⟨y7.2.1.1,y7.2.1.2.1,y7.2.1.2.2.1,y7.2.1.2.2.2.1,y7.2.1.2.2.2.2.1,([]:List Int)⟩:Entry)) fun y10=>j9 (!y10) (some false) (jc6 n o8 aA aB 0 y8.1.1.1 y8.1.1.2.2.1 y8.1.1.2.2.2.1 y8.1.1.2.2.2.2.1 y8.1.1.2.2.2.2.2.2.1 y7.1.1.1 y7.1.1.2.2.1 y7.1.1.2.2.2.1 y7.1.1.2.2.2.2.1 y7.1.1.2.2.2.2.2.2.1 y8.1.2.1 y8.1.2.2.1 y9.1.2.2.1 y9.1.2.2.2.1))))) else none)) else none) else none) (q9 (qk BIG aC iM aD aE aF lN dG) fun y11=>q9 (qk BIG y11.1.1.1 y11.1.2.1 y11.1.1.2.2.1 y11.1.1.2.2.2.1 y11.1.1.2.2.2.2.1 y11.1.2.2.1 y11.1.1.2.2.2.2.2.2.1) fun y12=>q9 (kz8 y11.2.1.1 y11.2.1.2.1 y11.2.1.2.2.1 y11.2.1.2.2.2.1 y11.2.1.2.2.2.2.1 y11.2.1.2.2.2.2.2.1 y12.2.1.1 y12.2.1.2.1 y12.2.1.2.2.1 y12.2.1.2.2.2.1 y12.2.1.2.2.2.2.1 y12.2.1.2.2.2.2.2.1) fun y13=>some y13.2.1):=by kernel_rfl
def jm2:jc6 (n+1) o8 aA aB aC aD aE aF aG dI aJ aK aL aM dN iO lP hU cV=j9 (decide (aC<2)) (j9 (aC==1) (if 0<=aB/\aB<(o8.length:Int) then (vy9 n o8 aA aB aC ((o8.getD aB.toNat jd0).Version) aD aE aF aG dI aJ aK aL aM dN iO lP hU cV) else none) (vy9 n o8 aA aB aC aA aD aE aF aG dI aJ aK aL aM dN iO lP hU cV)) (yu1 n o8 aA (i64.wrap (aB+1)) aD aE aF aG dI aJ aK aL aM dN iO lP hU cV):=by kernel_rfl
def kj6:vy9 (n+1) o8 aA aB aC aD aE aF aG aH dI aJ aK aL aM dN iO lP hU cV=q9 (qcd BIG aE iO aF aG aH lP dI aD) fun y1=>q9 (qt BIG (⟨hU,aK,aL,aM,cV,dN⟩:Registry) aD) fun y2=>j9 (!(y1.2.2.1==(decide (y2>=0)))) (some false) (j9 y1.2.2.1 (if 0<=y2/\y2<(hU.length:Int) then (q9 (ql BIG y1.2.1 ((hU.getD y2.toNat zt3).Data)) fun y3=>j9 (!y3) (some false) (j9 (!y1.2.2.1) (j9 ((y1.2.1.length:Int) != 0) (some false) (jc6 n o8 aA aB (i64.wrap (aC+1)) y1.1.1.1 y1.1.1.2.2.1 y1.1.1.2.2.2.1 y1.1.1.2.2.2.2.1 y1.1.1.2.2.2.2.2.2.1 aJ aK aL aM dN y1.1.2.1 y1.1.2.2.1 hU cV)) (jc6 n o8 aA aB (i64.wrap (aC+1)) y1.1.1.1 y1.1.1.2.2.1 y1.1.1.2.2.2.1 y1.1.1.2.2.2.2.1 y1.1.1.2.2.2.2.2.2.1 aJ aK aL aM dN y1.1.2.1 y1.1.2.2.1 hU cV))) else none) (j9 (!y1.2.2.1) (j9 ((y1.2.1.length:Int) != 0) (some false) (jc6 n o8 aA aB (i64.wrap (aC+1)) y1.1.1.1 y1.1.1.2.2.1 y1.1.1.2.2.2.1 y1.1.1.2.2.2.2.1 y1.1.1.2.2.2.2.2.2.1 aJ aK aL aM dN y1.1.2.1 y1.1.2.2.1 hU cV)) (jc6 n o8 aA aB (i64.wrap (aC+1)) y1.1.1.1 y1.1.1.2.2.1 y1.1.1.2.2.2.1 y1.1.1.2.2.2.2.1 y1.1.1.2.2.2.2.2.2.1 aJ aK aL aM dN y1.1.2.1 y1.1.2.2.1 hU cV))):=by kernel_rfl
def ub4:FnSpec TT:=spY uh1
def qe_ok:zn7 3 ub4:=okY (za0 (q8 ue3) (za0 (q8 ud7) (za0 (ys6 _ _ (q7 ku2 (j8 6)) (q7 kt6 (j8 6))) (za0 (q7 wm8 (j8 7)) (za0 (q7 wk0 (q7 ku4 (q7 ku3 (j8 8)))) (za0 (q7 wm7 (j8 9)) (za0 (q7 ue5 (j8 10)) (za0 (q7 wm9 (j8 11)) (za0 (q7 ks4 (j8 12)) (za0 (q7 we1 (j8 13)) (za0 (q7 gy2 (j8 15)) (za0 (q7 wj0 (j8 14)) (za0 (q8 vd0) (za0 (q7 wa7 (j8 20)) (za0 (q7 wk2 (j8 17)) (za0 (q8 ky6) (za0 (q8 vz5) v7))))))))))))))))) func3
end
end Go.X
