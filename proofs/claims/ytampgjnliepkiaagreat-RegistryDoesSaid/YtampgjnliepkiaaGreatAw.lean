import Derived.Test.YtampgjnliepkiaaGreatAv
set_option linter.defProp false
namespace Go.X
open Go.RowKit Go.V Go.Proofs
abbrev RV:=(Option Addr×Nat)×RegV
def rvV (p:RV):Value:=.slice p.1.1 1 p.1.2
def rvH (p:RV):RowA:=⟨p.2.had,p.2.ds.length,p.2.hcap⟩
def rvD (p:RV):List RowA:=p.2.ds.map Prod.snd
def jr7 (C:Nat->List Value) (p:RV):Nat->List Value:=zx0 (zk2 C 17 (rvV p)) [p.2]
def zi9 (C:Nat->List Value) (V:List RV):Nat->List Value:=V.foldl jr7 C
def qg7 (C:Nat->List Value) {V:List RV} {k:Nat} {p:RV} (h:V[k]?=some p):zi9 C (V.take (k+1))=jr7 (zi9 C (V.take k)) p:=by
 unfold zi9;rw [List.take_add_one,h,List.foldl_append];rfl
def wa2 (C:Nat->List Value) (p:RV):jr7 C p 17=C 17++ [rvV p]:=by
 show zk2 (yx1 5 (zk2 (zk2 C 17 (rvV p)) 16 (rvH p).val) p.2.ds) 2 p.2.y.val 17=_;rw [ze6 _ _ (by decide),yn4 5 (by decide),ze6 _ _ (by decide),zs3]
def wa0 (C:Nat->List Value) (p:RV):jr7 C p 16=C 16++ [(rvH p).val]:=by
 show zk2 (yx1 5 (zk2 (zk2 C 17 (rvV p)) 16 (rvH p).val) p.2.ds) 2 p.2.y.val 16=_;rw [ze6 _ _ (by decide),yn4 5 (by decide),zs3,ze6 _ _ (by decide)]
def wa3 (C:Nat->List Value) (p:RV):jr7 C p 5=C 5++(rvD p).map RowA.val:=by
 show zk2 (yx1 5 (zk2 (zk2 C 17 (rvV p)) 16 (rvH p).val) p.2.ds) 2 p.2.y.val 5=_;rw [ze6 _ _ (by decide),yy4,ze6 _ _ (by decide),ze6 _ _ (by decide)];unfold rvD;rw [List.map_map];rfl
def wa1 (C:Nat->List Value) (p:RV):jr7 C p 2=C 2++ [p.2.y.val]:=by
 show zk2 (yx1 5 (zk2 (zk2 C 17 (rvV p)) 16 (rvH p).val) p.2.ds) 2 p.2.y.val 2=_;rw [zs3,yn4 5 (by decide),ze6 _ _ (by decide),ze6 _ _ (by decide)]
def wa4 (C:Nat->List Value) (p:RV) {j:Nat} (h1:j≠2) (h2:j≠5) (h3:j≠16) (h4:j≠17):jr7 C p j=C j:=by
 show zk2 (yx1 5 (zk2 (zk2 C 17 (rvV p)) 16 (rvH p).val) p.2.ds) 2 p.2.y.val j=_;rw [ze6 _ _ h1,yn4 5 h2,ze6 _ _ h3,ze6 _ _ h4]
def jj8: ∀(V:List RV) (C:Nat->List Value),zi9 C V 17=C 17++V.map rvV
 | [],C=>by simp [zi9]
 |p::r,C=>by show zi9 (jr7 C p) r 17=_;rw [jj8 r,wa2];simp
def jj6: ∀(V:List RV) (C:Nat->List Value),zi9 C V 16=C 16++(V.map rvH).map RowA.val
 | [],C=>by simp [zi9]
 |p::r,C=>by show zi9 (jr7 C p) r 16=_;rw [jj6 r,wa0];simp
def jj9: ∀(V:List RV) (C:Nat->List Value),zi9 C V 5=C 5++(V.flatMap rvD).map RowA.val
 | [],C=>by simp [zi9]
 |p::r,C=>by show zi9 (jr7 C p) r 5=_;rw [jj9 r,wa3];simp
def jj7: ∀(V:List RV) (C:Nat->List Value),zi9 C V 2=C 2++(V.map fun p=>p.2.y).map RowA.val
 | [],C=>by simp [zi9]
 |p::r,C=>by show zi9 (jr7 C p) r 2=_;rw [jj7 r,wa1];simp
def qj7 {j:Nat} (h1:j≠2) (h2:j≠5) (h3:j≠16) (h4:j≠17): ∀(V:List RV) (C:Nat->List Value),zi9 C V j=C j
 | [],C=>rfl
 |p::r,C=>by show zi9 (jr7 C p) r j=_;rw [qj7 h1 h2 h3 h4 r,wa4 C p h1 h2 h3 h4]
def ys5 {V:List RV} {k:Nat} {p:RV} (h:V[k]?=some p):((V.take k).flatMap rvD).length+p.2.ds.length<=(V.flatMap rvD).length:=by
 have e:V=V.take k++(p::V.drop (k+1)):=by
  have hk:=(X2.1 h);obtain ⟨hk,rfl⟩:=hk;rw [List.getElem_cons_drop,Q8]
 conv=>rhs;rw [e]
 rw [J0,V2,X9,X9];have:(rvD p).length=p.2.ds.length:=by simp [rvD]
 omega
def vm7 {w:World} {V:List RV} {lad:Option Addr} {lcap:Nat} (hl0:Rg w lad (V.map rvV)) (hcap:V.length<=lcap) {mI:Mk} (fI:je7 Tryz.prog 66 3 mI) (rI:RowsA w 3 mI (fun _ _=>False) (V.map fun p=>p.2.y)) {mY:Mk} (fY:je7 Tryz.prog 69 5 mY) (rY:RowsA w 5 mY (fun _ _=>False) (V.flatMap rvD)) {mH:Mk} (fH:je7 Tryz.prog 80 53 mH) (rH:RowsA w 53 mH (fun _ _=>False) (V.map rvH)) {mR:Mk} (fR:je7 Tryz.prog 81 31 mR) (rR:RowsA w 31 mR (fun _ _=>False) (V.map fun p=>(⟨p.1.1,1,p.1.2⟩:RowA))) (dY: ∀b∈rb (V.flatMap rvD),b∉rb (V.map fun p=>p.2.y)) (dH: ∀b∈rb (V.map rvH),b∉rb (V.map fun p=>p.2.y)++rb (V.flatMap rvD)) (dR: ∀b∈rb (V.map fun p=>(⟨p.1.1,1,p.1.2⟩:RowA)),b∉rb (V.map fun p=>p.2.y)++rb (V.flatMap rvD)++rb (V.map rvH)) (hb:V.length<=1048576) (hbY:(V.flatMap rvD).length<=1048576) (nI: ∀p∈V,p.2.y.len<=1073741824) (nY: ∀r∈(V.flatMap rvD),r.len<=1073741824) (hc: ∀p∈V,Rg w p.1.1 p.2.cells) (hd: ∀p∈V,Rg w p.2.had (yw4 p.2.ds)):Calls Tryz.prog 20 #[.slice lad V.length lcap] w (Ret (rb (V.map fun p=>p.2.y)++rb (V.flatMap rvD)++rb (V.map rvH)++rb (V.map fun p=>(⟨p.1.1,1,p.1.2⟩:RowA))) w fun v _=>v=.bool true):=by
 have key:CW Tryz.prog (zm4 Tryz.f20) (bodyPost Tryz.prog Tryz.f20 (Ret (rb (V.map fun p=>p.2.y)++rb (V.flatMap rvD)++rb (V.map rvH)++rb (V.map fun p=>(⟨p.1.1,1,p.1.2⟩:RowA))) w fun v _=>v=.bool true)) 21 [] [(0,.slice lad V.length lcap)] w:=by
  refine CW.seq fun K1 hK1=>CW.region (WR.batch 1 [(0,.slice lad V.length lcap)] (by kernel_rfl) (WR.fin (by kernel_rfl) fun a ha=>go hK1 ?_ a ha));refine CW.seq fun K2 hK2=>CW.region (WR.batch 1 [(0,.slice lad V.length lcap),(5,.agg (zw0 fun _=>.slice none 0 0))] (by kernel_rfl) ?_);refine WR.box (dst:=some 6) (e:=100) (v:=.agg (zw0 fun _=>.slice none 0 0)) (by kernel_rfl) (zw0 fun _=>.slice none 0 0) (by kernel_rfl) fun g w1 hn=>?_;refine WR.batch 1 [(0,.slice lad V.length lcap),(3,.pointer (some ⟨g,0,none⟩))] (by kernel_rfl) (WR.fin (by kernel_rfl) fun a ha=>go hK2 ?_ a ha);have hB0:ya8 (fun b=>b<w.heap.size) w g (fun _=> []) w1:=⟨_,BagX.start hn⟩;refine CW.seq fun K3 hK3=>CW.seq fun K4 hK4=>CW.region (WR.batch 1 [(0,.slice lad V.length lcap),(3,.pointer (some ⟨g,0,none⟩)),(4,.int .i64 0)] (by kernel_rfl) (WR.fin (by kernel_rfl) fun a ha=>go hK4 ?_ a ha));refine CW.count (c:=10) V.length (fun i (_:Unit) w'=>ya8 (fun b=>b<w.heap.size) w g (zi9 (fun _=> []) (V.take i)) w') (fun i _=> [(0,.slice lad V.length lcap),(3,.pointer (some ⟨g,0,none⟩)),(4,xi i)]) (fun i _=> [(0,.slice lad V.length lcap),(3,.pointer (some ⟨g,0,none⟩)),(4,xi i)]) () hB0 [0,3,4] (by kernel_rfl) [0,3,4] (fun _ _ _=>by kernel_rfl) ?_ ?_ ?_ ?_
  ·intro i _ w2 Q hi _ hq;exact CW.region (WR.batch 4 [(10,xl i V.length),(0,.slice lad V.length lcap),(3,.pointer (some ⟨g,0,none⟩)),(4,xi i)] (by kernel_rfl) (WR.fin (by kernel_rfl) hq))
  ·rintro k _ w2 Q hk hB2 hq
   obtain ⟨e,he⟩: ∃e,V[k]?=some e:=⟨_,Y0 hk⟩;have hem:=X6 he;have hget:(V.map rvV)[k]?=some (rvV e):=by rw [W2,he];rfl
   have hlr:=hl0.chgZ hB2.chg fun hne=>hl0.lt hne;have hft:=ys5 he;have hlen:(zi9 (fun _=> []) (V.take k) 17).length<=1048576:=by rw [jj8];simp only [U6,W9,Y6];omega
   refine CW.block (CW.region (WR.batch 3 [(13,.pointer (some ⟨g,0,none⟩)),(14,.slice lad V.length lcap),(15,xi k),(0,.slice lad V.length lcap),(3,.pointer (some ⟨g,0,none⟩)),(4,xi k)] (by kernel_rfl) ?_));refine WR.index (dst:=some 16) (t:=56) (ad:=lad) (m:=V.length) (cap:=lcap) (kk:=.i64) (i:=((k:Nat):Int)) hlr (by kernel_rfl) 1 (by kernel_rfl) (by omega) (by have:=hk;omega) (fun e0=>by rw [e0] at hget;cases hget) (k) (by simp) ?_;refine WR.load1 (dst:=some 17) (t:=55) (a:=⟨bk lad,of lad+k,none⟩) (by kernel_rfl) (by kernel_rfl) (rvV e) (hlr _ _ hget).2 ?_;have hf: ∀k2 p2,[e.2][k2]?=some p2->RegF (fun b=>b<w.heap.size) w (zx0 (zk2 (zi9 (fun _=> []) (V.take k)) 17 (rvV e)) ([e.2].take k2)) p2:=by
    intro k2 p2 h2
    match k2,h2 with
    |0,h2=>
     have e2:e.2=p2:=by simpa using h2
     subst e2;show RegF _ w (zk2 (zi9 (fun _=> []) (V.take k)) 17 (rvV e)) e.2;refine ⟨?_,?_,?_,hd e hem,fun hne=>(hd e hem).lt hne⟩
     ·rw [ze6 _ _ (by decide),jj6];simp only [U6,W9,Y6];omega
     ·rw [ze6 _ _ (by decide),jj9];simp only [U6,W9];omega
     ·rw [ze6 _ _ (by decide),jj7];simp only [U6,W9,Y6];omega
    |k2+1,h2=>simp at h2
   refine WR.callB (dst:=some 18) (f:=45) (args:= #[.pointer (some ⟨g,0,none⟩),rvV e]) (by kernel_rfl) (uo6 [e.2] e.1.1 e.1.2 hB2 hlen (by simp) hf (by rw [V2,List.flatMap_nil,J7];exact hc e hem) (fun _=>(hc e hem).lt (fun e0=>by cases e0))) fun v w3 hB3=>?_;refine WR.sub [(0,.slice lad V.length lcap),(3,.pointer (some ⟨g,0,none⟩)),(4,xi k)] (by kernel_rfl) (WR.fin (by kernel_rfl) fun a ha=>hq () w3 a ?_ ha);rw [qg7 _ he];exact hB3
  ·intro i _ w2 Q hi hq;refine CW.region (WR.batch 3 [(0,.slice lad V.length lcap),(3,.pointer (some ⟨g,0,none⟩)),(4,.int .i64 (IntKind.i64.wrap (((i:Nat):Int)+1)))] (by kernel_rfl) ?_);refine WR.eqF (F':= [(0,.slice lad V.length lcap),(3,.pointer (some ⟨g,0,none⟩)),(4,xi (i+1))]) (by rw [zo4 i (by omega)]) ?_;exact WR.fin (by kernel_rfl) hq
  ·rintro _ w2 a hB2 ha
   rw [Q4 (W6 _)] at hB2;refine go hK3 ?_ a ha;obtain ⟨X,hX⟩:=hB2;have hW:Chg [] w w2:=hX.chg.all;refine CW.seq fun K5 hK5=>CW.region (WR.batch 1 [(19,.pointer (some ⟨g,0,none⟩))] (by kernel_rfl) ?_);refine WR.call (dst:=some 20) (f:=46) (args:= #[.pointer (some ⟨g,0,none⟩)]) (by kernel_rfl) (kd6 hX fI (by rw [jj7];simp only [U6]) (rI.chg hW (by simp)) (by rw [W9];exact hb) (fun j r hj=>by rw [W2] at hj;obtain ⟨p,hp,rfl⟩:=T4.1 hj;exact nI p (X6 hp)) fY (by rw [jj9];simp only [U6]) (rY.chg hW (by simp)) (hbY) (fun j r hj=>nY r (X6 hj)) fH (by rw [jj6];simp only [U6]) (rH.chg hW (by simp)) (by rw [W9];exact hb) (fun j r hj=>by rw [W2] at hj;obtain ⟨p,hp,rfl⟩:=T4.1 hj;have:=ys5 hp;show p.2.ds.length<=_;omega) fR (by rw [jj8];simp only [U6,List.map_map];rfl) (rR.chg hW (by simp)) (by rw [W9];exact hb) (fun j r hj=>by rw [W2] at hj;obtain ⟨p,hp,rfl⟩:=T4.1 hj;show 1<=_;omega) dY dH dR (fun j h1 h2 h3 h4=>qj7 h1 h2 h3 h4 _ _) (fun b hb=>?_)) ?_
   ·show b<w.heap.size;rcases X4.1 hb with hb|hb
    rotate_left
    ·exact rR.lt hb
    rcases X4.1 hb with hb|hb
    rotate_left
    ·exact rH.lt hb
    rcases X4.1 hb with hb|hb
    rotate_left
    ·exact rY.lt hb
    exact rI.lt hb
   ·rintro v w3 hw3 rfl
    refine WR.batch 1 [(2,.bool true)] (by kernel_rfl) (WR.fin (by kernel_rfl) fun a ha=>go hK5 ?_ a ha);exact CW.ret (gj8 (.bool true) (by kernel_rfl) ⟨(hW.weak (by simp)).step hw3 fun t ht=>.inl ht,rfl⟩)
 exact zd0 Tryz.func20 (show Tryz.f20.body=some (zm4 Tryz.f20) by kernel_rfl) Tryz.ntmps20 (by kernel_rfl) [0] (by kernel_rfl) key
end Go.X
