import Derived.Test.YtcepemagnfpmdaaGreatTb
set_option linter.defProp false
namespace Go.X
open Go.RowKit Go.V Go.Proofs
def qx9 (a b:Bool):Bool:=match a,b with|true,true=>true|false,false=>true|_,_=>false
def jn0 {a b:Bool} (h:qx9 a b=true):a=b:=by cases a<;>cases b<;>first|rfl|cases h
def qv0 {α:Type} (p:α->α->Bool):List α->List α->Bool
 | [],[]=>true
 |x::r,y::s=>p x y&&qv0 p r s
 |_,_=>false
def jh5 {α:Type} {p:α->α->Bool} (hp: ∀x y,p x y=true->x=y): ∀ {l m:List α},qv0 p l m=true->l=m
 | [],[],_=>rfl
 |x::r,y::s,h=>by
  rw [qv0,X3] at h;rw [hp x y h.1,jh5 hp h.2]
 | [],_::_,h=>by cases h
 |_::_,[],h=>by cases h
def jm5 (a b:List Int):Bool:=qv0 yy2 a b
def yb2 {a b:List Int} (h:jm5 a b=true):a=b:=jh5 (fun _ _ h=>zr5 h) h
def gv8 (a b:Ins):Bool:=yy2 a.Op b.Op&&(qx9 a.Narrow b.Narrow&&(yy2 a.Dst b.Dst&&(yy2 a.Src b.Src&&(qx9 a.UseImm b.UseImm&&(yy2 a.Off b.Off&&(yy2 a.Imm b.Imm&&yy2 a.Size b.Size))))))
def kg9 {a b:Ins} (h:gv8 a b=true):a=b:=by
 obtain ⟨a1,a2,a3,a4,a5,a6,a7,a8⟩:=a;obtain ⟨b1,b2,b3,b4,b5,b6,b7,b8⟩:=b;simp only [gv8,X3] at h;obtain ⟨h1,h2,h3,h4,h5,h6,h7,h8⟩:=h;rw [zr5 h1,jn0 h2,zr5 h3,zr5 h4,jn0 h5,zr5 h6,zr5 h7,zr5 h8]
def zh1 (a b:List Ins):Bool:=qv0 gv8 a b
def zb9 {a b:List Ins} (h:zh1 a b=true):a=b:=jh5 (fun _ _ h=>kg9 h) h
def yi9 {P:Program} {f:FuncId} {ps:List PT} {rs:List RT} {g g':zo7 TT ps->Option (zw7 TT (zb5 ps) (zp8 TT rs))} (h:zd9 TT P f ⟨ps,rs,g⟩) (hm: ∀x y,g' x=some y->g x=some y):zd9 TT P f ⟨ps,rs,g'⟩:=fun x y hy=>h x y (hm x y hy)
def zw3 {P:Program} {f:FuncId} {ps:List Sh} {post:List PE} {rs:List Sh} {g g':zd8 TT ps->Option (zm3 TT post×zd8 TT rs)} (h:GOk TT P f ⟨ps,post,rs,g⟩) (hm: ∀x y,g' x=some y->g x=some y):GOk TT P f ⟨ps,post,rs,g'⟩:=fun x y hy=>h x y (hm x y hy)
abbrev zd4:List Ins:= [⟨12,false,0,0,true,0,7,0⟩,⟨28,false,0,0,false,0,0,0⟩]
abbrev exI:List Ins:= [⟨28,false,0,0,false,0,0,0⟩]
abbrev ja9:List Ins:= [⟨12,false,0,2,false,0,0,0⟩,⟨28,false,0,0,false,0,0,0⟩]
def zj2 (m n:Int):Nat->List Ins
 |0=> []
 |k+1=>⟨0,false,0,0,false,m+n,0,0⟩::zj2 m (n+1) k
def zu3:List Int:= [190,92,250,152,55,213,115,17,175,78,236,138]
end Go.X
