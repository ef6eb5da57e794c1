import Derived.Test.YthhhfnfgmijggaaGreatTb
import Derived.Test.YthhhfnfgmijggaaGreatAB
set_option linter.defProp false
namespace Go.Y
open Go.RowKit Go.V Go.X Go.Proofs
abbrev j5:=Go.X.Span
instance:Inhabited j5:=⟨⟨0,0⟩⟩
structure Twork where
 a:j5
 b:j5
 narrow:Bool
 most:Int
 size:Int
def zq0 (a:Int):j5:=(⟨a,a⟩:j5)
def zh1 (a:Bool):j5:=(if a then (⟨(0:Int),(4294967295:Int)⟩:j5) else (⟨(0:Int),(18446744073709551615:Int)⟩:j5))
def q9 (a:j5):Bool:=decide (a.Lo<=a.Hi)
def yi0 (a:j5) (b:Int):Bool:=((decide (a.Lo<=b))&&(decide (b<=a.Hi)))
def ym5 (a:j5) (b:j5):Bool:=((decide (b.Lo<=a.Lo))&&(decide (a.Hi<=b.Hi)))
def zf9 (a:j5) (b:j5):j5:=(⟨(zo3 a.Lo b.Lo),(zi1 a.Hi b.Hi)⟩:j5)
def zy8 (a:j5) (b:j5):(j5×Bool):=(za6 (q9 (⟨(zi1 a.Lo b.Lo),(zo3 a.Hi b.Hi)⟩:j5)) fun c=>(if (!c) then ((⟨(0:Int),(0:Int)⟩:j5),false) else ((⟨(zi1 a.Lo b.Lo),(zo3 a.Hi b.Hi)⟩:j5),true)))
def za3 (a:Bool):Option Unit:=(if (!a) then none else some ())
def qf (a:j5) (c:Bool):j5:=(if (!c) then a else (if ((zb1 .u64 a.Lo (32:Int)) != (zb1 .u64 a.Hi (32:Int))) then (za6 (zh1 true) fun b=>b) else (⟨(w9 .u64 a.Lo (4294967295:Int)),(w9 .u64 a.Hi (4294967295:Int))⟩:j5)))
def qs (b:j5):Bool:=(za6 (zq0 b.Lo) fun a=>((b.Lo==a.Lo)&&(b.Hi==a.Hi)))
def qaq (a:Bool) (b:j5) (c:j5):Twork:=(if a then (⟨(qf b a),(qf c a),a,(4294967295:Int),(32:Int)⟩:Twork) else (⟨(qf b a),(qf c a),a,(18446744073709551615:Int),(64:Int)⟩:Twork))
def qac (d:Twork):Bool:=(za6 (qs d.a) fun c=>(c&&(qs d.b)))
def qca (a:Twork) (b:Int) (c:Int):j5:=(⟨(w9 .u64 b a.most),(w9 .u64 c a.most)⟩:j5)
def qw (a:Twork) (b:Int):Bool:=((w9 .u64 (zb1 .u64 b (IntKind.u64.wrap (a.size-(1:Int)))) (1:Int))==(1:Int))
def qav (c:Twork) (d:j5):Bool:=(za6 (qw c d.Lo) fun a=>(za6 (qw c d.Hi) fun b=>(a != b)))
def ky9 (a:Int) (c1:Int):Int:=(IntKind.u32.wrap (a+c1))
def kz0 (a:Int) (c1:Int):Int:=(IntKind.u32.wrap (a-c1))
def kz1 (a:Int) (c1:Int):Int:=(IntKind.u32.wrap (a*c1))
def kz2 (a:Int) (c1:Int):Int:=(IntKind.u32.wrap ((a).tdiv c1))
def kz3 (a:Int) (c1:Int):Int:=((a).tmod c1)
def kz4 (a:Int) (c1:Int):Int:=(w9 .u32 a c1)
def kz5 (a:Int) (c1:Int):Int:=(bOr .u32 a c1)
def kz6 (a:Int) (c1:Int):Int:=(jb3 .u32 a c1)
def kz7 (a:Int) (c1:Int) (c2:Int):Int:=(yd6 .u32 a ((c1).tmod c2))
def kg9 (a:Int) (c1:Int) (c2:Int):Int:=(zb1 .u32 a ((c1).tmod c2))
def yq8 (a:Int) (c1:Int) (c2:Int):Int:=(IntKind.u32.wrap (zb1 .i32 (IntKind.i32.wrap a) ((c1).tmod c2)))
def kh0 (a:Int):Int:=a
def kh1 (a:Int):Int:=(IntKind.u32.wrap (0-a))
def yx5 (a:Int) (q:Int) (c:Int) (b:Int):(Int×Int):=(if (((a==(4:Int))||(a==(5:Int)))&&(b==(0:Int))) then ((0:Int),(113:Int)) else (if (a==(1:Int)) then (za6 (ky9 c b) fun d=>(d,(0:Int))) else (if (a==(2:Int)) then (za6 (kz0 c b) fun e=>(e,(0:Int))) else (if (a==(3:Int)) then (za6 (kz1 c b) fun f=>(f,(0:Int))) else (if (a==(4:Int)) then (za6 (kz2 c b) fun g=>(g,(0:Int))) else (if (a==(5:Int)) then (za6 (kz3 c b) fun h=>(h,(0:Int))) else (if (a==(6:Int)) then (za6 (kz4 c b) fun i=>(i,(0:Int))) else (if (a==(7:Int)) then (za6 (kz5 c b) fun j=>(j,(0:Int))) else (if (a==(8:Int)) then (za6 (kz6 c b) fun k=>(k,(0:Int))) else (if (a==(9:Int)) then (za6 (kz7 c b q) fun l=>(l,(0:Int))) else (if (a==(10:Int)) then (za6 (kg9 c b q) fun m=>(m,(0:Int))) else (if (a==(11:Int)) then (za6 (yq8 c b q) fun n=>(n,(0:Int))) else (if (a==(12:Int)) then (za6 (kh0 b) fun o=>(o,(0:Int))) else (if (a==(13:Int)) then (za6 (kh1 c) fun p=>(p,(0:Int))) else ((0:Int),(2:Int))))))))))))))))
def kz8 (a:Int) (c1:Int):Int:=(IntKind.u64.wrap (a+c1))
def kz9 (a:Int) (c1:Int):Int:=(IntKind.u64.wrap (a-c1))
def ga0 (a:Int) (c1:Int):Int:=(IntKind.u64.wrap (a*c1))
def ga1 (a:Int) (c1:Int):Int:=(IntKind.u64.wrap ((a).tdiv c1))
def ga2 (a:Int) (c1:Int):Int:=((a).tmod c1)
def ga3 (a:Int) (c1:Int):Int:=(w9 .u64 a c1)
def ga4 (a:Int) (c1:Int):Int:=(bOr .u64 a c1)
def ga5 (a:Int) (c1:Int):Int:=(jb3 .u64 a c1)
def ga6 (a:Int) (c1:Int) (c2:Int):Int:=(yd6 .u64 a ((c1).tmod c2))
def kh2 (a:Int) (c1:Int) (c2:Int):Int:=(zb1 .u64 a ((c1).tmod c2))
def kh3 (a:Int) (c1:Int) (c2:Int):Int:=(IntKind.u64.wrap (zb1 .i64 (IntKind.i64.wrap a) ((c1).tmod c2)))
def kh4 (a:Int):Int:=a
def kh5 (a:Int):Int:=(IntKind.u64.wrap (0-a))
def jy3 (a:Int) (q:Int) (c:Int) (b:Int):(Int×Int):=(if (((a==(4:Int))||(a==(5:Int)))&&(b==(0:Int))) then ((0:Int),(113:Int)) else (if (a==(1:Int)) then (za6 (kz8 c b) fun d=>(d,(0:Int))) else (if (a==(2:Int)) then (za6 (kz9 c b) fun e=>(e,(0:Int))) else (if (a==(3:Int)) then (za6 (ga0 c b) fun f=>(f,(0:Int))) else (if (a==(4:Int)) then (za6 (ga1 c b) fun g=>(g,(0:Int))) else (if (a==(5:Int)) then (za6 (ga2 c b) fun h=>(h,(0:Int))) else (if (a==(6:Int)) then (za6 (ga3 c b) fun i=>(i,(0:Int))) else (if (a==(7:Int)) then (za6 (ga4 c b) fun j=>(j,(0:Int))) else (if (a==(8:Int)) then (za6 (ga5 c b) fun k=>(k,(0:Int))) else (if (a==(9:Int)) then (za6 (ga6 c b q) fun l=>(l,(0:Int))) else (if (a==(10:Int)) then (za6 (kh2 c b q) fun m=>(m,(0:Int))) else (if (a==(11:Int)) then (za6 (kh3 c b q) fun n=>(n,(0:Int))) else (if (a==(12:Int)) then (za6 (kh4 b) fun o=>(o,(0:Int))) else (if (a==(13:Int)) then (za6 (kh5 c) fun p=>(p,(0:Int))) else ((0:Int),(2:Int))))))))))))))))
def za4 (b:Int) (f:Bool) (c:Int) (d:Int):(Int×Int):=(if f then (za6 (yx5 b (32:Int) (IntKind.u32.wrap c) (IntKind.u32.wrap d)) fun e=>((e.1),e.2)) else (za6 (jy3 b (64:Int) c d) fun a=>(a.1,a.2)))
def jj2 (b:j5) (d:j5) (c:Bool) (a:Int):j5:=(if (b.Hi==d.Lo) then (⟨a,(IntKind.u64.wrap (b.Hi-(1:Int)))⟩:j5) else (⟨a,b.Hi⟩:j5))
def qq (a:j5) (c:j5):j5:=(za6 (qs a) fun b=>(if (b||(!(qs c))) then a else (if (a.Lo==c.Lo) then (jj2 a c b (IntKind.u64.wrap (a.Lo+(1:Int)))) else (jj2 a c b a.Lo))))
def qcq (c:Twork):Twork:=(⟨c.b,c.a,c.narrow,c.most,c.size⟩:Twork)
def zs3 (c:Twork):Option j5:=(zk5 (za3 ((decide (c.b.Hi<=(IntKind.u64.wrap (c.most-c.a.Hi))))||(decide (c.b.Lo>(IntKind.u64.wrap (c.most-c.a.Lo)))))) (none) fun _=>(za6 (qca c (IntKind.u64.wrap (c.a.Lo+c.b.Lo)) (IntKind.u64.wrap (c.a.Hi+c.b.Hi))) fun d=>some d))
def zs7 (c:Twork):Option j5:=(zk5 (za3 ((decide (c.a.Lo>=c.b.Hi))||(decide (c.a.Hi<c.b.Lo)))) (none) fun _=>(za6 (qca c (IntKind.u64.wrap (c.a.Lo-c.b.Hi)) (IntKind.u64.wrap (c.a.Hi-c.b.Lo))) fun d=>some d))
def qct (c:Twork):j5:=(⟨(IntKind.u64.wrap ((c.a.Lo).tdiv (zi1 c.b.Hi (1:Int)))),(IntKind.u64.wrap ((c.a.Hi).tdiv (zi1 c.b.Lo (1:Int))))⟩:j5)
def qcu (c:Twork):j5:=(if decide (c.a.Hi<(zi1 c.b.Lo (1:Int))) then c.a else (⟨(0:Int),(zo3 c.a.Hi (IntKind.u64.wrap ((zi1 c.b.Hi (1:Int))-(1:Int))))⟩:j5))
def qcj (c:Twork):j5:=(za6 (qac c) fun d=>(if d then (za6 (zq0 (w9 .u64 c.a.Lo c.b.Lo)) fun e=>e) else (⟨(0:Int),(zo3 c.a.Hi c.b.Hi)⟩:j5)))
def qcv (a:Twork):j5:=a.b
def zk2 (b:Twork):Option j5:=(if (b.a.Hi==(0:Int)) then some b.a else (zk5 (za3 (decide (b.a.Lo>(0:Int)))) (none) fun _=>(za6 (qca b (IntKind.u64.wrap (0-b.a.Hi)) (IntKind.u64.wrap (0-b.a.Lo))) fun c=>some c)))
def zs6 (c:Twork):Option j5:=(za6 (qs c.b) fun d=>(zk5 (za3 (d&&(decide (c.a.Hi<=(zb1 .u64 c.most ((c.b.Lo).tmod c.size)))))) (none) fun _=>some (⟨(yd6 .u64 c.a.Lo ((c.b.Lo).tmod c.size)),(yd6 .u64 c.a.Hi ((c.b.Lo).tmod c.size))⟩:j5)))
def jl2 (d:Twork) (b:Int) (c:Int):j5:=(⟨(zb1 .u64 d.a.Lo b),(zb1 .u64 d.a.Hi c)⟩:j5)
def qax (c:Twork):j5:=(za6 (qs c.b) fun d=>(if d then (jl2 c ((c.b.Hi).tmod c.size) ((c.b.Lo).tmod c.size)) else (if decide (c.b.Hi>=c.size) then (⟨(0:Int),c.a.Hi⟩:j5) else (jl2 c c.b.Hi c.b.Lo))))
def zs5 (c:Twork):Option j5:=(za6 (qs c.b) fun d=>(zk5 (za3 (d&&(!(qav c c.a)))) (none) fun _=>(za6 (za4 (11:Int) c.narrow c.a.Lo c.b.Lo) fun e=>(za6 (za4 (11:Int) c.narrow c.a.Hi c.b.Lo) fun f=>some (⟨e.1,f.1⟩:j5)))))
def yd7 (c:Twork) (e:Bool):Option (j5×j5):=(if (!e) then (za6 (qac c) fun d=>(zk5 (za3 ((!d)||(!((w9 .u64 c.a.Lo c.b.Lo) != (0:Int))))) (none) fun _=>some (c.a,c.b))) else (zk5 (za3 (((decide (c.a.Hi>(0:Int)))&&(decide (c.b.Hi>(0:Int))))&&((!(qac c))||((w9 .u64 c.a.Lo c.b.Lo) != (0:Int))))) (none) fun _=>some ((⟨(zi1 c.a.Lo (1:Int)),c.a.Hi⟩:j5),(⟨(zi1 c.b.Lo (1:Int)),c.b.Hi⟩:j5))))
def tab0:List Int:= [0,1,2,2,3,3,3,3,4,4,4,4,4,4,4,4,5,5,5,5,5,5,5,5,5,5,5,5,5,5,5,5,6,6,6,6,6,6,6,6,6,6,6,6,6,6,6,6,6,6,6,6,6,6,6,6,6,6,6,6,6,6,6,6,7,7,7,7,7,7,7,7,7,7,7,7,7,7,7,7,7,7,7,7,7,7,7,7,7,7,7,7,7,7,7,7,7,7,7,7,7,7,7,7,7,7,7,7,7,7,7,7,7,7,7,7,7,7,7,7,7,7,7,7,7,7,7,7,8,8,8,8,8,8,8,8,8,8,8,8,8,8,8,8,8,8,8,8,8,8,8,8,8,8,8,8,8,8,8,8,8,8,8,8,8,8,8,8,8,8,8,8,8,8,8,8,8,8,8,8,8,8,8,8,8,8,8,8,8,8,8,8,8,8,8,8,8,8,8,8,8,8,8,8,8,8,8,8,8,8,8,8,8,8,8,8,8,8,8,8,8,8,8,8,8,8,8,8,8,8,8,8,8,8,8,8,8,8,8,8,8,8,8,8,8,8,8,8,8,8,8,8,8,8,8,8]
def jn3 (a:Int):Int:=(if decide (a>=(4294967296:Int)) then (if decide ((zb1 .u64 a (32:Int))>=(65536:Int)) then (if decide ((zb1 .u64 (zb1 .u64 a (32:Int)) (16:Int))>=(256:Int)) then ((56:Int)+((tab0.getD (IntKind.u8.wrap (zb1 .u64 (zb1 .u64 (zb1 .u64 a (32:Int)) (16:Int)) (8:Int))).toNat 0))) else ((48:Int)+((tab0.getD (IntKind.u8.wrap (zb1 .u64 (zb1 .u64 a (32:Int)) (16:Int))).toNat 0)))) else (if decide ((zb1 .u64 a (32:Int))>=(256:Int)) then ((40:Int)+((tab0.getD (IntKind.u8.wrap (zb1 .u64 (zb1 .u64 a (32:Int)) (8:Int))).toNat 0))) else ((32:Int)+((tab0.getD (IntKind.u8.wrap (zb1 .u64 a (32:Int))).toNat 0))))) else (if decide (a>=(65536:Int)) then (if decide ((zb1 .u64 a (16:Int))>=(256:Int)) then ((24:Int)+((tab0.getD (IntKind.u8.wrap (zb1 .u64 (zb1 .u64 a (16:Int)) (8:Int))).toNat 0))) else ((16:Int)+((tab0.getD (IntKind.u8.wrap (zb1 .u64 a (16:Int))).toNat 0)))) else (if decide (a>=(256:Int)) then ((8:Int)+((tab0.getD (IntKind.u8.wrap (zb1 .u64 a (8:Int))).toNat 0))) else ((0:Int)+((tab0.getD (IntKind.u8.wrap a).toNat 0))))))
def yf0 (a:Int) (b:Int):(Int×Int):=((IntKind.u64.wrap ((IntKind.u64.wrap ((IntKind.u64.wrap ((zb1 .u64 a (32:Int))*(zb1 .u64 b (32:Int))))+(zb1 .u64 (IntKind.u64.wrap ((IntKind.u64.wrap ((zb1 .u64 a (32:Int))*(w9 .u64 b (4294967295:Int))))+(zb1 .u64 (IntKind.u64.wrap ((w9 .u64 a (4294967295:Int))*(w9 .u64 b (4294967295:Int)))) (32:Int)))) (32:Int))))+(zb1 .u64 (IntKind.u64.wrap ((w9 .u64 (IntKind.u64.wrap ((IntKind.u64.wrap ((zb1 .u64 a (32:Int))*(w9 .u64 b (4294967295:Int))))+(zb1 .u64 (IntKind.u64.wrap ((w9 .u64 a (4294967295:Int))*(w9 .u64 b (4294967295:Int)))) (32:Int)))) (4294967295:Int))+(IntKind.u64.wrap ((w9 .u64 a (4294967295:Int))*(zb1 .u64 b (32:Int)))))) (32:Int)))),(IntKind.u64.wrap (a*b)))
def qci (a:Int):Int:=(za6 (jn3 a) fun b=>(IntKind.u64.wrap ((yd6 .u64 (1:Int) b)-(1:Int))))
def qck (c:Twork):j5:=(za6 (qac c) fun d=>(if d then (za6 (zq0 (bOr .u64 c.a.Lo c.b.Lo)) fun e=>e) else (⟨(zi1 c.a.Lo c.b.Lo),(qci (bOr .u64 c.a.Hi c.b.Hi))⟩:j5)))
def qcl (c:Twork):j5:=(za6 (qac c) fun d=>(if d then (za6 (zq0 (jb3 .u64 c.a.Lo c.b.Lo)) fun e=>e) else (za6 (qci (bOr .u64 c.a.Hi c.b.Hi)) fun f=>(⟨(0:Int),f⟩:j5))))
def zs4 (d:Twork):Option j5:=(za6 (yf0 d.a.Hi d.b.Hi) fun c=>(zk5 (za3 ((c.1==(0:Int))&&(decide (c.2<=d.most)))) (none) fun _=>some (⟨(IntKind.u64.wrap (d.a.Lo*d.b.Lo)),c.2⟩:j5)))
def zn9 (c:Twork):Option (j5×j5):=(zk5 (za3 (decide (c.a.Hi>c.b.Lo))) (none) fun _=>some ((⟨(zi1 c.a.Lo (IntKind.u64.wrap (c.b.Lo+(1:Int)))),c.a.Hi⟩:j5),(⟨c.b.Lo,(zo3 c.b.Hi (IntKind.u64.wrap (c.a.Hi-(1:Int))))⟩:j5)))
def zo0 (c:Twork):Option (j5×j5):=(zk5 (za3 (decide (c.a.Hi>=c.b.Lo))) (none) fun _=>some ((⟨(zi1 c.a.Lo c.b.Lo),c.a.Hi⟩:j5),(⟨c.b.Lo,(zo3 c.b.Hi c.a.Hi)⟩:j5)))
def jv4 (x:Int):Bool:=(x==(1:Int))||(x==(2:Int))||(x==(3:Int))||(x==(4:Int))||(x==(5:Int))||(x==(6:Int))||(x==(7:Int))||(x==(8:Int))||(x==(9:Int))||(x==(10:Int))||(x==(11:Int))||(x==(12:Int))||(x==(13:Int))
def span_Do (b:Int) (c:Bool) (r:j5) (s:j5):j5:=(if (((!(jv4 b))||(!(q9 r)))||(!(q9 s))) then (za6 (zh1 c) fun q=>q) else (za6 (qaq c r s) fun a=>(if (b==(1:Int)) then (zk5 (zs3 a) ((zh1 c)) fun d=>d) else (if (b==(2:Int)) then (zk5 (zs7 a) ((zh1 c)) fun e=>e) else (if (b==(3:Int)) then (zk5 (zs4 a) ((zh1 c)) fun f=>f) else (if (b==(4:Int)) then (za6 (qct a) fun g=>g) else (if (b==(5:Int)) then (za6 (qcu a) fun h=>h) else (if (b==(6:Int)) then (za6 (qcj a) fun i=>i) else (if (b==(7:Int)) then (za6 (qck a) fun j=>j) else (if (b==(8:Int)) then (za6 (qcl a) fun k=>k) else (if (b==(9:Int)) then (zk5 (zs6 a) ((zh1 c)) fun l=>l) else (if (b==(10:Int)) then (za6 (qax a) fun m=>m) else (if (b==(11:Int)) then (zk5 (zs5 a) ((zh1 c)) fun n=>n) else (if (b==(12:Int)) then (za6 (qcv a) fun o=>o) else (if (b==(13:Int)) then (zk5 (zk2 a) ((zh1 c)) fun p=>p) else default)))))))))))))))
def zn6 (c:Twork) (g:Int):Option (j5×j5):=(if (g==(17:Int)) then (za6 (zy8 c.a c.b) fun f=>(zk5 (za3 f.2) (none) fun _=>some (f.1,f.1))) else (if (g==(18:Int)) then (za6 (qac c) fun h=>(zk5 (za3 ((!h)||(!((c.a.Lo==c.b.Lo)&&(c.a.Hi==c.b.Hi))))) (none) fun _=>(za6 (qq c.b c.a) fun i=>some ((qq c.a c.b),i)))) else (if (g==(19:Int)) then (zk5 (za3 (decide (c.a.Hi>c.b.Lo))) (none) fun _=>some ((⟨(zi1 c.a.Lo (IntKind.u64.wrap (c.b.Lo+(1:Int)))),c.a.Hi⟩:j5),(⟨c.b.Lo,(zo3 c.b.Hi (IntKind.u64.wrap (c.a.Hi-(1:Int))))⟩:j5))) else (if (g==(20:Int)) then (zk5 (za3 (decide (c.a.Hi>=c.b.Lo))) (none) fun _=>some ((⟨(zi1 c.a.Lo c.b.Lo),c.a.Hi⟩:j5),(⟨c.b.Lo,(zo3 c.b.Hi c.a.Hi)⟩:j5))) else (if (g==(21:Int)) then (za6 (qcq c) fun j=>(zk5 (zn9 j) (none) fun d=>some (d.2,d.1))) else (if (g==(22:Int)) then (za6 (qcq c) fun k=>(zk5 (zo0 k) (none) fun e=>some (e.2,e.1))) else some ((⟨(0:Int),(0:Int)⟩:j5),(⟨(0:Int),(0:Int)⟩:j5))))))))
def ye9 (c:Twork) (h:Int):Option (j5×j5):=(za6 (qav c c.a) fun i=>(if (i||(qav c c.b)) then some (c.a,c.b) else (za6 (qw c c.a.Lo) fun e=>(za6 (qw c c.b.Lo) fun f=>(if (e==f) then (zk5 (zn6 c (IntKind.u8.wrap ((IntKind.u8.wrap (h-(23:Int)))+(19:Int)))) (none) fun d=>some (d.1,d.2)) else (za6 (qw c c.b.Lo) fun g=>(zk5 (za3 (((h==(23:Int))||(h==(24:Int)))==g)) (none) fun _=>some (c.a,c.b))))))))
def jn0:Unit:=()
def zl9 (d:Twork) (e:Int) (f:Bool) (a:Int):Option (j5×j5):=(if decide (a>=(23:Int)) then (zk5 (ye9 d a) (none) fun c=>some (c.1,c.2)) else (zk5 (zn6 d a) (none) fun b=>some (b.1,b.2)))
def yt8 (d:Twork) (a:Int) (c:Bool):Option (j5×j5):=(if (a==(27:Int)) then (zk5 (yd7 d c) (none) fun b=>some (b.1,b.2)) else (if (!c) then (za6 (jn0) fun _=>(zl9 d a c (([(0:Int),(0:Int),(0:Int),(0:Int),(0:Int),(0:Int),(0:Int),(0:Int),(0:Int),(0:Int),(0:Int),(0:Int),(0:Int),(0:Int),(0:Int),(0:Int),(0:Int),(18:Int),(17:Int),(22:Int),(21:Int),(20:Int),(19:Int),(26:Int),(25:Int),(24:Int),(23:Int),(27:Int)]:List Int).getD a.toNat 0))) else (zl9 d a c a)))
def yv7 (f:Int) (g:Bool) (h:Bool) (i:j5) (e:j5) (c:Twork) (d:(j5×j5)) (a:Int) (b:Int):(j5×j5×Bool):=(if decide (e.Hi>c.most) then ((⟨a,b⟩:j5),e,true) else ((⟨a,b⟩:j5),d.2,true))
def zr5 (d:Int) (f:Bool) (g:Bool) (c:j5) (e:j5):(j5×j5×Bool):=(if ((((decide (d<(17:Int)))||(decide (d>(27:Int))))||(!(q9 c)))||(!(q9 e))) then (c,e,true) else (za6 (qaq f c e) fun a=>(zk5 (yt8 a d g) (((⟨(0:Int),(0:Int)⟩:j5),(⟨(0:Int),(0:Int)⟩:j5),false)) fun b=>(if decide (c.Hi>a.most) then (yv7 d f g c e a b c.Lo c.Hi) else (yv7 d f g c e a b b.1.Lo b.1.Hi)))))
def vg0 (n:Int):Int:=if n=0 then 0 else ((2^(Nat.log2 n.toNat+1):Nat):Int)-1
end Go.Y
namespace Go.Y
open Go.RowKit Go.V Go.X Go.Proofs
def gh0 {x} (h:q8 x):(BitVec.ofInt IntKind.u64.bits x).toNat=x.toNat:=by
 rw [BitVec.toNat_ofInt];simp only [IntKind.bits];omega
def zx8 {x y} (a:q8 x) (b:q8 y):w9 .u64 x y=((x.toNat&&&y.toNat:Nat):Int):=by
 unfold w9;rw [BitVec.toNat_and,gh0 a,gh0 b,v7];have:x.toNat&&&y.toNat<=x.toNat:=Nat.and_le_left;omega
def wr6 {x} (h:q8 x):x.toNat<2^64:=by omega
def gw3 {x y} (a:q8 x) (b:q8 y):bOr .u64 x y=((x.toNat|||y.toNat:Nat):Int):=by
 unfold bOr;rw [BitVec.toNat_or,gh0 a,gh0 b,v7];have:=N9 (wr6 a) (wr6 b);omega
def gg7 {x y} (a:q8 x) (b:q8 y):jb3 .u64 x y=((x.toNat^^^y.toNat:Nat):Int):=by
 unfold jb3;rw [BitVec.toNat_xor,gh0 a,gh0 b,v7];have:=R6 (wr6 a) (wr6 b);omega
def zp3 {x y} (a:0<=y/\y<=64):zb1 .u64 x y=x/2^y.toNat:=by
 unfold zb1;rw [T9 _ (by exact J4 (V7 (by omega)))];congr 2;simp only [IntKind.bits];omega
def vr3 {x y} (a:0<=y/\y<=64):yd6 .u64 x y=(x*2^y.toNat)%18446744073709551616:=by
 unfold yd6;rw [v7];congr 3;simp only [IntKind.bits];omega
def zam1 (a b) (i:q8 a) (j:q8 b):(yf0 a b).1=(a*b)/18446744073709551616:=by
 unfold yf0;simp only;rw [zp3 (by omega),zp3 (by omega),zx8 i (by omega),zx8 j (by omega)];have e: ∀x:Int,q8 x->((x.toNat&&&(4294967295:Int).toNat:Nat):Int)=x%4294967296:=by
  intro x c;rw [show (4294967295:Int).toNat=2^32-1 from rfl,Nat.and_two_pow_sub_one_eq_mod];omega
 rw [e a i,e b j];have f: ∀x:Int,q8 x->zb1 .u64 x 32=x/4294967296:=fun x c=>by rw [zp3 (by omega)];rfl
 rw [show (2:Int)^(32:Int).toNat=4294967296 from rfl];generalize u:a/4294967296=a1;generalize o:a%4294967296=a0;generalize v:b/4294967296=b1;generalize p:b%4294967296=b0;have k:0<=a1/\a1<=4294967295:=by omega
 have l:0<=a0/\a0<=4294967295:=by omega
 have m:0<=b1/\b1<=4294967295:=by omega
 have n:0<=b0/\b0<=4294967295:=by omega
 have d: ∀x y:Int,(0<=x/\x<=4294967295)->(0<=y/\y<=4294967295)->0<=x*y/\x*y<=18446744065119617025:=fun x y c g=>⟨K5 c.1 g.1,Int.mul_le_mul c.2 g.2 g.1 (by omega)⟩;have q:=d a1 b1 k m;have r:=d a1 b0 k n;have s:=d a0 b1 l m;have t:=d a0 b0 l n;have h:a*b=(a1*b1)*18446744073709551616+(a1*b0+a0*b1)*4294967296+a0*b0:=by
  rw [show a=a1*4294967296+a0 by omega,show b=b1*4294967296+b0 by omega];simp only [Int.add_mul,Int.mul_add];have c1:a1*4294967296*(b1*4294967296)=a1*b1*18446744073709551616:=by rw [Int.mul_assoc,Int.mul_comm 4294967296,Int.mul_assoc,Int.mul_assoc];rfl
  have c2:a1*4294967296*b0=a1*b0*4294967296:=by rw [Int.mul_assoc,Int.mul_comm 4294967296,Int.mul_assoc]
  have c3:a0*(b1*4294967296)=a0*b1*4294967296:=by rw [Int.mul_assoc]
  omega
 rw [h];generalize a1*b1=q11 at *;generalize a1*b0=q10 at *;generalize a0*b1=q01 at *;generalize a0*b0=q00 at *;rw [v7 q11,v7 q10,v7 q01,v7 q00];rw [f (q00%18446744073709551616) (by omega)];rw [v7 (q10%18446744073709551616+_)];rw [f _ (by omega),zx8 (by omega) (by omega),e _ (by omega)];rw [v7 ((q10%18446744073709551616+q00%18446744073709551616/4294967296)%18446744073709551616%4294967296+_),f _ (by omega)];rw [v7,v7];omega
def wr8 (a b):(yf0 a b).2=(a*b)%18446744073709551616:=by unfold yf0;exact v7 _
def gf5: ∀i:Fin 256,tab0.getD i.val 0=if i.val=0 then 0 else ((Nat.log2 i.val+1:Nat):Int):=by decide+kernel
def wn8 {n} (h:n<256) (a:n≠0):tab0.getD n 0=((Nat.log2 n+1:Nat):Int):=by
 have:=gf5 ⟨n,h⟩;simp only [a,if_false] at this;exact this
def vh9 {n k} (h:n/2^k≠0):Nat.log2 n=Nat.log2 (n/2^k)+k:=by
 induction k generalizing n with
 |zero=>simp
 |succ k a=>
  have e:n/2^(k+1)=(n/2)/2^k:=by rw [Nat.pow_succ,Nat.mul_comm,Nat.div_div_eq_div_mul]
  rw [e] at h⊢;have b:2<=n:=by
   apply Classical.byContradiction;intro c;have:n/2=0:=by omega
   rw [this] at h;simp at h
  rw [Nat.log2_def,if_pos b,a h];rfl
def kt4 {n} (h:q8 n):jn3 n=if n=0 then 0 else ((Nat.log2 n.toNat+1:Nat):Int):=by
 obtain ⟨m,rfl⟩:=R7 h.1;by_cases j:m=0
 ·subst j;decide+kernel
 rw [if_neg (by omega)];have l: ∀m:Nat,zb1 .u64 (m:Int) 8=((m/2^8:Nat):Int):=fun m=>by rw [zp3 (by omega)];simp
 have f: ∀m:Nat,zb1 .u64 (m:Int) 16=((m/2^16:Nat):Int):=fun m=>by rw [zp3 (by omega)];simp
 have g: ∀m:Nat,zb1 .u64 (m:Int) 32=((m/2^32:Nat):Int):=fun m=>by rw [zp3 (by omega)];simp
 have e: ∀m:Nat,m<256->(IntKind.u8.wrap (m:Int)).toNat=m:=fun m v=>by rw [zy9];omega
 have c: ∀(k:Nat),m/2^k<256->m/2^k≠0->((k:Int)+tab0.getD (m/2^k) 0)=((Nat.log2 m+1:Nat):Int):=fun k o i=>by
  rw [wn8 o i,vh9 i];omega
 have d: ∀a b:Nat,m/2^a/2^b=m/2^(a+b):=fun a b=>by rw [Nat.div_div_eq_div_mul,Nat.pow_add]
 unfold jn3;simp only [l,f,g,d,decide_eq_true_eq,Z1];have w:m/2^8=m/256:=rfl;have p:m/2^16=m/65536:=rfl;have q:m/2^(16+8)=m/16777216:=rfl;have r:m/2^32=m/4294967296:=rfl;have s:m/2^(32+8)=m/1099511627776:=rfl;have t:m/2^(32+16)=m/281474976710656:=rfl;have u:m/2^(32+16+8)=m/72057594037927936:=rfl
 repeat' split
 ·rw [e _ (by omega)];exact c 56 (by omega) (by omega)
 ·rw [e _ (by omega)];exact c 48 (by omega) (by omega)
 ·rw [e _ (by omega)];exact c 40 (by omega) (by omega)
 ·rw [e _ (by omega)];exact c 32 (by omega) (by omega)
 ·rw [e _ (by omega)];exact c 24 (by omega) (by omega)
 ·rw [e _ (by omega)];exact c 16 (by omega) (by omega)
 ·rw [e _ (by omega)];exact c 8 (by omega) (by omega)
 ·have:=c 0 (by omega) (by omega);rw [e _ (by omega)];simpa using this
def wg4 {n} (h:q8 n):qci n=vg0 n:=by
 show IntKind.u64.wrap (yd6 .u64 (1:Int) (jn3 n)-1)=_;unfold vg0;rw [kt4 h];split
 ·subst_vars;rfl
 ·have c:Nat.log2 n.toNat<64:=(Nat.log2_lt (by omega)).2 (by omega);rw [vr3 (by omega),v7,Z1];by_cases a:Nat.log2 n.toNat+1=64
  ·rw [a];rfl
  ·have d:2^(Nat.log2 n.toNat+1)<=2^63:=N4 (by decide) (by omega);have e:=T0 (Nat.log2 n.toNat+1);have b:(1:Int)*2^(Nat.log2 n.toNat+1)=((2^(Nat.log2 n.toNat+1):Nat):Int):=by simp
   rw [b];omega
def kt0 (z a s:Nat) (b:Bool):Nat:=(a >>> s)|||(if b then (2^s-1) <<< (z-s) else 0)
def wm8 {z a s b} (c:a<2^z) (e:s<z):kt0 z a s b<2^z:=by
 unfold kt0;apply N9
 ·exact Nat.lt_of_le_of_lt (by rw [Nat.shiftRight_eq_div_pow];exact Nat.div_le_self _ _) c
 ·split
  ·rw [Nat.shiftLeft_eq];have d:2^z=2^s*2^(z-s):=by rw [<-Nat.pow_add];congr 1;omega
   rw [d];exact Nat.mul_lt_mul_of_pos_right (by have:=T0 s;omega) (T0 _)
  ·exact T0 _
def ja5 {z a s b} (c:a<2^z) (f:s<z):kt0 z a s b=a/2^s+(if b then (2^s-1)*2^(z-s) else 0):=by
 unfold kt0;rw [Nat.shiftRight_eq_div_pow];cases b with
 |false=>simp
 |true=>
  simp only [if_true];have d:2^z=2^s*2^(z-s):=by rw [<-Nat.pow_add];congr 1;omega
  have e:a/2^s<2^(z-s):=Nat.div_lt_of_lt_mul (by rw [<-d];exact c);rw [Nat.or_comm,<-Nat.shiftLeft_add_eq_or_of_lt e,Nat.shiftLeft_eq,J8]
def qs0 {z a} (c:a<2^(z+1)):a.testBit z=decide (2^z<=a):=by
 rw [Nat.testBit_eq_decide_div_mod_eq];have d:a/2^z<2:=Nat.div_lt_of_lt_mul (by rw [Nat.pow_succ] at c;exact c);by_cases h:2^z<=a
 ·have:1<=a/2^z:=(Nat.one_le_div_iff (T0 _)).2 h;have b:a/2^z=1:=by omega
  simp [b,h]
 ·have b:a/2^z=0:=Nat.div_eq_of_lt (by omega);simp [b,h]
def gu7 {z a s:Nat} (b:a<2^z) (d:s<z):((a:Int)-(2:Int)^z)/2^s=((a/2^s:Nat):Int)-2^(z-s):=by
 have c:(2:Int)^z=2^(z-s)*2^s:=by rw [<-Int.pow_add];congr 1;omega
 rw [c,Int.sub_eq_add_neg,<-Int.neg_mul,Int.add_mul_ediv_right _ _ (by exact Int.ne_of_gt (V7 (by omega)))];simp [Int.sub_eq_add_neg]
def gu6 {z s} (a:s<z):((2^s-1)*2^(z-s):Nat)=2^z-2^(z-s):=by
 rw [Nat.sub_mul,Nat.one_mul,<-Nat.pow_add];congr 2;omega
def zar5 {a s:Nat} (b:a<2^32) (c:s<32):IntKind.u32.wrap (zb1 .i32 (IntKind.i32.wrap (a:Int)) (s:Int))=((kt0 32 a s (a.testBit 31):Nat):Int):=by
 rw [ja5 b c,qs0 (z:=31) b];unfold zb1;rw [T9 _ (by exact J4 (V7 (by omega))),show min (s:Int).toNat IntKind.i32.bits=s from by simp only [IntKind.bits];omega,js7,zc7];have f:a/2^s<=a:=Nat.div_le_self _ _;by_cases h:2^31<=a
 ·rw [if_pos (by omega),show (a:Int)%4294967296-4294967296=(a:Int)-(2:Int)^32 from by omega,gu7 b c];simp only [h,decide_true,if_true];rw [gu6 c];have g:2^(32-s)<=2^32:=N4 (by decide) (by omega);have e:(2:Int)^(32-s)=((2^(32-s):Nat):Int):=by simp
  have i:a/2^s<2^(32-s):=Nat.div_lt_of_lt_mul (by rw [<-Nat.pow_add];rw [show s+(32-s)=32 by omega];exact b);rw [e];have j:=T0 (32-s);generalize 2^(32-s)=q at *;generalize a/2^s=d at *;omega
 ·rw [if_neg (by omega),show (a:Int)%4294967296=(a:Int) by omega];simp only [h,decide_false,U1,if_false];have:(a:Int)/2^s=((a/2^s:Nat):Int):=by simp
  rw [this];generalize a/2^s=d at *;omega
def zar6 {a s:Nat} (b:a<2^64) (c:s<64):IntKind.u64.wrap (zb1 .i64 (IntKind.i64.wrap (a:Int)) (s:Int))=((kt0 64 a s (a.testBit 63):Nat):Int):=by
 rw [ja5 b c,qs0 (z:=63) b];unfold zb1;rw [T9 _ (by exact J4 (V7 (by omega))),show min (s:Int).toNat IntKind.i64.bits=s from by simp only [IntKind.bits];omega,yv9,v7];have f:a/2^s<=a:=Nat.div_le_self _ _;by_cases h:2^63<=a
 ·rw [if_pos (by omega),show (a:Int)%18446744073709551616-18446744073709551616=(a:Int)-(2:Int)^64 from by omega,gu7 b c];simp only [h,decide_true,if_true];rw [gu6 c];have g:2^(64-s)<=2^64:=N4 (by decide) (by omega);have e:(2:Int)^(64-s)=((2^(64-s):Nat):Int):=by simp
  have i:a/2^s<2^(64-s):=Nat.div_lt_of_lt_mul (by rw [<-Nat.pow_add];rw [show s+(64-s)=64 by omega];exact b);rw [e];have j:=T0 (64-s);generalize 2^(64-s)=q at *;generalize a/2^s=d at *;omega
 ·rw [if_neg (by omega),show (a:Int)%18446744073709551616=(a:Int) by omega];simp only [h,decide_false,U1,if_false];have:(a:Int)/2^s=((a/2^s:Nat):Int):=by simp
  rw [this];generalize a/2^s=d at *;omega
def j9 (nw:Bool):Int:=if nw then 4294967295 else 18446744073709551615
structure SpOk (nw:Bool) (s:j5):Prop where
 lo:0<=s.Lo
 le:s.Lo<=s.Hi
 hi:s.Hi<=j9 nw
def SpOk.u (nw) {s} (h:SpOk nw s):q8 s.Lo/\q8 s.Hi:=by
 have b:=h.lo;have c:=h.le;have a:=h.hi;unfold j9 at a;split at a<;>omega
def yk1 {x} (h:q8 x):w9 .u64 x 4294967295=x%4294967296:=by
 rw [zx8 h (by omega),show (4294967295:Int).toNat=2^32-1 from rfl,Nat.and_two_pow_sub_one_eq_mod];omega
def we2 {x} (h:q8 x):w9 .u64 x 18446744073709551615=x:=by
 rw [zx8 h (by omega),show (18446744073709551615:Int).toNat=2^64-1 from rfl,Nat.and_two_pow_sub_one_eq_mod];omega
def wd0 {x}:zb1 .u64 x 32=x/4294967296:=by rw [zp3 (by omega)];rfl
def zm0 {s nw} (h:q8 s.Lo/\q8 s.Hi) (a:s.Lo<=s.Hi):SpOk nw (qf s nw):=by
 cases nw with
 |false=>exact ⟨h.1.1,a,h.2.2⟩
 |true=>
  unfold qf;simp only [W9,U1,if_false,wd0,yk1 h.1,yk1 h.2];split
  ·exact ⟨by decide,by decide,by decide⟩
  ·rename_i b;have b:s.Lo/4294967296=s.Hi/4294967296:=by simpa using b
   refine ⟨?_,?_,?_⟩
   ·show 0<=s.Lo%4294967296;omega
   ·show s.Lo%4294967296<=s.Hi%4294967296;omega
   ·show s.Hi%4294967296<=4294967295;omega
def ye5 (s):qs s=decide (s.Lo=s.Hi):=by
 show ((s.Lo==s.Lo)&&(s.Hi==s.Lo))=_;by_cases h:s.Lo=s.Hi<;>simp [h];exact fun e=>h e.symm
def ya6 (w):qac w=(decide (w.a.Lo=w.a.Hi)&&decide (w.b.Lo=w.b.Hi)):=by
 show (qs w.a&&qs w.b)=_;rw [ye5,ye5]
def wk (nw:Bool) (a b:j5):Twork:=⟨a,b,nw,j9 nw,if nw then 32 else 64⟩
def vv5 (nw a b):qaq nw a b=wk nw (qf a nw) (qf b nw):=by
 cases nw<;>rfl
def vl8 (nw):zh1 nw=⟨0,j9 nw⟩:=by cases nw<;>rfl
def qd9 {α} (c:Bool) (n:α) (f:Unit->α):zk5 (za3 c) n f=if c=true then f () else n:=by
 cases c<;>rfl
def zn3 (nw):q8 (j9 nw):=by cases nw<;>decide
def kx6 (nw):j9 nw=4294967295\/j9 nw=18446744073709551615:=by cases nw<;>simp [j9]
def kx7 {nw p q} (a:0<=p/\p<=j9 nw) (b:0<=q/\q<=j9 nw):
  (((yf0 p q).1==0)&&decide ((yf0 p q).2<=j9 nw))=decide (p*q<=j9 nw):=by
 have c:=zn3 nw;rw [zam1 p q ⟨a.1,by omega⟩ ⟨b.1,by omega⟩,wr8];have d:0<=p*q:=K5 a.1 b.1;generalize p*q=z at *;rw [U4];simp only [X3,beq_iff_eq,decide_eq_true_eq];omega
def vd2 {nw x c} (b:0<=x) (e:0<=c/\c<=63) (h:x<=zb1 .u64 (j9 nw) c):yd6 .u64 x c=x*2^c.toNat/\x*2^c.toNat<=j9 nw:=by
 rw [zp3 (by omega)] at h;have a:(0:Int)<2^c.toNat:=V7 (by omega);have d:x*2^c.toNat<=j9 nw:=(Int.le_ediv_iff_mul_le a).1 h;have f:0<=x*2^c.toNat:=K5 b (J4 a);have g:=zn3 nw;refine ⟨?_,d⟩;rw [vr3 (by omega)];omega
def ym7 {nw a b x} (c:0<=x/\x<=j9 nw):qw (wk nw a b) x=decide (j9 nw<2*x):=by
 cases nw with
 |true=>
  have d:x<=4294967295:=c.2;have e:((w9 .u64 (zb1 .u64 x 31) 1)==1)=decide (j9 true<2*x):=by
   rw [zp3 (by omega),show (2:Int)^(31:Int).toNat=2147483648 from rfl,zx8 (by omega) (by omega)];rw [show (1:Int).toNat=1 from rfl,Nat.and_one_is_mod];show _=decide (4294967295<2*x);rw [U4,beq_iff_eq,decide_eq_true_eq];omega
  exact e
 |false=>
  have d:x<=18446744073709551615:=c.2;have e:((w9 .u64 (zb1 .u64 x 63) 1)==1)=decide (j9 false<2*x):=by
   rw [zp3 (by omega),show (2:Int)^(63:Int).toNat=9223372036854775808 from rfl,zx8 (by omega) (by omega)];rw [show (1:Int).toNat=1 from rfl,Nat.and_one_is_mod];show _=decide (18446744073709551615<2*x);rw [U4,beq_iff_eq,decide_eq_true_eq];omega
  exact e
def yz5 {nw a b s} (c:SpOk nw s):qav (wk nw a b) s=(decide (j9 nw<2*s.Lo) != decide (j9 nw<2*s.Hi)):=by
 show (qw (wk nw a b) s.Lo != qw (wk nw a b) s.Hi)=_;have d:=c.lo;have f:=c.le;have e:=c.hi;rw [ym7 ⟨d,by omega⟩,ym7 ⟨by omega,e⟩]
def zc2 (op:Int) (w:Twork):Option j5:=
 if op=1 then zs3 w else if op=2 then zs7 w else if op=3 then zs4 w else if op=4 then some (qct w) else if op=5 then some (qcu w)
 else if op=6 then some (qcj w) else if op=7 then some (qck w) else if op=8 then some (qcl w) else if op=9 then zs6 w else if op=10 then some (qax w)
 else if op=11 then zs5 w else if op=12 then some (qcv w) else zk2 w
def kw6 (op):jv4 op=decide (1<=op/\op<=13):=by
 unfold jv4;rw [U4];simp only [V5,beq_iff_eq,decide_eq_true_eq];omega
def zs2 (op nw a b):span_Do op nw a b=if (1<=op/\op<=13)/\a.Lo<=a.Hi/\b.Lo<=b.Hi then (zc2 op (wk nw (qf a nw) (qf b nw))).getD ⟨0,j9 nw⟩ else ⟨0,j9 nw⟩:=by
 rw [span_Do.eq_1];simp only [kw6,q9,za6,vl8,vv5];by_cases h:(1<=op/\op<=13)/\a.Lo<=a.Hi/\b.Lo<=b.Hi
 ·rw [if_pos h,if_neg (by simp [h])];unfold zc2;generalize wk nw (qf a nw) (qf b nw)=w;have c:op=1\/op=2\/op=3\/op=4\/op=5\/op=6\/op=7\/op=8\/op=9\/op=10\/op=11\/op=12\/op=13:=by omega
  rcases c with rfl|rfl|rfl|rfl|rfl|rfl|rfl|rfl|rfl|rfl|rfl|rfl|rfl
  all_goals first|rfl|(simp only [show ∀o:Option j5,zk5 o (⟨0,j9 nw⟩:j5) (fun x=>x)=o.getD ⟨0,j9 nw⟩ from fun o=>by cases o<;>rfl];rfl)
 ·rw [if_neg h,if_pos];simp only [V5,V4,decide_eq_false_iff_not];omega
end Go.Y
namespace Go.Y
open Go.RowKit Go.V Go.X Go.Proofs
def gg9 {x} (h:qv0 x):(BitVec.ofInt IntKind.u32.bits x).toNat=x.toNat:=by
 rw [BitVec.toNat_ofInt];simp only [IntKind.bits];omega
def gg6 {x y} (a:qv0 x) (b:qv0 y):w9 .u32 x y=((x.toNat&&&y.toNat:Nat):Int):=by
 unfold w9;rw [BitVec.toNat_and,gg9 a,gg9 b,zc7];have:x.toNat&&&y.toNat<=x.toNat:=Nat.and_le_left;omega
def wr5 {x} (h:qv0 x):x.toNat<2^32:=by omega
def zaj3 {x y} (a:qv0 x) (b:qv0 y):bOr .u32 x y=((x.toNat|||y.toNat:Nat):Int):=by
 unfold bOr;rw [BitVec.toNat_or,gg9 a,gg9 b,zc7];have:=N9 (wr5 a) (wr5 b);omega
def ug5 {x y} (a:qv0 x) (b:qv0 y):jb3 .u32 x y=((x.toNat^^^y.toNat:Nat):Int):=by
 unfold jb3;rw [BitVec.toNat_xor,gg9 a,gg9 b,zc7];have:=R6 (wr5 a) (wr5 b);omega
def zai5 {x y} (a:0<=y/\y<=32):zb1 .u32 x y=x/2^y.toNat:=by
 unfold zb1;rw [T9 _ (by exact J4 (V7 (by omega)))];congr 2;simp only [IntKind.bits];omega
def zai4 {x y} (a:0<=y/\y<=32):yd6 .u32 x y=(x*2^y.toNat)%4294967296:=by
 unfold yd6;rw [zc7];congr 3;simp only [IntKind.bits];omega
def zf8 (nw:Bool):Nat:=if nw then 32 else 64
def yn5 (nw):j9 nw+1=2^zf8 nw:=by cases nw<;>decide
def ja7 (nw):zf8 nw=32\/zf8 nw=64:=by cases nw<;>simp [zf8]
def jc5 (nw:Bool) (p:Int) (s:Nat):Int:=((kt0 (zf8 nw) p.toNat s (decide (j9 nw<2*p)):Nat):Int)
def shN (nw:Bool) (q:Int):Nat:=(q%(zf8 nw:Int)).toNat
def jm2 (nw q):shN nw q<zf8 nw:=by unfold shN;rcases ja7 nw with h|h<;>rw [h]<;>omega
def qj1 (nw:Bool) (op p q:Int):Option Int:=
 if op=1 then some ((p+q)%(j9 nw+1)) else if op=2 then some ((p-q)%(j9 nw+1)) else if op=3 then some ((p*q)%(j9 nw+1))
 else if op=4 then (if q=0 then none else some (p/q)) else if op=5 then (if q=0 then none else some (p%q))
 else if op=6 then some ((p.toNat&&&q.toNat:Nat):Int) else if op=7 then some ((p.toNat|||q.toNat:Nat):Int) else if op=8 then some ((p.toNat^^^q.toNat:Nat):Int)
 else if op=9 then some ((p*2^shN nw q)%(j9 nw+1)) else if op=10 then some (p/2^shN nw q) else if op=11 then some (jc5 nw p (shN nw q))
 else if op=12 then some q else some ((0-p)%(j9 nw+1))
def yc5 (nw:Bool) (p:Int):Int:=if nw then p%4294967296 else p
def jn8 {nw p} (h:q8 p):0<=yc5 nw p/\yc5 nw p<=j9 nw:=by
 cases nw with
 |true=>show 0<=p%4294967296/\p%4294967296<=4294967295;omega
 |false=>exact h
def kr9 (o:Option Int):Int×Int:=match o with|some v=>(v,0)|none=>(0,113)
def vz5 (nw:Bool) {a:Nat} (b:a<2^zf8 nw):a.testBit (zf8 nw-1)=decide (j9 nw<2*(a:Int)):=by
 cases nw with
 |true=>rw [show zf8 true-1=31 from rfl,qs0 (z:=31) b,show j9 true=4294967295 from rfl];rw [U4,decide_eq_true_eq,decide_eq_true_eq];omega
 |false=>rw [show zf8 false-1=63 from rfl,qs0 (z:=63) b,show j9 false=18446744073709551615 from rfl];rw [U4,decide_eq_true_eq,decide_eq_true_eq];omega
def qr6 (nw) {q} (a:0<=q):q%(zf8 nw:Int)=((shN nw q:Nat):Int):=by unfold shN;rcases ja7 nw with h|h<;>rw [h]<;>omega
def zm1 {op} (i:1<=op/\op<=13) {nw p q} (j:q8 p) (k:q8 q):za4 op nw p q=kr9 (qj1 nw op (yc5 nw p) (yc5 nw q)):=by
 have h:op=1\/op=2\/op=3\/op=4\/op=5\/op=6\/op=7\/op=8\/op=9\/op=10\/op=11\/op=12\/op=13:=by omega
 cases nw with
 |true=>
  have b:qv0 (p%4294967296):=by omega
  have c:qv0 (q%4294967296):=by omega
  show yx5 op 32 (IntKind.u32.wrap p) (IntKind.u32.wrap q)=kr9 (qj1 true op (p%4294967296) (q%4294967296));rw [zc7,zc7];generalize p%4294967296=x at *;generalize q%4294967296=y at *;have e:y%32=((shN true y:Nat):Int):=qr6 true c.1;have g:shN true y<32:=jm2 true y;have l:0<=x/y/\x/y<=x:=⟨M9 b.1 c.1,T1 _ b.1⟩;rcases h with rfl|rfl|rfl|rfl|rfl|rfl|rfl|rfl|rfl|rfl|rfl|rfl|rfl
  ·show (IntKind.u32.wrap (x+y),(0:Int))=((x+y)%(4294967295+1),0);rw [zc7];rfl
  ·show (IntKind.u32.wrap (x-y),(0:Int))=((x-y)%(4294967295+1),0);rw [zc7];rfl
  ·show (IntKind.u32.wrap (x*y),(0:Int))=((x*y)%(4294967295+1),0);rw [zc7];rfl
  ·by_cases d:y=0
   ·subst d;rfl
   ·show (if (y==0)=true then ((0:Int),(113:Int)) else (IntKind.u32.wrap (x.tdiv y),0))=kr9 (if y=0 then none else some (x/y));rw [if_neg (by simpa using d),if_neg d,zc7,Int.tdiv_eq_ediv_of_nonneg b.1];show _=(x/y,(0:Int));congr 1;omega
  ·by_cases d:y=0
   ·subst d;rfl
   ·show (if (y==0)=true then ((0:Int),(113:Int)) else (x.tmod y,0))=kr9 (if y=0 then none else some (x%y));rw [if_neg (by simpa using d),if_neg d,M2 b.1];rfl
  ·show (w9 .u32 x y,(0:Int))=(((x.toNat&&&y.toNat:Nat):Int),0);rw [gg6 b c]
  ·show (bOr .u32 x y,(0:Int))=(((x.toNat|||y.toNat:Nat):Int),0);rw [zaj3 b c]
  ·show (jb3 .u32 x y,(0:Int))=(((x.toNat^^^y.toNat:Nat):Int),0);rw [ug5 b c]
  ·show (yd6 .u32 x (y.tmod 32),(0:Int))=((x*2^shN true y)%(4294967295+1),0);rw [M2 c.1,e,zai4 (by omega)];rfl
  ·show (zb1 .u32 x (y.tmod 32),(0:Int))=(x/2^shN true y,0);rw [M2 c.1,e,zai5 (by omega)];rfl
  ·show (IntKind.u32.wrap (zb1 .i32 (IntKind.i32.wrap x) (y.tmod 32)),(0:Int))=(jc5 true x (shN true y),0);obtain ⟨a,rfl⟩:=R7 b.1;rw [M2 c.1,e,zar5 (by omega) g];unfold jc5;rw [<-vz5 true (a:=a) (show a<2^32 by omega)];rfl
  ·rfl
  ·show (IntKind.u32.wrap (0-x),(0:Int))=((0-x)%(4294967295+1),0);rw [zc7];rfl
 |false=>
  show jy3 op 64 p q=kr9 (qj1 false op p q);have b:=j;have c:=k;have f:q%64=((shN false q:Nat):Int):=qr6 false c.1;have g:shN false q<64:=jm2 false q;have l:0<=p/q/\p/q<=p:=⟨M9 b.1 c.1,T1 _ b.1⟩;rcases h with rfl|rfl|rfl|rfl|rfl|rfl|rfl|rfl|rfl|rfl|rfl|rfl|rfl
  ·show (IntKind.u64.wrap (p+q),(0:Int))=((p+q)%(18446744073709551615+1),0);rw [v7];rfl
  ·show (IntKind.u64.wrap (p-q),(0:Int))=((p-q)%(18446744073709551615+1),0);rw [v7];rfl
  ·show (IntKind.u64.wrap (p*q),(0:Int))=((p*q)%(18446744073709551615+1),0);rw [v7];rfl
  ·by_cases d:q=0
   ·subst d;rfl
   ·show (if (q==0)=true then ((0:Int),(113:Int)) else (IntKind.u64.wrap (p.tdiv q),0))=kr9 (if q=0 then none else some (p/q));rw [if_neg (by simpa using d),if_neg d,v7,Int.tdiv_eq_ediv_of_nonneg b.1];show _=(p/q,(0:Int));congr 1;omega
  ·by_cases d:q=0
   ·subst d;rfl
   ·show (if (q==0)=true then ((0:Int),(113:Int)) else (p.tmod q,0))=kr9 (if q=0 then none else some (p%q));rw [if_neg (by simpa using d),if_neg d,M2 b.1];rfl
  ·show (w9 .u64 p q,(0:Int))=(((p.toNat&&&q.toNat:Nat):Int),0);rw [zx8 b c]
  ·show (bOr .u64 p q,(0:Int))=(((p.toNat|||q.toNat:Nat):Int),0);rw [gw3 b c]
  ·show (jb3 .u64 p q,(0:Int))=(((p.toNat^^^q.toNat:Nat):Int),0);rw [gg7 b c]
  ·show (yd6 .u64 p (q.tmod 64),(0:Int))=((p*2^shN false q)%(18446744073709551615+1),0);rw [M2 c.1,f,vr3 (by omega)];rfl
  ·show (zb1 .u64 p (q.tmod 64),(0:Int))=(p/2^shN false q,0);rw [M2 c.1,f,zp3 (by omega)];rfl
  ·show (IntKind.u64.wrap (zb1 .i64 (IntKind.i64.wrap p) (q.tmod 64)),(0:Int))=(jc5 false p (shN false q),0);obtain ⟨a,rfl⟩:=R7 b.1;rw [M2 c.1,f,zar6 (by omega) g];unfold jc5;rw [<-vz5 false (a:=a) (show a<2^64 by omega)];rfl
  ·rfl
  ·show (IntKind.u64.wrap (0-p),(0:Int))=((0-p)%(18446744073709551615+1),0);rw [v7];rfl
def yu4 (p q:Int):Int:=vg0 ((p.toNat|||q.toNat:Nat):Int)
def jz1 (nw:Bool) (op:Int) (u v:j5):Option j5:=
 if op=1 then (if v.Hi<=j9 nw-u.Hi\/v.Lo>j9 nw-u.Lo then some ⟨(u.Lo+v.Lo)%(j9 nw+1),(u.Hi+v.Hi)%(j9 nw+1)⟩ else none)
 else if op=2 then (if u.Lo>=v.Hi\/u.Hi<v.Lo then some ⟨(u.Lo-v.Hi)%(j9 nw+1),(u.Hi-v.Lo)%(j9 nw+1)⟩ else none)
 else if op=3 then (if u.Hi*v.Hi<=j9 nw then some ⟨u.Lo*v.Lo,u.Hi*v.Hi⟩ else none)
 else if op=4 then some ⟨u.Lo/max v.Hi 1,u.Hi/max v.Lo 1⟩
 else if op=5 then some (if u.Hi<max v.Lo 1 then u else ⟨0,min u.Hi (max v.Hi 1-1)⟩)
 else if op=6 then some (if u.Lo=u.Hi/\v.Lo=v.Hi then ⟨((u.Lo.toNat&&&v.Lo.toNat:Nat):Int),((u.Lo.toNat&&&v.Lo.toNat:Nat):Int)⟩ else ⟨0,min u.Hi v.Hi⟩)
 else if op=7 then some (if u.Lo=u.Hi/\v.Lo=v.Hi then ⟨((u.Lo.toNat|||v.Lo.toNat:Nat):Int),((u.Lo.toNat|||v.Lo.toNat:Nat):Int)⟩ else ⟨max u.Lo v.Lo,yu4 u.Hi v.Hi⟩)
 else if op=8 then some (if u.Lo=u.Hi/\v.Lo=v.Hi then ⟨((u.Lo.toNat^^^v.Lo.toNat:Nat):Int),((u.Lo.toNat^^^v.Lo.toNat:Nat):Int)⟩ else ⟨0,yu4 u.Hi v.Hi⟩)
 else if op=9 then (if v.Lo=v.Hi/\u.Hi*2^shN nw v.Lo<=j9 nw then some ⟨u.Lo*2^shN nw v.Lo,u.Hi*2^shN nw v.Lo⟩ else none)
 else if op=10 then some (if v.Lo=v.Hi then ⟨u.Lo/2^shN nw v.Lo,u.Hi/2^shN nw v.Lo⟩ else if v.Hi>=zf8 nw then ⟨0,u.Hi⟩ else ⟨u.Lo/2^v.Hi.toNat,u.Hi/2^v.Lo.toNat⟩)
 else if op=11 then (if v.Lo=v.Hi/\(j9 nw<2*u.Lo↔j9 nw<2*u.Hi) then some ⟨jc5 nw u.Lo (shN nw v.Lo),jc5 nw u.Hi (shN nw v.Lo)⟩ else none)
 else if op=12 then some v
 else (if u.Hi=0 then some u else if u.Lo>0 then some ⟨(0-u.Hi)%(j9 nw+1),(0-u.Lo)%(j9 nw+1)⟩ else none)
def yv4 {α c p} [Decidable p] (h:c=decide p) (x y:α) (a:p->x=y):(zk5 (za3 c) none fun _=>some x)=if p then some y else none:=by
 rw [qd9,h];by_cases b:p
 ·simp [b,a b]
 ·simp [b]
def jt3 {nw} (a b x y):qca (wk nw a b) (IntKind.u64.wrap x) (IntKind.u64.wrap y)=⟨x%(j9 nw+1),y%(j9 nw+1)⟩:=by
 have c: ∀x:Int,w9 .u64 (IntKind.u64.wrap x) (j9 nw)=x%(j9 nw+1):=by
  intro x;cases nw with
  |true=>show w9 .u64 _ 4294967295=x%4294967296;rw [yk1 (zf4 x),v7];omega
  |false=>show w9 .u64 _ 18446744073709551615=x%18446744073709551616;rw [we2 (zf4 x),v7]
 show (⟨_,_⟩:j5)=_;rw [show (wk nw a b).most=j9 nw from rfl,c,c]
def vt4 {nw p q} (a:0<=p/\p<=j9 nw) (b:0<=q/\q<=j9 nw):qci (bOr .u64 p q)=yu4 p q:=by
 have d:=zn3 nw;have c:q8 (bOr .u64 p q):=zf4 _;rw [wg4 c,gw3 ⟨a.1,by omega⟩ ⟨b.1,by omega⟩];rfl
def vy4 {nw x y} (a:0<=x/\x<=j9 nw) (b:0<=y/\y<=j9 nw):(za4 11 nw x y).1=jc5 nw x (shN nw y):=by
 have c:=zn3 nw;have e: ∀z:Int,(0<=z/\z<=j9 nw)->yc5 nw z=z:=by
  intro z d;cases nw with
  |true=>show z%4294967296=z;have:j9 true=4294967295:=rfl;omega
  |false=>rfl
 rw [zm1 (by omega) ⟨a.1,by omega⟩ ⟨b.1,by omega⟩,e x a,e y b];rfl
def qg6 {op} (E:1<=op/\op<=13) {nw u v} (o:SpOk nw u) (z:SpOk nw v):zc2 op (wk nw u v)=jz1 nw op u v:=by
 have g:=o.lo;have j:=o.le;have i:=o.hi;have e:=z.lo;have l:=z.le;have m:=z.hi;have G:=zn3 nw;have A:=o.u;have B:=z.u;have F:op=1\/op=2\/op=3\/op=4\/op=5\/op=6\/op=7\/op=8\/op=9\/op=10\/op=11\/op=12\/op=13:=by omega
 rcases F with rfl|rfl|rfl|rfl|rfl|rfl|rfl|rfl|rfl|rfl|rfl|rfl|rfl
 ·refine yv4 (p:=v.Hi<=j9 nw-u.Hi\/v.Lo>j9 nw-u.Lo) ?_ _ _ fun _=>jt3 u v _ _;show (decide (v.Hi<=IntKind.u64.wrap (j9 nw-u.Hi))||decide (v.Lo>IntKind.u64.wrap (j9 nw-u.Lo)))=_;rw [v7,v7,V8 (by omega) (by omega),V8 (by omega) (by omega)];simp
 ·refine yv4 (p:=u.Lo>=v.Hi\/u.Hi<v.Lo) ?_ _ _ fun _=>jt3 u v _ _;show (decide (u.Lo>=v.Hi)||decide (u.Hi<v.Lo))=_;simp
 ·refine yv4 (p:=u.Hi*v.Hi<=j9 nw) ?_ _ _ fun h=>?_
  ·show (((yf0 u.Hi v.Hi).1==0)&&decide ((yf0 u.Hi v.Hi).2<=j9 nw))=_;exact kx7 ⟨by omega,i⟩ ⟨by omega,m⟩
  ·show (⟨IntKind.u64.wrap (u.Lo*v.Lo),(yf0 u.Hi v.Hi).2⟩:j5)=_;have b:0<=u.Lo*v.Lo:=K5 g e;have f:u.Lo*v.Lo<=u.Hi*v.Hi:=Int.mul_le_mul j l e (by omega);rw [wr8,v7,V8 b (by omega),V8 (by omega) (by omega)]
 ·show some (⟨IntKind.u64.wrap (u.Lo.tdiv (zi1 v.Hi 1)),IntKind.u64.wrap (u.Hi.tdiv (zi1 v.Lo 1))⟩:j5)=some ⟨u.Lo/max v.Hi 1,u.Hi/max v.Lo 1⟩;have d: ∀x y:Int,0<=x->x<=j9 nw->IntKind.u64.wrap (x.tdiv (zi1 y 1))=x/max y 1:=by
   intro x y b f;rw [zj4,Int.tdiv_eq_ediv_of_nonneg b,v7];have q:0<=x/max y 1:=M9 b (by omega);have D:x/max y 1<=x:=T1 _ b;exact V8 q (by omega)
  rw [d _ _ g (by omega),d _ _ (by omega) i]
 ·show some (if decide (u.Hi<zi1 v.Lo 1)=true then u else (⟨0,zo3 u.Hi (IntKind.u64.wrap (zi1 v.Hi 1-1))⟩:j5))=some (if u.Hi<max v.Lo 1 then u else ⟨0,min u.Hi (max v.Hi 1-1)⟩);rw [zj4,zj4,zt8,v7,V8 (by omega) (by omega)];simp only [decide_eq_true_eq]
 ·show some (qcj (wk nw u v))=some (if u.Lo=u.Hi/\v.Lo=v.Hi then _ else _);unfold qcj za6;simp only [ya6];by_cases b:u.Lo=u.Hi<;>by_cases f:v.Lo=v.Hi<;>simp [b,f,wk,zq0,zt8];rw [zx8 A.2 B.2]
 ·show some (qck (wk nw u v))=some (if u.Lo=u.Hi/\v.Lo=v.Hi then _ else _);unfold qck za6;simp only [ya6];have C:=vt4 (nw:=nw) ⟨J3 g j,i⟩ ⟨J3 e l,m⟩;by_cases b:u.Lo=u.Hi<;>by_cases f:v.Lo=v.Hi<;>simp [b,f,wk,zq0,zj4,C];rw [gw3 A.2 B.2]
 ·show some (qcl (wk nw u v))=some (if u.Lo=u.Hi/\v.Lo=v.Hi then _ else _);unfold qcl za6;simp only [ya6];have C:=vt4 (nw:=nw) ⟨J3 g j,i⟩ ⟨J3 e l,m⟩;by_cases b:u.Lo=u.Hi<;>by_cases f:v.Lo=v.Hi<;>simp [b,f,wk,zq0,C];rw [gg7 A.2 B.2]
 ·have k:(if nw then (32:Int) else 64)=(zf8 nw:Int):=by cases nw<;>rfl
  have r:v.Lo.tmod (if nw then (32:Int) else 64)=((shN nw v.Lo:Nat):Int):=by rw [M2 e,k,qr6 nw e]
  have s:=jm2 nw v.Lo;have t:zf8 nw<=64:=by have:=ja7 nw;omega
  have w:(0:Int)<2^shN nw v.Lo:=V7 (by omega);have n: ∀x:Int,x<=zb1 .u64 (j9 nw) ((shN nw v.Lo:Nat):Int)↔x*2^shN nw v.Lo<=j9 nw:=by
   intro x;rw [zp3 (by omega),Z1];exact Int.le_ediv_iff_mul_le w
  refine yv4 (p:=v.Lo=v.Hi/\u.Hi*2^shN nw v.Lo<=j9 nw) ?_ _ _ fun h=>?_
  ·show (qs v&&decide (u.Hi<=zb1 .u64 (j9 nw) (v.Lo.tmod (if nw then (32:Int) else 64))))=_;rw [ye5,r,U4];simp only [X3,decide_eq_true_eq,n]
  ·show (⟨yd6 .u64 u.Lo (v.Lo.tmod (if nw then (32:Int) else 64)),yd6 .u64 u.Hi (v.Lo.tmod (if nw then (32:Int) else 64))⟩:j5)=_;rw [r];have q:=vd2 (x:=u.Hi) (c:=((shN nw v.Lo:Nat):Int)) (by omega) (by omega) ((n _).2 h.2);have D:=vd2 (x:=u.Lo) (c:=((shN nw v.Lo:Nat):Int)) g (by omega) (J3 j ((n _).2 h.2));rw [q.1,D.1,Z1]
 ·have k:(if nw then (32:Int) else 64)=(zf8 nw:Int):=by cases nw<;>rfl
  have r:v.Lo.tmod (if nw then (32:Int) else 64)=((shN nw v.Lo:Nat):Int):=by rw [M2 e,k,qr6 nw e]
  have s:=jm2 nw v.Lo;have t:zf8 nw<=64:=by have:=ja7 nw;omega
  show some (if qs v then (⟨zb1 .u64 u.Lo (v.Hi.tmod (if nw then 32 else 64)),zb1 .u64 u.Hi (v.Lo.tmod (if nw then 32 else 64))⟩:j5) else if decide (v.Hi>=(if nw then (32:Int) else 64)) then ⟨0,u.Hi⟩ else ⟨zb1 .u64 u.Lo v.Hi,zb1 .u64 u.Hi v.Lo⟩)=some (if v.Lo=v.Hi then _ else if v.Hi>=zf8 nw then _ else _);rw [ye5];by_cases b:v.Lo=v.Hi
  ·simp only [b,decide_true,if_true];rw [b] at r s;rw [r,zp3 (by omega),zp3 (by omega),Z1]
  ·simp only [b,decide_false,U1,if_false];rw [k];by_cases f:v.Hi>=(zf8 nw:Int)
   ·simp only [f,decide_true,if_true]
   ·simp only [f,decide_false,U1,if_false];rw [zp3 (by omega),zp3 (by omega)]
 ·refine yv4 (p:=v.Lo=v.Hi/\(j9 nw<2*u.Lo↔j9 nw<2*u.Hi)) ?_ _ _ fun _=>?_
  ·show (qs v&& !(qav (wk nw u v) u))=_;rw [ye5,yz5 o];by_cases b:v.Lo=v.Hi<;>by_cases f:j9 nw<2*u.Lo<;>by_cases q:j9 nw<2*u.Hi<;>simp [b,f,q]
  ·show (⟨(za4 11 nw u.Lo v.Lo).1,(za4 11 nw u.Hi v.Lo).1⟩:j5)=_;rw [vy4 ⟨g,by omega⟩ ⟨e,by omega⟩,vy4 ⟨by omega,i⟩ ⟨e,by omega⟩]
 ·rfl
 ·show zk2 (wk nw u v)=if u.Hi=0 then some u else if u.Lo>0 then _ else none
  unfold zk2;by_cases b:u.Hi=0
  ·have f:((wk nw u v).a.Hi==0)=true:=by simpa [wk] using b
   rw [f,if_pos b];rfl
  ·have f:((wk nw u v).a.Hi==0)=false:=by simpa [wk] using b
   rw [f,if_neg b];exact yv4 (p:=u.Lo>0) rfl _ _ fun _=>jt3 u v _ _
end Go.Y
namespace Go.Y
open Go.RowKit Go.V Go.X Go.Proofs
end Go.Y
namespace Go.Y
open Go.RowKit Go.V Go.X Go.Proofs
def zc3 (nw:Bool) (p:Int):Bool:=decide (j9 nw<2*p)
def sgn (nw:Bool) (p:Int):Int:=if j9 nw<2*p then p-(j9 nw+1) else p
def isE (nw:Bool) (op p q:Int):Bool:=
 if op=17 then decide (p=q) else if op=18 then decide (p≠q) else if op=19 then decide (p>q) else if op=20 then decide (p>=q) else if op=21 then decide (p<q) else if op=22 then decide (p<=q)
 else if op=23 then decide (sgn nw p>sgn nw q) else if op=24 then decide (sgn nw p>=sgn nw q) else if op=25 then decide (sgn nw p<sgn nw q) else if op=26 then decide (sgn nw p<=sgn nw q) else decide (p.toNat&&&q.toNat≠0)
def woE (s n:j5):j5:=if s.Lo=s.Hi\/n.Lo≠n.Hi then s else ⟨if s.Lo=n.Lo then s.Lo+1 else s.Lo,if s.Hi=n.Lo then s.Hi-1 else s.Hi⟩
def gtE (u v:j5):Option (j5×j5):=if u.Hi>v.Lo then some (⟨max u.Lo (v.Lo+1),u.Hi⟩,⟨v.Lo,min v.Hi (u.Hi-1)⟩) else none
def geE (u v:j5):Option (j5×j5):=if u.Hi>=v.Lo then some (⟨max u.Lo v.Lo,u.Hi⟩,⟨v.Lo,min v.Hi u.Hi⟩) else none
def jj8 (o:Option (j5×j5)):Option (j5×j5):=o.map fun x=>(x.2,x.1)
def zy6 (op:Int) (u v:j5):Option (j5×j5):=
 if op=17 then (if max u.Lo v.Lo<=min u.Hi v.Hi then some (⟨max u.Lo v.Lo,min u.Hi v.Hi⟩,⟨max u.Lo v.Lo,min u.Hi v.Hi⟩) else none)
 else if op=18 then (if u.Lo=u.Hi/\v.Lo=v.Hi/\u.Lo=v.Lo then none else some (woE u v,woE v u))
 else if op=19 then gtE u v else if op=20 then geE u v else if op=21 then jj8 (gtE v u) else jj8 (geE v u)
def zr4 (nw:Bool) (op:Int) (u v:j5):Option (j5×j5):=
 if zc3 nw u.Lo≠zc3 nw u.Hi\/zc3 nw v.Lo≠zc3 nw v.Hi then some (u,v)
 else if zc3 nw u.Lo=zc3 nw v.Lo then zy6 (op-4) u v
 else if (op=23\/op=24)↔zc3 nw v.Lo=true then some (u,v) else none
def zx6 (yes:Bool) (u v:j5):Option (j5×j5):=
 if yes=false then (if u.Lo=u.Hi/\v.Lo=v.Hi/\u.Lo.toNat&&&v.Lo.toNat≠0 then none else some (u,v))
 else if u.Hi>0/\v.Hi>0/\ ¬(u.Lo=u.Hi/\v.Lo=v.Hi/\u.Lo.toNat&&&v.Lo.toNat=0) then some (⟨max u.Lo 1,u.Hi⟩,⟨max v.Lo 1,v.Hi⟩) else none
def jg5 (op:Int):Int:=if op=17 then 18 else if op=18 then 17 else if op=19 then 22 else if op=20 then 21 else if op=21 then 20 else if op=22 then 19 else if op=23 then 26 else if op=24 then 25 else if op=25 then 24 else 23
def qb1 (nw:Bool) (op:Int) (yes:Bool) (u v:j5):Option (j5×j5):=
 if op=27 then zx6 yes u v else if (if yes=true then op else jg5 op)>=23 then zr4 nw (if yes=true then op else jg5 op) u v else zy6 (if yes=true then op else jg5 op) u v
def js5 {nw s n} (b:SpOk nw s):qq s n=woE s n:=by
 have c:=b.lo;have d:=b.le;have e:=b.hi;have f:=zn3 nw;unfold qq jj2 woE za6;simp only [ye5,beq_iff_eq];by_cases c1:s.Lo=s.Hi
 ·simp [c1]
 ·by_cases c2:n.Lo=n.Hi
  ·simp only [c1,c2,decide_false,decide_true,W9,Bool.or_self,U1,if_false,ne_eq,not_true_eq_false,or_self];rw [v7,V8 (a:=s.Lo+1) (by omega) (by omega),v7,V8 (a:=s.Hi-1) (by omega) (by omega)];split<;>split<;>rfl
  ·simp [c1,c2]
def jq4 {nw u v} (a:SpOk nw u) (b:SpOk nw v):zn9 (wk nw u v)=gtE u v:=by
 have c:=a.lo;have d:=a.le;have e:=a.hi;have f:=b.lo;have g:=b.le;have i:=b.hi;have j:=zn3 nw;refine yv4 (p:=u.Hi>v.Lo) rfl _ _ fun h=>?_;show ((⟨zi1 u.Lo (IntKind.u64.wrap (v.Lo+1)),u.Hi⟩:j5),(⟨v.Lo,zo3 v.Hi (IntKind.u64.wrap (u.Hi-1))⟩:j5))=_;rw [zj4,zt8,v7,V8 (by omega) (by omega),v7,V8 (by omega) (by omega)]
def jq5 {nw u v}:zo0 (wk nw u v)=geE u v:=by
 refine yv4 (p:=u.Hi>=v.Lo) rfl _ _ fun h=>?_;show ((⟨zi1 u.Lo v.Lo,u.Hi⟩:j5),(⟨v.Lo,zo3 v.Hi u.Hi⟩:j5))=_;rw [zj4,zt8]
def qe0 (o):zk5 o none (fun x=>some (x.2,x.1))=jj8 o:=by cases o<;>rfl
def jp9 (o:Option (j5×j5)):zk5 o none (fun x=>some (x.1,x.2))=o:=by cases o<;>rfl
def qz0 {op} (g:17<=op/\op<=22) {nw u v} (d:SpOk nw u) (f:SpOk nw v):zn6 (wk nw u v) op=zy6 op u v:=by
 have k:=d.lo;have l:=d.le;have m:=d.hi;have n:=f.lo;have o:=f.le;have q:=f.hi;have r:=zn3 nw;have i:op=17\/op=18\/op=19\/op=20\/op=21\/op=22:=by omega
 rcases i with rfl|rfl|rfl|rfl|rfl|rfl
 ·show zk5 (za3 (zy8 u v).2) none (fun _=>some ((zy8 u v).1,(zy8 u v).1))=if max u.Lo v.Lo<=min u.Hi v.Hi then _ else none
  have e:zy8 u v=if max u.Lo v.Lo<=min u.Hi v.Hi then (⟨max u.Lo v.Lo,min u.Hi v.Hi⟩,true) else (⟨0,0⟩,false):=by
   unfold zy8 q9 za6;rw [zj4,zt8];by_cases c:max u.Lo v.Lo<=min u.Hi v.Hi
   ·rw [if_pos c,W6 c];rfl
   ·rw [if_neg c,W7 c];rfl
  rw [e];by_cases c:max u.Lo v.Lo<=min u.Hi v.Hi
  ·rw [if_pos c,if_pos c];rfl
  ·rw [if_neg c,if_neg c];rfl
 ·refine (yv4 (p:= ¬(u.Lo=u.Hi/\v.Lo=v.Hi/\u.Lo=v.Lo)) ?_ _ (woE u v,woE v u) fun _=>?_).trans ?_
  ·show ((!(qac (wk nw u v)))||(!((u.Lo==v.Lo)&&(u.Hi==v.Hi))))=_;have j: ∀a b:Int,(a==b)=decide (a=b):=fun a b=>by rw [U4];simp
   rw [ya6];by_cases c1:u.Lo=u.Hi<;>by_cases c2:v.Lo=v.Hi<;>simp [c1,c2,wk,j]
  ·show (qq u v,qq v u)=_;rw [js5 d,js5 f]
  ·show _=if u.Lo=u.Hi/\v.Lo=v.Hi/\u.Lo=v.Lo then none else _
   by_cases c:u.Lo=u.Hi/\v.Lo=v.Hi/\u.Lo=v.Lo
   ·rw [if_pos c,if_neg (fun h=>h c)]
   ·rw [if_neg c,if_pos c]
 ·exact jq4 d f
 ·exact jq5
 ·show zk5 (zn9 (wk nw v u)) none (fun x=>some (x.2,x.1))=jj8 (gtE v u);rw [jq4 f d,qe0]
 ·show zk5 (zo0 (wk nw v u)) none (fun x=>some (x.2,x.1))=jj8 (geE v u);rw [jq5,qe0]
def kk2 {op} (f:23<=op/\op<=26) {nw u v} (c:SpOk nw u) (d:SpOk nw v):ye9 (wk nw u v) op=zr4 nw op u v:=by
 have g:=c.lo;have j:=c.le;have k:=c.hi;have i:=d.lo;have l:=d.le;have m:=d.hi;show (if (qav (wk nw u v) u||qav (wk nw u v) v)=true then some (u,v) else if (qw (wk nw u v) u.Lo==qw (wk nw u v) v.Lo)=true then zk5 (zn6 (wk nw u v) (IntKind.u8.wrap (IntKind.u8.wrap (op-23)+19))) none (fun x=>some (x.1,x.2)) else zk5 (za3 (((op==23)||(op==24))==qw (wk nw u v) v.Lo)) none (fun _=>some (u,v)))=_;rw [yz5 c,yz5 d,ym7 (nw:=nw) (a:=u) (b:=v) (x:=u.Lo) ⟨g,by omega⟩,ym7 (nw:=nw) (a:=u) (b:=v) (x:=v.Lo) ⟨i,by omega⟩];rw [show IntKind.u8.wrap (IntKind.u8.wrap (op-23)+19)=op-4 from by rw [zy9,zy9];omega,qz0 (by omega) c d,jp9];unfold zr4;rw [show decide (j9 nw<2*u.Lo)=zc3 nw u.Lo from rfl,show decide (j9 nw<2*u.Hi)=zc3 nw u.Hi from rfl,show decide (j9 nw<2*v.Lo)=zc3 nw v.Lo from rfl,show decide (j9 nw<2*v.Hi)=zc3 nw v.Hi from rfl];simp only [V5,bne_iff_ne,beq_iff_eq];split
 ·rfl
 ·split
  ·rfl
  ·rw [qd9];have:((((op==23)||(op==24))==zc3 nw v.Lo)=true)↔((op=23\/op=24)↔zc3 nw v.Lo=true):=by
    rw [beq_iff_eq,U4];simp
   by_cases e:(op=23\/op=24)↔zc3 nw v.Lo=true
   ·rw [if_pos e,if_pos (this.2 e)]
   ·rw [if_neg e,if_neg (fun h=>e (this.1 h))]
def zai6 {nw yes u v} (d:SpOk nw u) (e:SpOk nw v):yd7 (wk nw u v) yes=zx6 yes u v:=by
 have f:=d.u;have g:=e.u;have c:w9 .u64 u.Lo v.Lo=((u.Lo.toNat&&&v.Lo.toNat:Nat):Int):=zx8 f.1 g.1;cases yes with
 |false=>
  refine (yv4 (p:= ¬(u.Lo=u.Hi/\v.Lo=v.Hi/\u.Lo.toNat&&&v.Lo.toNat≠0)) ?_ _ (u,v) fun _=>rfl).trans ?_
  ·show ((!(qac (wk nw u v)))||(!(w9 .u64 u.Lo v.Lo != 0)))=_;rw [ya6,c];have b:(((u.Lo.toNat&&&v.Lo.toNat:Nat):Int) != 0)=decide (u.Lo.toNat&&&v.Lo.toNat≠0):=by rw [U4,bne_iff_ne,decide_eq_true_eq];omega
   rw [b];by_cases c1:u.Lo=u.Hi<;>by_cases c2:v.Lo=v.Hi<;>simp [c1,c2,wk]
  ·show _=if u.Lo=u.Hi/\v.Lo=v.Hi/\u.Lo.toNat&&&v.Lo.toNat≠0 then none else some (u,v)
   by_cases a:u.Lo=u.Hi/\v.Lo=v.Hi/\u.Lo.toNat&&&v.Lo.toNat≠0
   ·rw [if_pos a,if_neg (fun h=>h a)]
   ·rw [if_neg a,if_pos a]
 |true=>
  refine yv4 (p:=u.Hi>0/\v.Hi>0/\ ¬(u.Lo=u.Hi/\v.Lo=v.Hi/\u.Lo.toNat&&&v.Lo.toNat=0)) ?_ _ _ fun _=>?_
  ·show ((decide (u.Hi>0)&&decide (v.Hi>0))&&((!(qac (wk nw u v)))||(w9 .u64 u.Lo v.Lo != 0)))=_;rw [ya6,c];have b:(((u.Lo.toNat&&&v.Lo.toNat:Nat):Int) != 0)=decide (u.Lo.toNat&&&v.Lo.toNat≠0):=by rw [U4,bne_iff_ne,decide_eq_true_eq];omega
   rw [b];by_cases c1:u.Lo=u.Hi<;>by_cases c2:v.Lo=v.Hi<;>simp [c1,c2,wk,Bool.and_assoc]
  ·show ((⟨zi1 u.Lo 1,u.Hi⟩:j5),(⟨zi1 v.Lo 1,v.Hi⟩:j5))=_;rw [zj4,zj4]
def ug2 {op} (d:17<=op/\op<=27) {nw yes u v} (b:SpOk nw u) (c:SpOk nw v):yt8 (wk nw u v) op yes=qb1 nw op yes u v:=by
 have a: ∀q:Int,17<=q/\q<=26->zl9 (wk nw u v) op yes q=if q>=23 then zr4 nw q u v else zy6 q u v:=by
  intro q f;unfold zl9;rw [jp9,jp9];by_cases h:q>=23
  ·rw [if_pos h,if_pos (by simpa using h),kk2 (by omega) b c]
  ·rw [if_neg h,if_neg (by simpa using h),qz0 (by omega) b c]
 have e:op=17\/op=18\/op=19\/op=20\/op=21\/op=22\/op=23\/op=24\/op=25\/op=26\/op=27:=by omega
 rcases e with rfl|rfl|rfl|rfl|rfl|rfl|rfl|rfl|rfl|rfl|rfl
 case inr.inr.inr.inr.inr.inr.inr.inr.inr.inr=>
  show zk5 (yd7 (wk nw u v) yes) none (fun x=>some (x.1,x.2))=zx6 yes u v;rw [jp9,zai6 b c]
 ·cases yes with
  |true=>exact a 17 (by omega)
  |false=>exact a 18 (by omega)
 ·cases yes with
  |true=>exact a 18 (by omega)
  |false=>exact a 17 (by omega)
 ·cases yes with
  |true=>exact a 19 (by omega)
  |false=>exact a 22 (by omega)
 ·cases yes with
  |true=>exact a 20 (by omega)
  |false=>exact a 21 (by omega)
 ·cases yes with
  |true=>exact a 21 (by omega)
  |false=>exact a 20 (by omega)
 ·cases yes with
  |true=>exact a 22 (by omega)
  |false=>exact a 19 (by omega)
 ·cases yes with
  |true=>exact a 23 (by omega)
  |false=>exact a 26 (by omega)
 ·cases yes with
  |true=>exact a 24 (by omega)
  |false=>exact a 25 (by omega)
 ·cases yes with
  |true=>exact a 25 (by omega)
  |false=>exact a 24 (by omega)
 ·cases yes with
  |true=>exact a 26 (by omega)
  |false=>exact a 23 (by omega)
def jr8 {op} (c:17<=op/\op<=27) {nw yes a b} (f:q8 a.Lo/\q8 a.Hi) (g:q8 b.Lo/\q8 b.Hi) (d:a.Lo<=a.Hi) (e:b.Lo<=b.Hi):
  zr5 op nw yes a b=match qb1 nw op yes (qf a nw) (qf b nw) with|none=>(⟨0,0⟩,⟨0,0⟩,false)|some x=>(if a.Hi>j9 nw then a else x.1,if b.Hi>j9 nw then b else x.2,true):=by
 unfold zr5 q9 za6;rw [if_neg (by simp;omega),vv5];simp only;rw [ug2 c (zm0 f d) (zm0 g e)];cases qb1 nw op yes (qf a nw) (qf b nw) with
 |none=>rfl
 |some x=>
  show (if decide (a.Hi>j9 nw)=true then _ else _)=_;unfold yv7;simp only [decide_eq_true_eq];rw [show (wk nw (qf a nw) (qf b nw)).most=j9 nw from rfl];split<;>split<;>rfl
end Go.Y
namespace Go.Y
open Go.RowKit Go.V Go.X Go.Proofs
def Hs (s:j5) (x:Int):Prop:=s.Lo<=x/\x<=s.Hi
def Wi (s t:j5):Prop:=t.Lo<=s.Lo/\s.Hi<=t.Hi
def kv7 {a c d:Int} (b:0<=a) (e:0<c) (f:c<=d):a/d<=a/c:=by
 rw [Int.le_ediv_iff_mul_le e];have g:0<=a/d:=M9 b (by omega);have h:a/d*c<=a/d*d:=Int.mul_le_mul_of_nonneg_left f g;have i:a/d*d<=a:=Int.ediv_mul_le a (by omega);omega
def jk0 {a b c d:Int} (h:0<=a) (e:a<=b) (f:0<c) (g:c<=d):a/d<=b/c:=
 J3 (Int.ediv_le_ediv (by omega) e) (kv7 (by omega) f g)
def zq7 (k:Nat):(0:Int)<2^k:=V7 (by omega)
def qk6 {j k:Nat} (h:j<=k):(2:Int)^j<=2^k:=by
 have:=N4 (n:=2) (by decide) h;have e: ∀n:Nat,(2:Int)^n=((2^n:Nat):Int):=fun n=>by simp
 rw [e,e];omega
def vg1 {n:Int} (c:0<=n): ∃j:Nat,vg0 n=((2^j:Nat):Int)-1/\n.toNat<2^j/\ ∀k:Nat,n.toNat<2^k->j<=k:=by
 unfold vg0;by_cases a:n=0
 ·subst a;exact ⟨0,by simp,by decide,fun k _=>J7 k⟩
 ·rw [if_neg a];refine ⟨Nat.log2 n.toNat+1,rfl,(Nat.log2_lt (by omega)).1 (Nat.lt_succ_self _),fun k b=>?_⟩;have:=(Nat.log2_lt (n:=n.toNat) (k:=k) (by omega)).2 b;omega
def jo4 {p q:Int}: ∃j:Nat,yu4 p q=((2^j:Nat):Int)-1/\p.toNat<2^j/\q.toNat<2^j/\ ∀k:Nat,p.toNat<2^k->q.toNat<2^k->j<=k:=by
 obtain ⟨j,c,a,b⟩:=vg1 (n:=((p.toNat|||q.toNat:Nat):Int)) (by omega);rw [Z1] at a b;exact ⟨j,c,Nat.lt_of_le_of_lt Nat.left_le_or a,Nat.lt_of_le_of_lt Nat.right_le_or a,fun k d e=>b k (N9 d e)⟩
def qw5 {p q a b:Int} (d:a<=p) (e:b<=q) {x:Nat} (c: ∀k:Nat,a.toNat<2^k->b.toNat<2^k->x<2^k):(x:Int)<=yu4 p q:=by
 obtain ⟨j,f,g,h,_⟩:=jo4 (p:=p) (q:=q);have:=c j (by omega) (by omega);omega
def qc1 {nw:Bool} {p q:Int} (b:0<=p/\p<=j9 nw) (c:0<=q/\q<=j9 nw):max p q<=yu4 p q/\yu4 p q<=j9 nw:=by
 obtain ⟨j,d,f,g,a⟩:=jo4 (p:=p) (q:=q);have h:=yn5 nw;have e:(2:Int)^zf8 nw=((2^zf8 nw:Nat):Int):=by simp
 have:=N4 (n:=2) (by decide) (a (zf8 nw) (by omega) (by omega));omega
def jv5 {nw:Bool} {p:Int} {s:Nat} (d:0<=p/\p<=j9 nw) (c:s<zf8 nw):0<=jc5 nw p s/\jc5 nw p s<=j9 nw:=by
 have f:=yn5 nw;have e:(2:Int)^zf8 nw=((2^zf8 nw:Nat):Int):=by simp
 have:=wm8 (z:=zf8 nw) (a:=p.toNat) (s:=s) (b:=decide (j9 nw<2*p)) (by omega) c;unfold jc5;omega
def je9 {nw:Bool} {p q:Int} {s:Nat} (d:0<=p/\p<=q) (f:q<=j9 nw) (a:s<zf8 nw) (b:j9 nw<2*p↔j9 nw<2*q):jc5 nw p s<=jc5 nw q s:=by
 have g:=yn5 nw;have e:(2:Int)^zf8 nw=((2^zf8 nw:Nat):Int):=by simp
 unfold jc5;rw [ja5 (by omega) a,ja5 (by omega) a,show decide (j9 nw<2*p)=decide (j9 nw<2*q) from by rw [U4,decide_eq_true_eq,decide_eq_true_eq];exact b];have:=Nat.div_le_div_right (c:=2^s) (show p.toNat<=q.toNat by omega);omega
def qv1 {nw:Bool} {op p q x:Int} (i:1<=op/\op<=13) (f:0<=p/\p<=j9 nw) (g:0<=q/\q<=j9 nw) (h:qj1 nw op p q=some x):0<=x/\x<=j9 nw:=by
 have o:=zn3 nw;have j:=yn5 nw;have e:(2:Int)^zf8 nw=((2^zf8 nw:Nat):Int):=by simp
 have a: ∀z:Int,0<=z%(j9 nw+1)/\z%(j9 nw+1)<=j9 nw:=fun z=>by
  have k:=R1 z (show j9 nw+1≠0 by omega);have l:=R8 z (show 0<j9 nw+1 by omega);omega
 have m:op=1\/op=2\/op=3\/op=4\/op=5\/op=6\/op=7\/op=8\/op=9\/op=10\/op=11\/op=12\/op=13:=by omega
 have b:p.toNat<2^zf8 nw:=by omega
 have c:q.toNat<2^zf8 nw:=by omega
 have d: ∀y:Int,0<=y->0<=p/y/\p/y<=p:=fun y n=>⟨M9 f.1 n,T1 _ f.1⟩;rcases m with rfl|rfl|rfl|rfl|rfl|rfl|rfl|rfl|rfl|rfl|rfl|rfl|rfl
 ·obtain rfl:_=x:=X5 h;exact a _
 ·obtain rfl:_=x:=X5 h;exact a _
 ·obtain rfl:_=x:=X5 h;exact a _
 ·have h:(if q=0 then none else some (p/q))=some x:=h;split at h
  ·cases h
  ·obtain rfl:_=x:=X5 h;have:=d q g.1;omega
 ·have h:(if q=0 then none else some (p%q))=some x:=h;split at h
  ·cases h
  ·obtain rfl:_=x:=X5 h;have k:=R1 p (show q≠0 by omega);have l:=R8 p (show 0<q by omega);omega
 ·obtain rfl:((p.toNat&&&q.toNat:Nat):Int)=x:=X5 h;have:p.toNat&&&q.toNat<=p.toNat:=Nat.and_le_left;omega
 ·obtain rfl:((p.toNat|||q.toNat:Nat):Int)=x:=X5 h;have:=N9 b c;omega
 ·obtain rfl:((p.toNat^^^q.toNat:Nat):Int)=x:=X5 h;have:=R6 b c;omega
 ·obtain rfl:_=x:=X5 h;exact a _
 ·obtain rfl:p/2^shN nw q=x:=X5 h;have:=d (2^shN nw q) (J4 (zq7 _));omega
 ·obtain rfl:_=x:=X5 h;exact jv5 f (jm2 nw q)
 ·obtain rfl:q=x:=X5 h;exact g
 ·obtain rfl:_=x:=X5 h;exact a _
def wd8 {M a b c d p q:Int} (e:M=4294967295\/M=18446744073709551615) (f:0<=a/\b<=M/\0<=c/\d<=M) (g:a<=p/\p<=b) (h:c<=q/\q<=d) (i:d<=M-b\/c>M-a):
  (a+c)%(M+1)<=(p+q)%(M+1)/\(p+q)%(M+1)<=(b+d)%(M+1):=by rcases e with rfl|rfl<;>omega
def wn7 {M a b c d p q:Int} (e:M=4294967295\/M=18446744073709551615) (f:0<=a/\b<=M/\0<=c/\d<=M) (g:a<=p/\p<=b) (h:c<=q/\q<=d) (i:a>=d\/b<c):
  (a-d)%(M+1)<=(p-q)%(M+1)/\(p-q)%(M+1)<=(b-c)%(M+1):=by rcases e with rfl|rfl<;>omega
def wi2 {M a b p:Int} (c:M=4294967295\/M=18446744073709551615) (d:0<a/\b<=M) (e:a<=p/\p<=b):
  (0-b)%(M+1)<=(0-p)%(M+1)/\(0-p)%(M+1)<=(0-a)%(M+1)/\0<=(0-p)%(M+1)/\(0-p)%(M+1)<=M:=by rcases c with rfl|rfl<;>omega
def qu4 {nw:Bool} {op:Int} (P:1<=op/\op<=13) {u v r:j5} (F:SpOk nw u) (I:SpOk nw v) (g:jz1 nw op u v=some r):
  SpOk nw r/\ ∀p q x,Hs u p->Hs v q->qj1 nw op p q=some x->Hs r x:=by
 have i:=F.lo;have l:=F.le;have s:=F.hi;have w:=I.lo;have z:=I.le;have D:=I.hi;have V:=zn3 nw;have Q:=yn5 nw;have e:(2:Int)^zf8 nw=((2^zf8 nw:Nat):Int):=by simp
 have R:op=1\/op=2\/op=3\/op=4\/op=5\/op=6\/op=7\/op=8\/op=9\/op=10\/op=11\/op=12\/op=13:=by omega
 have J:=kx6 nw;rcases R with rfl|rfl|rfl|rfl|rfl|rfl|rfl|rfl|rfl|rfl|rfl|rfl|rfl
 ·have g:(if v.Hi<=j9 nw-u.Hi\/v.Lo>j9 nw-u.Lo then some (⟨(u.Lo+v.Lo)%(j9 nw+1),(u.Hi+v.Hi)%(j9 nw+1)⟩:j5) else none)=some r:=g;split at g
  ·rename_i y;obtain rfl:=X5 g;have j: ∀p q,Hs u p->Hs v q->(u.Lo+v.Lo)%(j9 nw+1)<=(p+q)%(j9 nw+1)/\(p+q)%(j9 nw+1)<=(u.Hi+v.Hi)%(j9 nw+1):=
    fun p q c d=>wd8 J ⟨i,s,w,D⟩ c d y
   refine ⟨⟨?_,(J3 (j u.Lo v.Lo ⟨U0 _,l⟩ ⟨U0 _,z⟩).2 (U0 _)),?_⟩,fun p q x c d f=>?_⟩
   ·exact R1 _ (by omega)
   ·have:=R8 (u.Hi+v.Hi) (show 0<j9 nw+1 by omega);show (u.Hi+v.Hi)%(j9 nw+1)<=j9 nw;omega
   ·obtain rfl:(p+q)%(j9 nw+1)=x:=X5 f;exact j p q c d
  ·cases g
 ·have g:(if u.Lo>=v.Hi\/u.Hi<v.Lo then some (⟨(u.Lo-v.Hi)%(j9 nw+1),(u.Hi-v.Lo)%(j9 nw+1)⟩:j5) else none)=some r:=g;split at g
  ·rename_i y;obtain rfl:=X5 g;have j: ∀p q,Hs u p->Hs v q->(u.Lo-v.Hi)%(j9 nw+1)<=(p-q)%(j9 nw+1)/\(p-q)%(j9 nw+1)<=(u.Hi-v.Lo)%(j9 nw+1):=
    fun p q c d=>wn7 J ⟨i,s,w,D⟩ c d y
   refine ⟨⟨?_,(J3 (j u.Lo v.Hi ⟨U0 _,l⟩ ⟨z,U0 _⟩).2 (U0 _)),?_⟩,fun p q x c d f=>?_⟩
   ·exact R1 _ (by omega)
   ·have:=R8 (u.Hi-v.Lo) (show 0<j9 nw+1 by omega);show (u.Hi-v.Lo)%(j9 nw+1)<=j9 nw;omega
   ·obtain rfl:(p-q)%(j9 nw+1)=x:=X5 f;exact j p q c d
  ·cases g
 ·have g:(if u.Hi*v.Hi<=j9 nw then some (⟨u.Lo*v.Lo,u.Hi*v.Hi⟩:j5) else none)=some r:=g;split at g
  ·rename_i y;obtain rfl:=X5 g;have j: ∀p q,Hs u p->Hs v q->u.Lo*v.Lo<=p*q/\p*q<=u.Hi*v.Hi:=fun p q c d=>
    ⟨Int.mul_le_mul c.1 d.1 w (by have:=c.1;omega),Int.mul_le_mul c.2 d.2 (by have:=d.1;omega) (by omega)⟩
   refine ⟨⟨K5 i w,(j u.Lo v.Lo ⟨U0 _,l⟩ ⟨U0 _,z⟩).2,y⟩,fun p q x c d f=>?_⟩;obtain rfl:(p*q)%(j9 nw+1)=x:=X5 f;have:=j p q c d;have X:0<=u.Lo*v.Lo:=K5 i w;rw [V8 (by omega) (by omega)];exact this
  ·cases g
 ·obtain rfl:(⟨u.Lo/max v.Hi 1,u.Hi/max v.Lo 1⟩:j5)=r:=X5 g;have m:0<=u.Lo/max v.Hi 1:=M9 i (by omega);have o:u.Hi/max v.Lo 1<=u.Hi:=T1 _ (by omega);refine ⟨⟨m,jk0 i l (by omega) (by omega),by show u.Hi/max v.Lo 1<=_;omega⟩,fun p q x c d f=>?_⟩;have f:(if q=0 then none else some (p/q))=some x:=f;split at f
  ·cases f
  ·obtain rfl:=X5 f;have:=c.1;have:=c.2;have:=d.1;have:=d.2;exact ⟨jk0 i (by omega) (by omega) (by omega),jk0 (by omega) (by omega) (by omega) (by omega)⟩
 ·obtain rfl:(if u.Hi<max v.Lo 1 then u else (⟨0,min u.Hi (max v.Hi 1-1)⟩:j5))=r:=X5 g;have t: ∀p q x,Hs u p->Hs v q->qj1 nw 5 p q=some x->0<=x/\x<=p/\x<q/\(p<q->x=p):=by
   intro p q x c d f;have f:(if q=0 then none else some (p%q))=some x:=f;split at f
   ·cases f
   ·obtain rfl:=X5 f;have m:=c.1;have o:=d.1;have C:=R1 p (show q≠0 by omega);have E:=R8 p (show 0<q by omega);have N:p%q<=p:=by
     have:=Int.emod_def p q;have Y:0<=q*(p/q):=K5 (by omega) (M9 (by omega) (by omega));omega
    exact ⟨C,N,E,fun h=>V8 (by omega) h⟩
  split
  ·rename_i y;refine ⟨F,fun p q x c d f=>?_⟩;obtain ⟨m,o,C,E⟩:=t p q x c d f;have:=c.2;have:=d.1;rw [E (by omega)];exact c
  ·refine ⟨⟨U0 _,by show (0:Int)<=min u.Hi (max v.Hi 1-1);omega,by show min u.Hi (max v.Hi 1-1)<=_;omega⟩,fun p q x c d f=>?_⟩;obtain ⟨m,o,C,E⟩:=t p q x c d f;have:=c.2;have:=d.2;exact ⟨m,by show x<=min u.Hi (max v.Hi 1-1);omega⟩
 ·obtain rfl:(if u.Lo=u.Hi/\v.Lo=v.Hi then (⟨((u.Lo.toNat&&&v.Lo.toNat:Nat):Int),((u.Lo.toNat&&&v.Lo.toNat:Nat):Int)⟩:j5) else ⟨0,min u.Hi v.Hi⟩)=r:=X5 g;have G: ∀a b:Nat,a&&&b<=a/\a&&&b<=b:=fun a b=>⟨Nat.and_le_left,Nat.and_le_right⟩;split
  ·rename_i y;have C:=G u.Lo.toNat v.Lo.toNat;refine ⟨⟨by show (0:Int)<=((_:Nat):Int);omega,U0 _,by show ((u.Lo.toNat&&&v.Lo.toNat:Nat):Int)<=_;omega⟩,fun p q x c d f=>?_⟩;obtain rfl:((p.toNat&&&q.toNat:Nat):Int)=x:=X5 f;have m:p=u.Lo:=by have:=c.1;have:=c.2;omega
   have o:q=v.Lo:=by have:=d.1;have:=d.2;omega
   subst m;subst o;exact ⟨U0 _,U0 _⟩
  ·refine ⟨⟨U0 _,by show (0:Int)<=min u.Hi v.Hi;omega,by show min u.Hi v.Hi<=_;omega⟩,fun p q x c d f=>?_⟩;obtain rfl:((p.toNat&&&q.toNat:Nat):Int)=x:=X5 f;have C:=G p.toNat q.toNat;have:=c.1;have:=c.2;have:=d.1;have:=d.2;exact ⟨by show (0:Int)<=((_:Nat):Int);omega,by show ((p.toNat&&&q.toNat:Nat):Int)<=min u.Hi v.Hi;omega⟩
 ·obtain rfl:(if u.Lo=u.Hi/\v.Lo=v.Hi then (⟨((u.Lo.toNat|||v.Lo.toNat:Nat):Int),((u.Lo.toNat|||v.Lo.toNat:Nat):Int)⟩:j5) else ⟨max u.Lo v.Lo,yu4 u.Hi v.Hi⟩)=r:=X5 g;have K:=qc1 (nw:=nw) ⟨J3 i l,s⟩ ⟨J3 w z,D⟩;split
  ·rename_i y;have C:=N9 (n:=zf8 nw) (show u.Lo.toNat<_ by omega) (show v.Lo.toNat<_ by omega);refine ⟨⟨by show (0:Int)<=((_:Nat):Int);omega,U0 _,by show ((u.Lo.toNat|||v.Lo.toNat:Nat):Int)<=_;omega⟩,fun p q x c d f=>?_⟩;obtain rfl:((p.toNat|||q.toNat:Nat):Int)=x:=X5 f;have m:p=u.Lo:=by have:=c.1;have:=c.2;omega
   have o:q=v.Lo:=by have:=d.1;have:=d.2;omega
   subst m;subst o;exact ⟨U0 _,U0 _⟩
  ·refine ⟨⟨by show (0:Int)<=max u.Lo v.Lo;omega,by show max u.Lo v.Lo<=yu4 u.Hi v.Hi;omega,K.2⟩,fun p q x c d f=>?_⟩;obtain rfl:((p.toNat|||q.toNat:Nat):Int)=x:=X5 f;have C:p.toNat<=p.toNat|||q.toNat:=Nat.left_le_or;have E:q.toNat<=p.toNat|||q.toNat:=Nat.right_le_or;have:=c.1;have:=d.1;exact ⟨by show max u.Lo v.Lo<=((p.toNat|||q.toNat:Nat):Int);omega,qw5 c.2 d.2 fun k m o=>N9 m o⟩
 ·obtain rfl:(if u.Lo=u.Hi/\v.Lo=v.Hi then (⟨((u.Lo.toNat^^^v.Lo.toNat:Nat):Int),((u.Lo.toNat^^^v.Lo.toNat:Nat):Int)⟩:j5) else ⟨0,yu4 u.Hi v.Hi⟩)=r:=X5 g;have K:=qc1 (nw:=nw) ⟨J3 i l,s⟩ ⟨J3 w z,D⟩;split
  ·rename_i y;have C:=R6 (n:=zf8 nw) (show u.Lo.toNat<_ by omega) (show v.Lo.toNat<_ by omega);refine ⟨⟨by show (0:Int)<=((_:Nat):Int);omega,U0 _,by show ((u.Lo.toNat^^^v.Lo.toNat:Nat):Int)<=_;omega⟩,fun p q x c d f=>?_⟩;obtain rfl:((p.toNat^^^q.toNat:Nat):Int)=x:=X5 f;have m:p=u.Lo:=by have:=c.1;have:=c.2;omega
   have o:q=v.Lo:=by have:=d.1;have:=d.2;omega
   subst m;subst o;exact ⟨U0 _,U0 _⟩
  ·refine ⟨⟨U0 _,by show (0:Int)<=yu4 u.Hi v.Hi;omega,K.2⟩,fun p q x c d f=>?_⟩;obtain rfl:((p.toNat^^^q.toNat:Nat):Int)=x:=X5 f;exact ⟨by show (0:Int)<=((_:Nat):Int);omega,qw5 c.2 d.2 fun k m o=>R6 m o⟩
 ·have g:(if v.Lo=v.Hi/\u.Hi*2^shN nw v.Lo<=j9 nw then some (⟨u.Lo*2^shN nw v.Lo,u.Hi*2^shN nw v.Lo⟩:j5) else none)=some r:=g;split at g
  ·rename_i y;obtain rfl:=X5 g;have H:=zq7 (shN nw v.Lo);refine ⟨⟨K5 i (by omega),R9 l (by omega),y.2⟩,fun p q x c d f=>?_⟩;obtain rfl:(p*2^shN nw q)%(j9 nw+1)=x:=X5 f;have o:q=v.Lo:=by have:=d.1;have:=d.2;omega
   subst o;have C:=R9 c.1 (show (0:Int)<=2^shN nw v.Lo by omega);have E:=R9 c.2 (show (0:Int)<=2^shN nw v.Lo by omega);have N:0<=u.Lo*2^shN nw v.Lo:=K5 i (by omega);rw [V8 (by omega) (by omega)];exact ⟨C,E⟩
  ·cases g
 ·obtain rfl:(if v.Lo=v.Hi then (⟨u.Lo/2^shN nw v.Lo,u.Hi/2^shN nw v.Lo⟩:j5) else if v.Hi>=zf8 nw then ⟨0,u.Hi⟩ else ⟨u.Lo/2^v.Hi.toNat,u.Hi/2^v.Lo.toNat⟩)=r:=X5 g;have A: ∀(a:Int) (k:Nat),0<=a->0<=a/2^k/\a/2^k<=a:=fun a k O=>⟨M9 O (J4 (zq7 _)),T1 _ O⟩;split
  ·have m:=A u.Lo (shN nw v.Lo) i;have o:=A u.Hi (shN nw v.Lo) (by omega);refine ⟨⟨m.1,Int.ediv_le_ediv (zq7 _) l,by show u.Hi/2^shN nw v.Lo<=_;omega⟩,fun p q x c d f=>?_⟩;obtain rfl:p/2^shN nw q=x:=X5 f;have o:q=v.Lo:=by have:=d.1;have:=d.2;omega
   subst o;exact ⟨Int.ediv_le_ediv (zq7 _) c.1,Int.ediv_le_ediv (zq7 _) c.2⟩
  ·split
   ·refine ⟨⟨U0 _,by show (0:Int)<=u.Hi;omega,s⟩,fun p q x c d f=>?_⟩;obtain rfl:p/2^shN nw q=x:=X5 f;have:=A p (shN nw q) (by have:=c.1;omega);have:=c.2;exact ⟨by show (0:Int)<=p/2^shN nw q;omega,by show p/2^shN nw q<=u.Hi;omega⟩
   ·have m:=A u.Lo v.Hi.toNat i;have o:=A u.Hi v.Lo.toNat (by omega);refine ⟨⟨m.1,jk0 i l (zq7 _) (qk6 (by omega)),by show u.Hi/2^v.Lo.toNat<=_;omega⟩,fun p q x c d f=>?_⟩;obtain rfl:p/2^shN nw q=x:=X5 f;have S:=d.1;have T:=d.2;have U:shN nw q=q.toNat:=by unfold shN;rw [V8 (by omega) (by omega)]
    rw [U];exact ⟨jk0 i c.1 (zq7 _) (qk6 (by omega)),jk0 (by have:=c.1;omega) c.2 (zq7 _) (qk6 (by omega))⟩
 ·have g:(if v.Lo=v.Hi/\(j9 nw<2*u.Lo↔j9 nw<2*u.Hi) then some (⟨jc5 nw u.Lo (shN nw v.Lo),jc5 nw u.Hi (shN nw v.Lo)⟩:j5) else none)=some r:=g;split at g
  ·rename_i y;obtain rfl:=X5 g;have B:=jm2 nw v.Lo;refine ⟨⟨(jv5 ⟨i,by omega⟩ B).1,je9 ⟨i,l⟩ s B y.2,(jv5 ⟨by omega,s⟩ B).2⟩,fun p q x c d f=>?_⟩;obtain rfl:jc5 nw p (shN nw q)=x:=X5 f;have o:q=v.Lo:=by have:=d.1;have:=d.2;omega
   subst o;have L:=c.1;have H:=c.2;exact ⟨je9 ⟨i,L⟩ (by omega) B (by omega),je9 ⟨by omega,H⟩ s B (by omega)⟩
  ·cases g
 ·obtain rfl:v=r:=X5 g;refine ⟨I,fun p q x c d f=>?_⟩;obtain rfl:q=x:=X5 f;exact d
 ·have g:(if u.Hi=0 then some u else if u.Lo>0 then some (⟨(0-u.Hi)%(j9 nw+1),(0-u.Lo)%(j9 nw+1)⟩:j5) else none)=some r:=g;have t: ∀p q x,qj1 nw 13 p q=some x->x=(0-p)%(j9 nw+1):=fun p q x f=>(X5 f).symm;split at g
  ·rename_i y;obtain rfl:=X5 g;refine ⟨F,fun p q x c d f=>?_⟩;have m:p=0:=by have:=c.1;have:=c.2;omega
   rw [t p q x f,m,show (0:Int)-0=0 from rfl,Int.zero_emod];exact ⟨by omega,by omega⟩
  ·split at g
   ·rename_i y M;obtain rfl:=X5 g;have j: ∀p,Hs u p->(0-u.Hi)%(j9 nw+1)<=(0-p)%(j9 nw+1)/\(0-p)%(j9 nw+1)<=(0-u.Lo)%(j9 nw+1)/\0<=(0-p)%(j9 nw+1)/\(0-p)%(j9 nw+1)<=j9 nw:=
     fun p c=>wi2 J ⟨M,s⟩ c
    refine ⟨⟨(j u.Hi ⟨l,U0 _⟩).2.2.1,(j u.Hi ⟨l,U0 _⟩).2.1,(j u.Lo ⟨U0 _,l⟩).2.2.2⟩,fun p q x c d f=>?_⟩;rw [t p q x f];exact ⟨(j p c).1,(j p c).2.1⟩
   ·cases g
def jn9 {s:j5} {nw:Bool} {p:Int} (h:q8 s.Lo/\q8 s.Hi) (a:Hs s p):Hs (qf s nw) (yc5 nw p):=by
 cases nw with
 |false=>exact a
 |true=>
  have c:=a.1;have d:=a.2;unfold qf;simp only [W9,U1,if_false,wd0,yk1 h.1,yk1 h.2];show Hs _ (p%4294967296);split
  ·exact ⟨by show (0:Int)<=_;omega,by show p%4294967296<=(4294967295:Int);omega⟩
  ·rename_i b;have b:s.Lo/4294967296=s.Hi/4294967296:=by simpa using b
   exact ⟨by show s.Lo%4294967296<=_;omega,by show _<=s.Hi%4294967296;omega⟩
def js9 {op:Int} (c:1<=op/\op<=13) {nw:Bool} {a b:j5} (l:q8 a.Lo/\q8 a.Hi) (m:q8 b.Lo/\q8 b.Hi) (f:a.Lo<=a.Hi) (g:b.Lo<=b.Hi):
  SpOk nw (span_Do op nw a b)/\ ∀p q,q8 p->q8 q->Hs a p->Hs b q->(za4 op nw p q).2=0->Hs (span_Do op nw a b) (za4 op nw p q).1:=by
 have n:=zm0 (nw:=nw) l f;have o:=zm0 (nw:=nw) m g;rw [zs2,if_pos ⟨c,f,g⟩,qg6 c n o];have i: ∀p q,q8 p->q8 q->(za4 op nw p q).2=0->qj1 nw op (yc5 nw p) (yc5 nw q)=some (za4 op nw p q).1:=by
  intro p q d e h;rw [zm1 c d e] at h⊢;cases hx:qj1 nw op (yc5 nw p) (yc5 nw q) with
  |none=>rw [hx] at h;exact absurd h (by decide)
  |some x=>rfl
 cases hr:jz1 nw op (qf a nw) (qf b nw) with
 |none=>
  refine ⟨⟨U0 _,(zn3 nw).1,U0 _⟩,fun p q d e _ _ h=>?_⟩;exact qv1 c (jn8 d) (jn8 e) (i p q d e h)
 |some r=>
  obtain ⟨s,t⟩:=qu4 c n o hr;exact ⟨s,fun p q d e j k h=>t _ _ _ (jn9 l j) (jn9 m k) (i p q d e h)⟩
end Go.Y
namespace Go.Y
open Go.RowKit Go.V Go.X
def j6 {R} (c:Bool) (x y:Option R):z9 c x y=if c=true then x else y:=rfl
def j4 {R} (x y:Option R):z9 true x y=x:=rfl
def z8 {R} (x y:Option R):z9 false x y=y:=rfl
def z5 {α b} (a:α) (f:α->Option b):z6 (some a) f=f a:=rfl
def zb5 {R} (c:Bool) (x y:R):z9 c (some x) (some y)=some (if c=true then x else y):=by cases c<;>rfl
def zy3 (c x):z9 c (some x) (some false)=some (c&&x):=by cases c<;>rfl
def za1 {x} (h: -9223372036854775808<=x/\x<=9223372036854775807):IntKind.i64.wrap x=x:=by
 unfold IntKind.wrap;simp [IntKind.bits,IntKind.signed];omega
def zf4 {x} (h:0<=x/\x<=18446744073709551615):IntKind.u64.wrap x=x:=by
 unfold IntKind.wrap;simp [IntKind.bits,IntKind.signed];omega
def loop {α} (f:Nat->Nat->Option α) (c len:Nat) (r:Option α) (a: ∀n k,k<len->f (n+c) k=f n (k+1)) (b: ∀n,f (n+1) len=r): ∀m k n,k+m=len->c*m+1<=n->f n k=r
 |0,k,n,g,e=>by
  obtain ⟨d,rfl⟩: ∃d,n=d+1:=⟨n-1,by omega⟩;have:k=len:=by omega
  subst this;exact b d
 |m+1,k,n,g,e=>by
  obtain ⟨d,rfl⟩: ∃d,n=d+c:=⟨n-c,by rw [Nat.mul_succ] at e;omega⟩;rw [a d k (by omega)];exact loop f c len r a b m (k+1) d (by omega) (by rw [Nat.mul_succ] at e;omega)
def vi0 {α} (f:Nat->Nat->Option α) (c len:Nat) (r:Option α) (a: ∀n k,k<len->f (n+c) k=f n (k+1)) (b: ∀n,f (n+1) len=r) (n:Nat) (d:c*len+1<=n):f n 0=r:=loop f c len r a b len 0 n (by omega) d
def wr4 {α} (f:Nat->Nat->Option α) (c len:Nat) (r:Nat->Option α) (a: ∀n k,k<len->f (n+c) k=r k\/(f (n+c) k=f n (k+1)/\r k=r (k+1))) (b: ∀n,f (n+1) len=r len): ∀m k n,k+m=len->c*m+1<=n->f n k=r k
 |0,k,n,g,e=>by
  obtain ⟨d,rfl⟩: ∃d,n=d+1:=⟨n-1,by omega⟩;have:k=len:=by omega
  subst this;exact b d
 |m+1,k,n,g,e=>by
  obtain ⟨d,rfl⟩: ∃d,n=d+c:=⟨n-c,by rw [Nat.mul_succ] at e;omega⟩;rcases a d k (by omega) with h|⟨i,j⟩
  ·exact h
  ·rw [i,j];exact wr4 f c len r a b m (k+1) d (by omega) (by rw [Nat.mul_succ] at e;omega)
def nx {k len:Nat} (h:k<len) (a:len<=1000000000):IntKind.i64.wrap ((k:Int)+1)=((k+1:Nat):Int):=by rw [za1 (by omega)];omega
end Go.Y
