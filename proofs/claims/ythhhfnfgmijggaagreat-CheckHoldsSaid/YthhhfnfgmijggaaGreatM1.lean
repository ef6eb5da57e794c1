import Derived.Test.YthhhfnfgmijggaaGreatTb
import Derived.Test.YthhhfnfgmijggaaGreatAB
set_option linter.defProp false
namespace Go.Y
open Go.RowKit Go.V Go.X Go.Proofs
abbrev j6:=Go.X.Span
instance:Inhabited j6:=⟨⟨0,0⟩⟩
structure Twork where
 a:j6
 b:j6
 narrow:Bool
 most:Int
 size:Int
def zn0 (a:Int):j6:=(⟨a,a⟩:j6)
def zg8 (a:Bool):j6:=(if a then (⟨(0:Int),(4294967295:Int)⟩:j6) else (⟨(0:Int),(18446744073709551615:Int)⟩:j6))
def q9 (a:j6):Bool:=decide (a.Lo<=a.Hi)
def ya5 (a:j6) (b:Int):Bool:=((decide (a.Lo<=b))&&(decide (b<=a.Hi)))
def ym5 (a:j6) (b:j6):Bool:=((decide (b.Lo<=a.Lo))&&(decide (a.Hi<=b.Hi)))
def zf0 (a:j6) (b:j6):j6:=(⟨(zo7 a.Lo b.Lo),(zh7 a.Hi b.Hi)⟩:j6)
def zx6 (a:j6) (b:j6):(j6×Bool):=(za5 (q9 (⟨(zh7 a.Lo b.Lo),(zo7 a.Hi b.Hi)⟩:j6)) fun c=>(if (!c) then ((⟨(0:Int),(0:Int)⟩:j6),false) else ((⟨(zh7 a.Lo b.Lo),(zo7 a.Hi b.Hi)⟩:j6),true)))
def za3 (a:Bool):Option Unit:=(if (!a) then none else some ())
def qh (a:j6) (c:Bool):j6:=(if (!c) then a else (if ((za6 .u64 a.Lo (32:Int)) != (za6 .u64 a.Hi (32:Int))) then (za5 (zg8 true) fun b=>b) else (⟨(g9 .u64 a.Lo (4294967295:Int)),(g9 .u64 a.Hi (4294967295:Int))⟩:j6)))
def qy (b:j6):Bool:=(za5 (zn0 b.Lo) fun a=>((b.Lo==a.Lo)&&(b.Hi==a.Hi)))
def qan (a:Bool) (b:j6) (c:j6):Twork:=(if a then (⟨(qh b a),(qh c a),a,(4294967295:Int),(32:Int)⟩:Twork) else (⟨(qh b a),(qh c a),a,(18446744073709551615:Int),(64:Int)⟩:Twork))
def qag (d:Twork):Bool:=(za5 (qy d.a) fun c=>(c&&(qy d.b)))
def qbw (a:Twork) (b:Int) (c:Int):j6:=(⟨(g9 .u64 b a.most),(g9 .u64 c a.most)⟩:j6)
def qaa (a:Twork) (b:Int):Bool:=((g9 .u64 (za6 .u64 b (IntKind.u64.wrap (a.size-(1:Int)))) (1:Int))==(1:Int))
def qav (c:Twork) (d:j6):Bool:=(za5 (qaa c d.Lo) fun a=>(za5 (qaa c d.Hi) fun b=>(a != b)))
def ku3 (a:Int) (c1:Int):Int:=(IntKind.u32.wrap (a+c1))
def kv7 (a:Int) (c1:Int):Int:=(IntKind.u32.wrap (a-c1))
def ku6 (a:Int) (c1:Int):Int:=(IntKind.u32.wrap (a*c1))
def kt4 (a:Int) (c1:Int):Int:=(IntKind.u32.wrap ((a).tdiv c1))
def gb2 (a:Int) (c1:Int):Int:=((a).tmod c1)
def ga3 (a:Int) (c1:Int):Int:=(g9 .u32 a c1)
def gc0 (a:Int) (c1:Int):Int:=(bOr .u32 a c1)
def kw4 (a:Int) (c1:Int):Int:=(yl9 .u32 a c1)
def kw2 (a:Int) (c1:Int) (c2:Int):Int:=(zr4 .u32 a ((c1).tmod c2))
def kj5 (a:Int) (c1:Int) (c2:Int):Int:=(za6 .u32 a ((c1).tmod c2))
def yp9 (a:Int) (c1:Int) (c2:Int):Int:=(IntKind.u32.wrap (za6 .i32 (IntKind.i32.wrap a) ((c1).tmod c2)))
def vz4 (a:Int):Int:=a
def kk2 (a:Int):Int:=(IntKind.u32.wrap (0-a))
def yx0 (a:Int) (q:Int) (c:Int) (b:Int):(Int×Int):=(if (((a==(4:Int))||(a==(5:Int)))&&(b==(0:Int))) then ((0:Int),(113:Int)) else (if (a==(1:Int)) then (za5 (ku3 c b) fun d=>(d,(0:Int))) else (if (a==(2:Int)) then (za5 (kv7 c b) fun e=>(e,(0:Int))) else (if (a==(3:Int)) then (za5 (ku6 c b) fun f=>(f,(0:Int))) else (if (a==(4:Int)) then (za5 (kt4 c b) fun g=>(g,(0:Int))) else (if (a==(5:Int)) then (za5 (gb2 c b) fun h=>(h,(0:Int))) else (if (a==(6:Int)) then (za5 (ga3 c b) fun i=>(i,(0:Int))) else (if (a==(7:Int)) then (za5 (gc0 c b) fun j=>(j,(0:Int))) else (if (a==(8:Int)) then (za5 (kw4 c b) fun k=>(k,(0:Int))) else (if (a==(9:Int)) then (za5 (kw2 c b q) fun l=>(l,(0:Int))) else (if (a==(10:Int)) then (za5 (kj5 c b q) fun m=>(m,(0:Int))) else (if (a==(11:Int)) then (za5 (yp9 c b q) fun n=>(n,(0:Int))) else (if (a==(12:Int)) then (za5 (vz4 b) fun o=>(o,(0:Int))) else (if (a==(13:Int)) then (za5 (kk2 c) fun p=>(p,(0:Int))) else ((0:Int),(2:Int))))))))))))))))
def kv8 (a:Int) (c1:Int):Int:=(IntKind.u64.wrap (a+c1))
def gb8 (a:Int) (c1:Int):Int:=(IntKind.u64.wrap (a-c1))
def ge4 (a:Int) (c1:Int):Int:=(IntKind.u64.wrap (a*c1))
def kt9 (a:Int) (c1:Int):Int:=(IntKind.u64.wrap ((a).tdiv c1))
def kt8 (a:Int) (c1:Int):Int:=((a).tmod c1)
def gd0 (a:Int) (c1:Int):Int:=(g9 .u64 a c1)
def gd5 (a:Int) (c1:Int):Int:=(bOr .u64 a c1)
def gf1 (a:Int) (c1:Int):Int:=(yl9 .u64 a c1)
def gf4 (a:Int) (c1:Int) (c2:Int):Int:=(zr4 .u64 a ((c1).tmod c2))
def kk4 (a:Int) (c1:Int) (c2:Int):Int:=(za6 .u64 a ((c1).tmod c2))
def ka0 (a:Int) (c1:Int) (c2:Int):Int:=(IntKind.u64.wrap (za6 .i64 (IntKind.i64.wrap a) ((c1).tmod c2)))
def ki7 (a:Int):Int:=a
def kk5 (a:Int):Int:=(IntKind.u64.wrap (0-a))
def jy4 (a:Int) (q:Int) (c:Int) (b:Int):(Int×Int):=(if (((a==(4:Int))||(a==(5:Int)))&&(b==(0:Int))) then ((0:Int),(113:Int)) else (if (a==(1:Int)) then (za5 (kv8 c b) fun d=>(d,(0:Int))) else (if (a==(2:Int)) then (za5 (gb8 c b) fun e=>(e,(0:Int))) else (if (a==(3:Int)) then (za5 (ge4 c b) fun f=>(f,(0:Int))) else (if (a==(4:Int)) then (za5 (kt9 c b) fun g=>(g,(0:Int))) else (if (a==(5:Int)) then (za5 (kt8 c b) fun h=>(h,(0:Int))) else (if (a==(6:Int)) then (za5 (gd0 c b) fun i=>(i,(0:Int))) else (if (a==(7:Int)) then (za5 (gd5 c b) fun j=>(j,(0:Int))) else (if (a==(8:Int)) then (za5 (gf1 c b) fun k=>(k,(0:Int))) else (if (a==(9:Int)) then (za5 (gf4 c b q) fun l=>(l,(0:Int))) else (if (a==(10:Int)) then (za5 (kk4 c b q) fun m=>(m,(0:Int))) else (if (a==(11:Int)) then (za5 (ka0 c b q) fun n=>(n,(0:Int))) else (if (a==(12:Int)) then (za5 (ki7 b) fun o=>(o,(0:Int))) else (if (a==(13:Int)) then (za5 (kk5 c) fun p=>(p,(0:Int))) else ((0:Int),(2:Int))))))))))))))))
def za4 (b:Int) (f:Bool) (c:Int) (d:Int):(Int×Int):=(if f then (za5 (yx0 b (32:Int) (IntKind.u32.wrap c) (IntKind.u32.wrap d)) fun e=>((e.1),e.2)) else (za5 (jy4 b (64:Int) c d) fun a=>(a.1,a.2)))
def ji3 (b:j6) (d:j6) (c:Bool) (a:Int):j6:=(if (b.Hi==d.Lo) then (⟨a,(IntKind.u64.wrap (b.Hi-(1:Int)))⟩:j6) else (⟨a,b.Hi⟩:j6))
def qx (a:j6) (c:j6):j6:=(za5 (qy a) fun b=>(if (b||(!(qy c))) then a else (if (a.Lo==c.Lo) then (ji3 a c b (IntKind.u64.wrap (a.Lo+(1:Int)))) else (ji3 a c b a.Lo))))
def qcm (c:Twork):Twork:=(⟨c.b,c.a,c.narrow,c.most,c.size⟩:Twork)
def zs5 (c:Twork):Option j6:=(zk1 (za3 ((decide (c.b.Hi<=(IntKind.u64.wrap (c.most-c.a.Hi))))||(decide (c.b.Lo>(IntKind.u64.wrap (c.most-c.a.Lo)))))) (none) fun _=>(za5 (qbw c (IntKind.u64.wrap (c.a.Lo+c.b.Lo)) (IntKind.u64.wrap (c.a.Hi+c.b.Hi))) fun d=>some d))
def zs2 (c:Twork):Option j6:=(zk1 (za3 ((decide (c.a.Lo>=c.b.Hi))||(decide (c.a.Hi<c.b.Lo)))) (none) fun _=>(za5 (qbw c (IntKind.u64.wrap (c.a.Lo-c.b.Hi)) (IntKind.u64.wrap (c.a.Hi-c.b.Lo))) fun d=>some d))
def qcp (c:Twork):j6:=(⟨(IntKind.u64.wrap ((c.a.Lo).tdiv (zh7 c.b.Hi (1:Int)))),(IntKind.u64.wrap ((c.a.Hi).tdiv (zh7 c.b.Lo (1:Int))))⟩:j6)
def qcq (c:Twork):j6:=(if decide (c.a.Hi<(zh7 c.b.Lo (1:Int))) then c.a else (⟨(0:Int),(zo7 c.a.Hi (IntKind.u64.wrap ((zh7 c.b.Hi (1:Int))-(1:Int))))⟩:j6))
def qce (c:Twork):j6:=(za5 (qag c) fun d=>(if d then (za5 (zn0 (g9 .u64 c.a.Lo c.b.Lo)) fun e=>e) else (⟨(0:Int),(zo7 c.a.Hi c.b.Hi)⟩:j6)))
def qcr (a:Twork):j6:=a.b
def zj8 (b:Twork):Option j6:=(if (b.a.Hi==(0:Int)) then some b.a else (zk1 (za3 (decide (b.a.Lo>(0:Int)))) (none) fun _=>(za5 (qbw b (IntKind.u64.wrap (0-b.a.Hi)) (IntKind.u64.wrap (0-b.a.Lo))) fun c=>some c)))
def zr8 (c:Twork):Option j6:=(za5 (qy c.b) fun d=>(zk1 (za3 (d&&(decide (c.a.Hi<=(za6 .u64 c.most ((c.b.Lo).tmod c.size)))))) (none) fun _=>some (⟨(zr4 .u64 c.a.Lo ((c.b.Lo).tmod c.size)),(zr4 .u64 c.a.Hi ((c.b.Lo).tmod c.size))⟩:j6)))
def jj7 (d:Twork) (b:Int) (c:Int):j6:=(⟨(za6 .u64 d.a.Lo b),(za6 .u64 d.a.Hi c)⟩:j6)
def qau (c:Twork):j6:=(za5 (qy c.b) fun d=>(if d then (jj7 c ((c.b.Hi).tmod c.size) ((c.b.Lo).tmod c.size)) else (if decide (c.b.Hi>=c.size) then (⟨(0:Int),c.a.Hi⟩:j6) else (jj7 c c.b.Hi c.b.Lo))))
def zs1 (c:Twork):Option j6:=(za5 (qy c.b) fun d=>(zk1 (za3 (d&&(!(qav c c.a)))) (none) fun _=>(za5 (za4 (11:Int) c.narrow c.a.Lo c.b.Lo) fun e=>(za5 (za4 (11:Int) c.narrow c.a.Hi c.b.Lo) fun f=>some (⟨e.1,f.1⟩:j6)))))
def yd0 (c:Twork) (e:Bool):Option (j6×j6):=(if (!e) then (za5 (qag c) fun d=>(zk1 (za3 ((!d)||(!((g9 .u64 c.a.Lo c.b.Lo) != (0:Int))))) (none) fun _=>some (c.a,c.b))) else (zk1 (za3 (((decide (c.a.Hi>(0:Int)))&&(decide (c.b.Hi>(0:Int))))&&((!(qag c))||((g9 .u64 c.a.Lo c.b.Lo) != (0:Int))))) (none) fun _=>some ((⟨(zh7 c.a.Lo (1:Int)),c.a.Hi⟩:j6),(⟨(zh7 c.b.Lo (1:Int)),c.b.Hi⟩:j6))))
def tab0:List Int:= [0,1,2,2,3,3,3,3,4,4,4,4,4,4,4,4,5,5,5,5,5,5,5,5,5,5,5,5,5,5,5,5,6,6,6,6,6,6,6,6,6,6,6,6,6,6,6,6,6,6,6,6,6,6,6,6,6,6,6,6,6,6,6,6,7,7,7,7,7,7,7,7,7,7,7,7,7,7,7,7,7,7,7,7,7,7,7,7,7,7,7,7,7,7,7,7,7,7,7,7,7,7,7,7,7,7,7,7,7,7,7,7,7,7,7,7,7,7,7,7,7,7,7,7,7,7,7,7,8,8,8,8,8,8,8,8,8,8,8,8,8,8,8,8,8,8,8,8,8,8,8,8,8,8,8,8,8,8,8,8,8,8,8,8,8,8,8,8,8,8,8,8,8,8,8,8,8,8,8,8,8,8,8,8,8,8,8,8,8,8,8,8,8,8,8,8,8,8,8,8,8,8,8,8,8,8,8,8,8,8,8,8,8,8,8,8,8,8,8,8,8,8,8,8,8,8,8,8,8,8,8,8,8,8,8,8,8,8,8,8,8,8,8,8,8,8,8,8,8,8,8,8,8,8,8,8]
def jr0 (a:Int):Int:=(if decide (a>=(4294967296:Int)) then (if decide ((za6 .u64 a (32:Int))>=(65536:Int)) then (if decide ((za6 .u64 (za6 .u64 a (32:Int)) (16:Int))>=(256:Int)) then ((56:Int)+((tab0.getD (IntKind.u8.wrap (za6 .u64 (za6 .u64 (za6 .u64 a (32:Int)) (16:Int)) (8:Int))).toNat 0))) else ((48:Int)+((tab0.getD (IntKind.u8.wrap (za6 .u64 (za6 .u64 a (32:Int)) (16:Int))).toNat 0)))) else (if decide ((za6 .u64 a (32:Int))>=(256:Int)) then ((40:Int)+((tab0.getD (IntKind.u8.wrap (za6 .u64 (za6 .u64 a (32:Int)) (8:Int))).toNat 0))) else ((32:Int)+((tab0.getD (IntKind.u8.wrap (za6 .u64 a (32:Int))).toNat 0))))) else (if decide (a>=(65536:Int)) then (if decide ((za6 .u64 a (16:Int))>=(256:Int)) then ((24:Int)+((tab0.getD (IntKind.u8.wrap (za6 .u64 (za6 .u64 a (16:Int)) (8:Int))).toNat 0))) else ((16:Int)+((tab0.getD (IntKind.u8.wrap (za6 .u64 a (16:Int))).toNat 0)))) else (if decide (a>=(256:Int)) then ((8:Int)+((tab0.getD (IntKind.u8.wrap (za6 .u64 a (8:Int))).toNat 0))) else ((0:Int)+((tab0.getD (IntKind.u8.wrap a).toNat 0))))))
def ye5 (a:Int) (b:Int):(Int×Int):=((IntKind.u64.wrap ((IntKind.u64.wrap ((IntKind.u64.wrap ((za6 .u64 a (32:Int))*(za6 .u64 b (32:Int))))+(za6 .u64 (IntKind.u64.wrap ((IntKind.u64.wrap ((za6 .u64 a (32:Int))*(g9 .u64 b (4294967295:Int))))+(za6 .u64 (IntKind.u64.wrap ((g9 .u64 a (4294967295:Int))*(g9 .u64 b (4294967295:Int)))) (32:Int)))) (32:Int))))+(za6 .u64 (IntKind.u64.wrap ((g9 .u64 (IntKind.u64.wrap ((IntKind.u64.wrap ((za6 .u64 a (32:Int))*(g9 .u64 b (4294967295:Int))))+(za6 .u64 (IntKind.u64.wrap ((g9 .u64 a (4294967295:Int))*(g9 .u64 b (4294967295:Int)))) (32:Int)))) (4294967295:Int))+(IntKind.u64.wrap ((g9 .u64 a (4294967295:Int))*(za6 .u64 b (32:Int)))))) (32:Int)))),(IntKind.u64.wrap (a*b)))
def qcf (a:Int):Int:=(za5 (jr0 a) fun b=>(IntKind.u64.wrap ((zr4 .u64 (1:Int) b)-(1:Int))))
def qcg (c:Twork):j6:=(za5 (qag c) fun d=>(if d then (za5 (zn0 (bOr .u64 c.a.Lo c.b.Lo)) fun e=>e) else (⟨(zh7 c.a.Lo c.b.Lo),(qcf (bOr .u64 c.a.Hi c.b.Hi))⟩:j6)))
def qch (c:Twork):j6:=(za5 (qag c) fun d=>(if d then (za5 (zn0 (yl9 .u64 c.a.Lo c.b.Lo)) fun e=>e) else (za5 (qcf (bOr .u64 c.a.Hi c.b.Hi)) fun f=>(⟨(0:Int),f⟩:j6))))
def zs3 (d:Twork):Option j6:=(za5 (ye5 d.a.Hi d.b.Hi) fun c=>(zk1 (za3 ((c.1==(0:Int))&&(decide (c.2<=d.most)))) (none) fun _=>some (⟨(IntKind.u64.wrap (d.a.Lo*d.b.Lo)),c.2⟩:j6)))
def zn7 (c:Twork):Option (j6×j6):=(zk1 (za3 (decide (c.a.Hi>c.b.Lo))) (none) fun _=>some ((⟨(zh7 c.a.Lo (IntKind.u64.wrap (c.b.Lo+(1:Int)))),c.a.Hi⟩:j6),(⟨c.b.Lo,(zo7 c.b.Hi (IntKind.u64.wrap (c.a.Hi-(1:Int))))⟩:j6)))
def zn6 (c:Twork):Option (j6×j6):=(zk1 (za3 (decide (c.a.Hi>=c.b.Lo))) (none) fun _=>some ((⟨(zh7 c.a.Lo c.b.Lo),c.a.Hi⟩:j6),(⟨c.b.Lo,(zo7 c.b.Hi c.a.Hi)⟩:j6)))
def jv2 (x:Int):Bool:=(x==(1:Int))||(x==(2:Int))||(x==(3:Int))||(x==(4:Int))||(x==(5:Int))||(x==(6:Int))||(x==(7:Int))||(x==(8:Int))||(x==(9:Int))||(x==(10:Int))||(x==(11:Int))||(x==(12:Int))||(x==(13:Int))
def span_Do (b:Int) (c:Bool) (r:j6) (s:j6):j6:=(if (((!(jv2 b))||(!(q9 r)))||(!(q9 s))) then (za5 (zg8 c) fun q=>q) else (za5 (qan c r s) fun a=>(if (b==(1:Int)) then (zk1 (zs5 a) ((zg8 c)) fun d=>d) else (if (b==(2:Int)) then (zk1 (zs2 a) ((zg8 c)) fun e=>e) else (if (b==(3:Int)) then (zk1 (zs3 a) ((zg8 c)) fun f=>f) else (if (b==(4:Int)) then (za5 (qcp a) fun g=>g) else (if (b==(5:Int)) then (za5 (qcq a) fun h=>h) else (if (b==(6:Int)) then (za5 (qce a) fun i=>i) else (if (b==(7:Int)) then (za5 (qcg a) fun j=>j) else (if (b==(8:Int)) then (za5 (qch a) fun k=>k) else (if (b==(9:Int)) then (zk1 (zr8 a) ((zg8 c)) fun l=>l) else (if (b==(10:Int)) then (za5 (qau a) fun m=>m) else (if (b==(11:Int)) then (zk1 (zs1 a) ((zg8 c)) fun n=>n) else (if (b==(12:Int)) then (za5 (qcr a) fun o=>o) else (if (b==(13:Int)) then (zk1 (zj8 a) ((zg8 c)) fun p=>p) else default)))))))))))))))
def zn4 (c:Twork) (g:Int):Option (j6×j6):=(if (g==(17:Int)) then (za5 (zx6 c.a c.b) fun f=>(zk1 (za3 f.2) (none) fun _=>some (f.1,f.1))) else (if (g==(18:Int)) then (za5 (qag c) fun h=>(zk1 (za3 ((!h)||(!((c.a.Lo==c.b.Lo)&&(c.a.Hi==c.b.Hi))))) (none) fun _=>(za5 (qx c.b c.a) fun i=>some ((qx c.a c.b),i)))) else (if (g==(19:Int)) then (zk1 (za3 (decide (c.a.Hi>c.b.Lo))) (none) fun _=>some ((⟨(zh7 c.a.Lo (IntKind.u64.wrap (c.b.Lo+(1:Int)))),c.a.Hi⟩:j6),(⟨c.b.Lo,(zo7 c.b.Hi (IntKind.u64.wrap (c.a.Hi-(1:Int))))⟩:j6))) else (if (g==(20:Int)) then (zk1 (za3 (decide (c.a.Hi>=c.b.Lo))) (none) fun _=>some ((⟨(zh7 c.a.Lo c.b.Lo),c.a.Hi⟩:j6),(⟨c.b.Lo,(zo7 c.b.Hi c.a.Hi)⟩:j6))) else (if (g==(21:Int)) then (za5 (qcm c) fun j=>(zk1 (zn7 j) (none) fun d=>some (d.2,d.1))) else (if (g==(22:Int)) then (za5 (qcm c) fun k=>(zk1 (zn6 k) (none) fun e=>some (e.2,e.1))) else some ((⟨(0:Int),(0:Int)⟩:j6),(⟨(0:Int),(0:Int)⟩:j6))))))))
def ye0 (c:Twork) (h:Int):Option (j6×j6):=(za5 (qav c c.a) fun i=>(if (i||(qav c c.b)) then some (c.a,c.b) else (za5 (qaa c c.a.Lo) fun e=>(za5 (qaa c c.b.Lo) fun f=>(if (e==f) then (zk1 (zn4 c (IntKind.u8.wrap ((IntKind.u8.wrap (h-(23:Int)))+(19:Int)))) (none) fun d=>some (d.1,d.2)) else (za5 (qaa c c.b.Lo) fun g=>(zk1 (za3 (((h==(23:Int))||(h==(24:Int)))==g)) (none) fun _=>some (c.a,c.b))))))))
def jl7:Unit:=()
def zl4 (d:Twork) (e:Int) (f:Bool) (a:Int):Option (j6×j6):=(if decide (a>=(23:Int)) then (zk1 (ye0 d a) (none) fun c=>some (c.1,c.2)) else (zk1 (zn4 d a) (none) fun b=>some (b.1,b.2)))
def ys8 (d:Twork) (a:Int) (c:Bool):Option (j6×j6):=(if (a==(27:Int)) then (zk1 (yd0 d c) (none) fun b=>some (b.1,b.2)) else (if (!c) then (za5 (jl7) fun _=>(zl4 d a c (([(0:Int),(0:Int),(0:Int),(0:Int),(0:Int),(0:Int),(0:Int),(0:Int),(0:Int),(0:Int),(0:Int),(0:Int),(0:Int),(0:Int),(0:Int),(0:Int),(0:Int),(18:Int),(17:Int),(22:Int),(21:Int),(20:Int),(19:Int),(26:Int),(25:Int),(24:Int),(23:Int),(27:Int)]:List Int).getD a.toNat 0))) else (zl4 d a c a)))
def yv9 (f:Int) (g:Bool) (h:Bool) (i:j6) (e:j6) (c:Twork) (d:(j6×j6)) (a:Int) (b:Int):(j6×j6×Bool):=(if decide (e.Hi>c.most) then ((⟨a,b⟩:j6),e,true) else ((⟨a,b⟩:j6),d.2,true))
def zq9 (d:Int) (f:Bool) (g:Bool) (c:j6) (e:j6):(j6×j6×Bool):=(if ((((decide (d<(17:Int)))||(decide (d>(27:Int))))||(!(q9 c)))||(!(q9 e))) then (c,e,true) else (za5 (qan f c e) fun a=>(zk1 (ys8 a d g) (((⟨(0:Int),(0:Int)⟩:j6),(⟨(0:Int),(0:Int)⟩:j6),false)) fun b=>(if decide (c.Hi>a.most) then (yv9 d f g c e a b c.Lo c.Hi) else (yv9 d f g c e a b b.1.Lo b.1.Hi)))))
def vi5 (n:Int):Int:=if n=0 then 0 else ((2^(Nat.log2 n.toNat+1):Nat):Int)-1
end Go.Y
namespace Go.Y
open Go.RowKit Go.V Go.X Go.Proofs
def jx6 {x} (h:q8 x):(BitVec.ofInt IntKind.u64.bits x).toNat=x.toNat:=by
 rw [BitVec.toNat_ofInt];simp only [IntKind.bits];omega
def zm5 {x y} (a:q8 x) (b:q8 y):g9 .u64 x y=((x.toNat&&&y.toNat:Nat):Int):=by
 unfold g9;rw [BitVec.toNat_and,jx6 a,jx6 b,q7];have:x.toNat&&&y.toNat<=x.toNat:=Nat.and_le_left;omega
def ve4 {x} (h:q8 x):x.toNat<2^64:=by omega
def qq4 {x y} (a:q8 x) (b:q8 y):bOr .u64 x y=((x.toNat|||y.toNat:Nat):Int):=by
 unfold bOr;rw [BitVec.toNat_or,jx6 a,jx6 b,q7];have:=K8 (ve4 a) (ve4 b);omega
def jk7 {x y} (a:q8 x) (b:q8 y):yl9 .u64 x y=((x.toNat^^^y.toNat:Nat):Int):=by
 unfold yl9;rw [BitVec.toNat_xor,jx6 a,jx6 b,q7];have:=M2 (ve4 a) (ve4 b);omega
def zl6 {x y} (a:0<=y/\y<=64):za6 .u64 x y=x/2^y.toNat:=by
 unfold za6;rw [M3 _ (by exact V7 (V1 (by omega)))];congr 2;simp only [IntKind.bits];omega
def jy1 {x y} (a:0<=y/\y<=64):zr4 .u64 x y=(x*2^y.toNat)%18446744073709551616:=by
 unfold zr4;rw [q7];congr 3;simp only [IntKind.bits];omega
def zam1 (a b) (i:q8 a) (j:q8 b):(ye5 a b).1=(a*b)/18446744073709551616:=by
 unfold ye5;simp only;rw [zl6 (by omega),zl6 (by omega),zm5 i (by omega),zm5 j (by omega)];have e: ∀x:Int,q8 x->((x.toNat&&&(4294967295:Int).toNat:Nat):Int)=x%4294967296:=by
  intro x c;rw [show (4294967295:Int).toNat=2^32-1 from rfl,S7];omega
 rw [e a i,e b j];have f: ∀x:Int,q8 x->za6 .u64 x 32=x/4294967296:=fun x c=>by rw [zl6 (by omega)];rfl
 rw [show (2:Int)^(32:Int).toNat=4294967296 from rfl];generalize u:a/4294967296=a1;generalize o:a%4294967296=a0;generalize v:b/4294967296=b1;generalize p:b%4294967296=b0;have k:0<=a1/\a1<=4294967295:=by omega
 have l:0<=a0/\a0<=4294967295:=by omega
 have m:0<=b1/\b1<=4294967295:=by omega
 have n:0<=b0/\b0<=4294967295:=by omega
 have d: ∀x y:Int,(0<=x/\x<=4294967295)->(0<=y/\y<=4294967295)->0<=x*y/\x*y<=18446744065119617025:=fun x y c g=>⟨M4 c.1 g.1,Int.mul_le_mul c.2 g.2 g.1 (by omega)⟩;have q:=d a1 b1 k m;have r:=d a1 b0 k n;have s:=d a0 b1 l m;have t:=d a0 b0 l n;have h:a*b=(a1*b1)*18446744073709551616+(a1*b0+a0*b1)*4294967296+a0*b0:=by
  rw [show a=a1*4294967296+a0 by omega,show b=b1*4294967296+b0 by omega];simp only [Int.add_mul,Int.mul_add];have c1:a1*4294967296*(b1*4294967296)=a1*b1*18446744073709551616:=by rw [Int.mul_assoc,Int.mul_comm 4294967296,Int.mul_assoc,Int.mul_assoc];rfl
  have c2:a1*4294967296*b0=a1*b0*4294967296:=by rw [Int.mul_assoc,Int.mul_comm 4294967296,Int.mul_assoc]
  have c3:a0*(b1*4294967296)=a0*b1*4294967296:=by rw [Int.mul_assoc]
  omega
 rw [h];generalize a1*b1=q11 at *;generalize a1*b0=q10 at *;generalize a0*b1=q01 at *;generalize a0*b0=q00 at *;rw [q7 q11,q7 q10,q7 q01,q7 q00];rw [f (q00%18446744073709551616) (by omega)];rw [q7 (q10%18446744073709551616+_)];rw [f _ (by omega),zm5 (by omega) (by omega),e _ (by omega)];rw [q7 ((q10%18446744073709551616+q00%18446744073709551616/4294967296)%18446744073709551616%4294967296+_),f _ (by omega)];rw [q7,q7];omega
def wv2 (a b):(ye5 a b).2=(a*b)%18446744073709551616:=by unfold ye5;exact q7 _
def ky1: ∀i:Fin 256,tab0.getD i.val 0=if i.val=0 then 0 else ((Nat.log2 i.val+1:Nat):Int):=by decide+kernel
def wm4 {n} (h:n<256) (a:n≠0):tab0.getD n 0=((Nat.log2 n+1:Nat):Int):=by
 have:=ky1 ⟨n,h⟩;simp only [a,if_false] at this;exact this
def vf4 {n k} (h:n/2^k≠0):Nat.log2 n=Nat.log2 (n/2^k)+k:=by
 induction k generalizing n with
 |zero=>simp
 |succ k a=>
  have e:n/2^(k+1)=(n/2)/2^k:=by rw [Nat.pow_succ,T1,Nat.div_div_eq_div_mul]
  rw [e] at h⊢;have b:2<=n:=by
   apply Classical.byContradiction;intro c;have:n/2=0:=by omega
   rw [this] at h;simp at h
  rw [Nat.log2_def,if_pos b,a h];rfl
def ge1 {n} (h:q8 n):jr0 n=if n=0 then 0 else ((Nat.log2 n.toNat+1:Nat):Int):=by
 obtain ⟨m,rfl⟩:=N1 h.1;by_cases j:m=0
 ·subst j;decide+kernel
 rw [if_neg (by omega)];have l: ∀m:Nat,za6 .u64 (m:Int) 8=((m/2^8:Nat):Int):=fun m=>by rw [zl6 (by omega)];simp
 have f: ∀m:Nat,za6 .u64 (m:Int) 16=((m/2^16:Nat):Int):=fun m=>by rw [zl6 (by omega)];simp
 have g: ∀m:Nat,za6 .u64 (m:Int) 32=((m/2^32:Nat):Int):=fun m=>by rw [zl6 (by omega)];simp
 have e: ∀m:Nat,m<256->(IntKind.u8.wrap (m:Int)).toNat=m:=fun m v=>by rw [zx5];omega
 have c: ∀(k:Nat),m/2^k<256->m/2^k≠0->((k:Int)+tab0.getD (m/2^k) 0)=((Nat.log2 m+1:Nat):Int):=fun k o i=>by
  rw [wm4 o i,vf4 i];omega
 have d: ∀a b:Nat,m/2^a/2^b=m/2^(a+b):=fun a b=>by rw [Nat.div_div_eq_div_mul,Nat.pow_add]
 unfold jr0;simp only [l,f,g,d,decide_eq_true_eq,Z1];have w:m/2^8=m/256:=rfl;have p:m/2^16=m/65536:=rfl;have q:m/2^(16+8)=m/16777216:=rfl;have r:m/2^32=m/4294967296:=rfl;have s:m/2^(32+8)=m/1099511627776:=rfl;have t:m/2^(32+16)=m/281474976710656:=rfl;have u:m/2^(32+16+8)=m/72057594037927936:=rfl
 repeat' split
 ·rw [e _ (by omega)];exact c 56 (by omega) (by omega)
 ·rw [e _ (by omega)];exact c 48 (by omega) (by omega)
 ·rw [e _ (by omega)];exact c 40 (by omega) (by omega)
 ·rw [e _ (by omega)];exact c 32 (by omega) (by omega)
 ·rw [e _ (by omega)];exact c 24 (by omega) (by omega)
 ·rw [e _ (by omega)];exact c 16 (by omega) (by omega)
 ·rw [e _ (by omega)];exact c 8 (by omega) (by omega)
 ·have:=c 0 (by omega) (by omega);rw [e _ (by omega)];simpa using this
def wk6 {n} (h:q8 n):qcf n=vi5 n:=by
 show IntKind.u64.wrap (zr4 .u64 (1:Int) (jr0 n)-1)=_;unfold vi5;rw [ge1 h];split
 ·subst_vars;rfl
 ·have c:Nat.log2 n.toNat<64:=(Nat.log2_lt (by omega)).2 (by omega);rw [jy1 (by omega),q7,Z1];by_cases a:Nat.log2 n.toNat+1=64
  ·rw [a];rfl
  ·have d:2^(Nat.log2 n.toNat+1)<=2^63:=J4 (by decide) (by omega);have e:=V8 (Nat.log2 n.toNat+1);have b:(1:Int)*2^(Nat.log2 n.toNat+1)=((2^(Nat.log2 n.toNat+1):Nat):Int):=by simp
   rw [b];omega
def yk2 (z a s:Nat) (b:Bool):Nat:=(a >>> s)|||(if b then (2^s-1) <<< (z-s) else 0)
def jn9 {z a s b} (c:a<2^z) (e:s<z):yk2 z a s b<2^z:=by
 unfold yk2;apply K8
 ·exact Nat.lt_of_le_of_lt (by rw [T5];exact K4 _ _) c
 ·split
  ·rw [R4];have d:2^z=2^s*2^(z-s):=by rw [<-Nat.pow_add];congr 1;omega
   rw [d];exact Nat.mul_lt_mul_of_pos_right (by have:=V8 s;omega) (V8 _)
  ·exact V8 _
def ya7 {z a s b} (c:a<2^z) (f:s<z):yk2 z a s b=a/2^s+(if b then (2^s-1)*2^(z-s) else 0):=by
 unfold yk2;rw [T5];cases b with
 |false=>simp
 |true=>
  simp only [if_true];have d:2^z=2^s*2^(z-s):=by rw [<-Nat.pow_add];congr 1;omega
  have e:a/2^s<2^(z-s):=N2 (by rw [<-d];exact c);rw [Nat.or_comm,<-Nat.shiftLeft_add_eq_or_of_lt e,R4,V5]
def yx5 {z a} (c:a<2^(z+1)):a.testBit z=decide (2^z<=a):=by
 rw [A0];have d:a/2^z<2:=N2 (by rw [Nat.pow_succ] at c;exact c);by_cases h:2^z<=a
 ·have:1<=a/2^z:=(Nat.one_le_div_iff (V8 _)).2 h;have b:a/2^z=1:=by omega
  simp [b,h]
 ·have b:a/2^z=0:=Nat.div_eq_of_lt (by omega);simp [b,h]
def jx0 {z a s:Nat} (b:a<2^z) (d:s<z):((a:Int)-(2:Int)^z)/2^s=((a/2^s:Nat):Int)-2^(z-s):=by
 have c:(2:Int)^z=2^(z-s)*2^s:=by rw [<-Int.pow_add];congr 1;omega
 rw [c,Int.sub_eq_add_neg,<-Int.neg_mul,Int.add_mul_ediv_right _ _ (by exact Int.ne_of_gt (V1 (by omega)))];simp [Int.sub_eq_add_neg]
def jz6 {z s} (a:s<z):((2^s-1)*2^(z-s):Nat)=2^z-2^(z-s):=by
 rw [Nat.sub_mul,Nat.one_mul,<-Nat.pow_add];congr 2;omega
def wc2 {a s:Nat} (b:a<2^32) (c:s<32):IntKind.u32.wrap (za6 .i32 (IntKind.i32.wrap (a:Int)) (s:Int))=((yk2 32 a s (a.testBit 31):Nat):Int):=by
 rw [ya7 b c,yx5 (z:=31) b];unfold za6;rw [M3 _ (by exact V7 (V1 (by omega))),show min (s:Int).toNat IntKind.i32.bits=s from by simp only [IntKind.bits];omega,yj7,w5];have f:a/2^s<=a:=K4 _ _;by_cases h:2^31<=a
 ·rw [if_pos (by omega),show (a:Int)%4294967296-4294967296=(a:Int)-(2:Int)^32 from by omega,jx0 b c];simp only [h,decide_true,if_true];rw [jz6 c];have g:2^(32-s)<=2^32:=J4 (by decide) (by omega);have e:(2:Int)^(32-s)=((2^(32-s):Nat):Int):=by simp
  have i:a/2^s<2^(32-s):=N2 (by rw [<-Nat.pow_add];rw [show s+(32-s)=32 by omega];exact b);rw [e];have j:=V8 (32-s);generalize 2^(32-s)=q at *;generalize a/2^s=d at *;omega
 ·rw [if_neg (by omega),show (a:Int)%4294967296=(a:Int) by omega];simp only [h,decide_false,W8,if_false];have:(a:Int)/2^s=((a/2^s:Nat):Int):=by simp
  rw [this];generalize a/2^s=d at *;omega
def wa7 {a s:Nat} (b:a<2^64) (c:s<64):IntKind.u64.wrap (za6 .i64 (IntKind.i64.wrap (a:Int)) (s:Int))=((yk2 64 a s (a.testBit 63):Nat):Int):=by
 rw [ya7 b c,yx5 (z:=63) b];unfold za6;rw [M3 _ (by exact V7 (V1 (by omega))),show min (s:Int).toNat IntKind.i64.bits=s from by simp only [IntKind.bits];omega,zo6,q7];have f:a/2^s<=a:=K4 _ _;by_cases h:2^63<=a
 ·rw [if_pos (by omega),show (a:Int)%18446744073709551616-18446744073709551616=(a:Int)-(2:Int)^64 from by omega,jx0 b c];simp only [h,decide_true,if_true];rw [jz6 c];have g:2^(64-s)<=2^64:=J4 (by decide) (by omega);have e:(2:Int)^(64-s)=((2^(64-s):Nat):Int):=by simp
  have i:a/2^s<2^(64-s):=N2 (by rw [<-Nat.pow_add];rw [show s+(64-s)=64 by omega];exact b);rw [e];have j:=V8 (64-s);generalize 2^(64-s)=q at *;generalize a/2^s=d at *;omega
 ·rw [if_neg (by omega),show (a:Int)%18446744073709551616=(a:Int) by omega];simp only [h,decide_false,W8,if_false];have:(a:Int)/2^s=((a/2^s:Nat):Int):=by simp
  rw [this];generalize a/2^s=d at *;omega
def j9 (nw:Bool):Int:=if nw then 4294967295 else 18446744073709551615
structure SpOk (nw:Bool) (s:j6):Prop where
 lo:0<=s.Lo
 le:s.Lo<=s.Hi
 hi:s.Hi<=j9 nw
def SpOk.u (nw) {s} (h:SpOk nw s):q8 s.Lo/\q8 s.Hi:=by
 have b:=h.lo;have c:=h.le;have a:=h.hi;unfold j9 at a;split at a<;>omega
def yj9 {x} (h:q8 x):g9 .u64 x 4294967295=x%4294967296:=by
 rw [zm5 h (by omega),show (4294967295:Int).toNat=2^32-1 from rfl,S7];omega
def wk8 {x} (h:q8 x):g9 .u64 x 18446744073709551615=x:=by
 rw [zm5 h (by omega),show (18446744073709551615:Int).toNat=2^64-1 from rfl,S7];omega
def gv8 {x}:za6 .u64 x 32=x/4294967296:=by rw [zl6 (by omega)];rfl
def zl5 {s nw} (h:q8 s.Lo/\q8 s.Hi) (a:s.Lo<=s.Hi):SpOk nw (qh s nw):=by
 cases nw with
 |false=>exact ⟨h.1.1,a,h.2.2⟩
 |true=>
  unfold qh;simp only [W5,W8,if_false,gv8,yj9 h.1,yj9 h.2];split
  ·exact ⟨by decide,by decide,by decide⟩
  ·rename_i b;have b:s.Lo/4294967296=s.Hi/4294967296:=by simpa using b
   refine ⟨?_,?_,?_⟩
   ·show 0<=s.Lo%4294967296;omega
   ·show s.Lo%4294967296<=s.Hi%4294967296;omega
   ·show s.Hi%4294967296<=4294967295;omega
def yd7 (s):qy s=decide (s.Lo=s.Hi):=by
 show ((s.Lo==s.Lo)&&(s.Hi==s.Lo))=_;by_cases h:s.Lo=s.Hi<;>simp [h];exact fun e=>h e.symm
def ya9 (w):qag w=(decide (w.a.Lo=w.a.Hi)&&decide (w.b.Lo=w.b.Hi)):=by
 show (qy w.a&&qy w.b)=_;rw [yd7,yd7]
def wk (nw:Bool) (a b:j6):Twork:=⟨a,b,nw,j9 nw,if nw then 32 else 64⟩
def vw9 (nw a b):qan nw a b=wk nw (qh a nw) (qh b nw):=by
 cases nw<;>rfl
def vr5 (nw):zg8 nw=⟨0,j9 nw⟩:=by cases nw<;>rfl
def qg3 {α} (c:Bool) (n:α) (f:Unit->α):zk1 (za3 c) n f=if c=true then f () else n:=by
 cases c<;>rfl
def zm9 (nw):q8 (j9 nw):=by cases nw<;>decide
def ge2 (nw):j9 nw=4294967295\/j9 nw=18446744073709551615:=by cases nw<;>simp [j9]
def kz1 {nw p q} (a:0<=p/\p<=j9 nw) (b:0<=q/\q<=j9 nw):
  (((ye5 p q).1==0)&&decide ((ye5 p q).2<=j9 nw))=decide (p*q<=j9 nw):=by
 have c:=zm9 nw;rw [zam1 p q ⟨a.1,by omega⟩ ⟨b.1,by omega⟩,wv2];have d:0<=p*q:=M4 a.1 b.1;generalize p*q=z at *;rw [W9];simp only [X3,beq_iff_eq,decide_eq_true_eq];omega
def qw6 {nw x c} (b:0<=x) (e:0<=c/\c<=63) (h:x<=za6 .u64 (j9 nw) c):zr4 .u64 x c=x*2^c.toNat/\x*2^c.toNat<=j9 nw:=by
 rw [zl6 (by omega)] at h;have a:(0:Int)<2^c.toNat:=V1 (by omega);have d:x*2^c.toNat<=j9 nw:=(Int.le_ediv_iff_mul_le a).1 h;have f:0<=x*2^c.toNat:=M4 b (V7 a);have g:=zm9 nw;refine ⟨?_,d⟩;rw [jy1 (by omega)];omega
def yn4 {nw a b x} (c:0<=x/\x<=j9 nw):qaa (wk nw a b) x=decide (j9 nw<2*x):=by
 cases nw with
 |true=>
  have d:x<=4294967295:=c.2;have e:((g9 .u64 (za6 .u64 x 31) 1)==1)=decide (j9 true<2*x):=by
   rw [zl6 (by omega),show (2:Int)^(31:Int).toNat=2147483648 from rfl,zm5 (by omega) (by omega)];rw [show (1:Int).toNat=1 from rfl,Nat.and_one_is_mod];show _=decide (4294967295<2*x);rw [W9,beq_iff_eq,decide_eq_true_eq];omega
  exact e
 |false=>
  have d:x<=18446744073709551615:=c.2;have e:((g9 .u64 (za6 .u64 x 63) 1)==1)=decide (j9 false<2*x):=by
   rw [zl6 (by omega),show (2:Int)^(63:Int).toNat=9223372036854775808 from rfl,zm5 (by omega) (by omega)];rw [show (1:Int).toNat=1 from rfl,Nat.and_one_is_mod];show _=decide (18446744073709551615<2*x);rw [W9,beq_iff_eq,decide_eq_true_eq];omega
  exact e
def yy8 {nw a b s} (c:SpOk nw s):qav (wk nw a b) s=(decide (j9 nw<2*s.Lo) != decide (j9 nw<2*s.Hi)):=by
 show (qaa (wk nw a b) s.Lo != qaa (wk nw a b) s.Hi)=_;have d:=c.lo;have f:=c.le;have e:=c.hi;rw [yn4 ⟨d,by omega⟩,yn4 ⟨by omega,e⟩]
def zb8 (op:Int) (w:Twork):Option j6:=
 if op=1 then zs5 w else if op=2 then zs2 w else if op=3 then zs3 w else if op=4 then some (qcp w) else if op=5 then some (qcq w)
 else if op=6 then some (qce w) else if op=7 then some (qcg w) else if op=8 then some (qch w) else if op=9 then zr8 w else if op=10 then some (qau w)
 else if op=11 then zs1 w else if op=12 then some (qcr w) else zj8 w
def kz2 (op):jv2 op=decide (1<=op/\op<=13):=by
 unfold jv2;rw [W9];simp only [V6,beq_iff_eq,decide_eq_true_eq];omega
def zr7 (op nw a b):span_Do op nw a b=if (1<=op/\op<=13)/\a.Lo<=a.Hi/\b.Lo<=b.Hi then (zb8 op (wk nw (qh a nw) (qh b nw))).getD ⟨0,j9 nw⟩ else ⟨0,j9 nw⟩:=by
 rw [span_Do.eq_1];simp only [kz2,q9,za5,vr5,vw9];by_cases h:(1<=op/\op<=13)/\a.Lo<=a.Hi/\b.Lo<=b.Hi
 ·rw [if_pos h,if_neg (by simp [h])];unfold zb8;generalize wk nw (qh a nw) (qh b nw)=w;have c:op=1\/op=2\/op=3\/op=4\/op=5\/op=6\/op=7\/op=8\/op=9\/op=10\/op=11\/op=12\/op=13:=by omega
  rcases c with rfl|rfl|rfl|rfl|rfl|rfl|rfl|rfl|rfl|rfl|rfl|rfl|rfl
  all_goals first|rfl|(simp only [show ∀o:Option j6,zk1 o (⟨0,j9 nw⟩:j6) (fun x=>x)=o.getD ⟨0,j9 nw⟩ from fun o=>by cases o<;>rfl];rfl)
 ·rw [if_neg h,if_pos];simp only [V6,V2,decide_eq_false_iff_not];omega
end Go.Y
namespace Go.Y
open Go.RowKit Go.V Go.X Go.Proofs
def jl3 {x} (h:vb6 x):(BitVec.ofInt IntKind.u32.bits x).toNat=x.toNat:=by
 rw [BitVec.toNat_ofInt];simp only [IntKind.bits];omega
def go2 {x y} (a:vb6 x) (b:vb6 y):g9 .u32 x y=((x.toNat&&&y.toNat:Nat):Int):=by
 unfold g9;rw [BitVec.toNat_and,jl3 a,jl3 b,w5];have:x.toNat&&&y.toNat<=x.toNat:=Nat.and_le_left;omega
def wo7 {x} (h:vb6 x):x.toNat<2^32:=by omega
def zai1 {x y} (a:vb6 x) (b:vb6 y):bOr .u32 x y=((x.toNat|||y.toNat:Nat):Int):=by
 unfold bOr;rw [BitVec.toNat_or,jl3 a,jl3 b,w5];have:=K8 (wo7 a) (wo7 b);omega
def zaa3 {x y} (a:vb6 x) (b:vb6 y):yl9 .u32 x y=((x.toNat^^^y.toNat:Nat):Int):=by
 unfold yl9;rw [BitVec.toNat_xor,jl3 a,jl3 b,w5];have:=M2 (wo7 a) (wo7 b);omega
def zad0 {x y} (a:0<=y/\y<=32):za6 .u32 x y=x/2^y.toNat:=by
 unfold za6;rw [M3 _ (by exact V7 (V1 (by omega)))];congr 2;simp only [IntKind.bits];omega
def uy2 {x y} (a:0<=y/\y<=32):zr4 .u32 x y=(x*2^y.toNat)%4294967296:=by
 unfold zr4;rw [w5];congr 3;simp only [IntKind.bits];omega
def zf1 (nw:Bool):Nat:=if nw then 32 else 64
def yn1 (nw):j9 nw+1=2^zf1 nw:=by cases nw<;>decide
def yz8 (nw):zf1 nw=32\/zf1 nw=64:=by cases nw<;>simp [zf1]
def jb4 (nw:Bool) (p:Int) (s:Nat):Int:=((yk2 (zf1 nw) p.toNat s (decide (j9 nw<2*p)):Nat):Int)
def shN (nw:Bool) (q:Int):Nat:=(q%(zf1 nw:Int)).toNat
def ji7 (nw q):shN nw q<zf1 nw:=by unfold shN;rcases yz8 nw with h|h<;>rw [h]<;>omega
def qj6 (nw:Bool) (op p q:Int):Option Int:=
 if op=1 then some ((p+q)%(j9 nw+1)) else if op=2 then some ((p-q)%(j9 nw+1)) else if op=3 then some ((p*q)%(j9 nw+1))
 else if op=4 then (if q=0 then none else some (p/q)) else if op=5 then (if q=0 then none else some (p%q))
 else if op=6 then some ((p.toNat&&&q.toNat:Nat):Int) else if op=7 then some ((p.toNat|||q.toNat:Nat):Int) else if op=8 then some ((p.toNat^^^q.toNat:Nat):Int)
 else if op=9 then some ((p*2^shN nw q)%(j9 nw+1)) else if op=10 then some (p/2^shN nw q) else if op=11 then some (jb4 nw p (shN nw q))
 else if op=12 then some q else some ((0-p)%(j9 nw+1))
def yc5 (nw:Bool) (p:Int):Int:=if nw then p%4294967296 else p
def jp6 {nw p} (h:q8 p):0<=yc5 nw p/\yc5 nw p<=j9 nw:=by
 cases nw with
 |true=>show 0<=p%4294967296/\p%4294967296<=4294967295;omega
 |false=>exact h
def ks4 (o:Option Int):Int×Int:=match o with|some v=>(v,0)|none=>(0,113)
def vw7 (nw:Bool) {a:Nat} (b:a<2^zf1 nw):a.testBit (zf1 nw-1)=decide (j9 nw<2*(a:Int)):=by
 cases nw with
 |true=>rw [show zf1 true-1=31 from rfl,yx5 (z:=31) b,show j9 true=4294967295 from rfl];rw [W9,decide_eq_true_eq,decide_eq_true_eq];omega
 |false=>rw [show zf1 false-1=63 from rfl,yx5 (z:=63) b,show j9 false=18446744073709551615 from rfl];rw [W9,decide_eq_true_eq,decide_eq_true_eq];omega
def qn5 (nw) {q} (a:0<=q):q%(zf1 nw:Int)=((shN nw q:Nat):Int):=by unfold shN;rcases yz8 nw with h|h<;>rw [h]<;>omega
def zm0 {op} (i:1<=op/\op<=13) {nw p q} (j:q8 p) (k:q8 q):za4 op nw p q=ks4 (qj6 nw op (yc5 nw p) (yc5 nw q)):=by
 have h:op=1\/op=2\/op=3\/op=4\/op=5\/op=6\/op=7\/op=8\/op=9\/op=10\/op=11\/op=12\/op=13:=by omega
 cases nw with
 |true=>
  have b:vb6 (p%4294967296):=by omega
  have c:vb6 (q%4294967296):=by omega
  show yx0 op 32 (IntKind.u32.wrap p) (IntKind.u32.wrap q)=ks4 (qj6 true op (p%4294967296) (q%4294967296));rw [w5,w5];generalize p%4294967296=x at *;generalize q%4294967296=y at *;have e:y%32=((shN true y:Nat):Int):=qn5 true c.1;have g:shN true y<32:=ji7 true y;have l:0<=x/y/\x/y<=x:=⟨N3 b.1 c.1,T6 _ b.1⟩;rcases h with rfl|rfl|rfl|rfl|rfl|rfl|rfl|rfl|rfl|rfl|rfl|rfl|rfl
  ·show (IntKind.u32.wrap (x+y),(0:Int))=((x+y)%(4294967295+1),0);rw [w5];rfl
  ·show (IntKind.u32.wrap (x-y),(0:Int))=((x-y)%(4294967295+1),0);rw [w5];rfl
  ·show (IntKind.u32.wrap (x*y),(0:Int))=((x*y)%(4294967295+1),0);rw [w5];rfl
  ·by_cases d:y=0
   ·subst d;rfl
   ·show (if (y==0)=true then ((0:Int),(113:Int)) else (IntKind.u32.wrap (x.tdiv y),0))=ks4 (if y=0 then none else some (x/y));rw [if_neg (by simpa using d),if_neg d,w5,S8 b.1];show _=(x/y,(0:Int));congr 1;omega
  ·by_cases d:y=0
   ·subst d;rfl
   ·show (if (y==0)=true then ((0:Int),(113:Int)) else (x.tmod y,0))=ks4 (if y=0 then none else some (x%y));rw [if_neg (by simpa using d),if_neg d,K9 b.1];rfl
  ·show (g9 .u32 x y,(0:Int))=(((x.toNat&&&y.toNat:Nat):Int),0);rw [go2 b c]
  ·show (bOr .u32 x y,(0:Int))=(((x.toNat|||y.toNat:Nat):Int),0);rw [zai1 b c]
  ·show (yl9 .u32 x y,(0:Int))=(((x.toNat^^^y.toNat:Nat):Int),0);rw [zaa3 b c]
  ·show (zr4 .u32 x (y.tmod 32),(0:Int))=((x*2^shN true y)%(4294967295+1),0);rw [K9 c.1,e,uy2 (by omega)];rfl
  ·show (za6 .u32 x (y.tmod 32),(0:Int))=(x/2^shN true y,0);rw [K9 c.1,e,zad0 (by omega)];rfl
  ·show (IntKind.u32.wrap (za6 .i32 (IntKind.i32.wrap x) (y.tmod 32)),(0:Int))=(jb4 true x (shN true y),0);obtain ⟨a,rfl⟩:=N1 b.1;rw [K9 c.1,e,wc2 (by omega) g];unfold jb4;rw [<-vw7 true (a:=a) (show a<2^32 by omega)];rfl
  ·rfl
  ·show (IntKind.u32.wrap (0-x),(0:Int))=((0-x)%(4294967295+1),0);rw [w5];rfl
 |false=>
  show jy4 op 64 p q=ks4 (qj6 false op p q);have b:=j;have c:=k;have f:q%64=((shN false q:Nat):Int):=qn5 false c.1;have g:shN false q<64:=ji7 false q;have l:0<=p/q/\p/q<=p:=⟨N3 b.1 c.1,T6 _ b.1⟩;rcases h with rfl|rfl|rfl|rfl|rfl|rfl|rfl|rfl|rfl|rfl|rfl|rfl|rfl
  ·show (IntKind.u64.wrap (p+q),(0:Int))=((p+q)%(18446744073709551615+1),0);rw [q7];rfl
  ·show (IntKind.u64.wrap (p-q),(0:Int))=((p-q)%(18446744073709551615+1),0);rw [q7];rfl
  ·show (IntKind.u64.wrap (p*q),(0:Int))=((p*q)%(18446744073709551615+1),0);rw [q7];rfl
  ·by_cases d:q=0
   ·subst d;rfl
   ·show (if (q==0)=true then ((0:Int),(113:Int)) else (IntKind.u64.wrap (p.tdiv q),0))=ks4 (if q=0 then none else some (p/q));rw [if_neg (by simpa using d),if_neg d,q7,S8 b.1];show _=(p/q,(0:Int));congr 1;omega
  ·by_cases d:q=0
   ·subst d;rfl
   ·show (if (q==0)=true then ((0:Int),(113:Int)) else (p.tmod q,0))=ks4 (if q=0 then none else some (p%q));rw [if_neg (by simpa using d),if_neg d,K9 b.1];rfl
  ·show (g9 .u64 p q,(0:Int))=(((p.toNat&&&q.toNat:Nat):Int),0);rw [zm5 b c]
  ·show (bOr .u64 p q,(0:Int))=(((p.toNat|||q.toNat:Nat):Int),0);rw [qq4 b c]
  ·show (yl9 .u64 p q,(0:Int))=(((p.toNat^^^q.toNat:Nat):Int),0);rw [jk7 b c]
  ·show (zr4 .u64 p (q.tmod 64),(0:Int))=((p*2^shN false q)%(18446744073709551615+1),0);rw [K9 c.1,f,jy1 (by omega)];rfl
  ·show (za6 .u64 p (q.tmod 64),(0:Int))=(p/2^shN false q,0);rw [K9 c.1,f,zl6 (by omega)];rfl
  ·show (IntKind.u64.wrap (za6 .i64 (IntKind.i64.wrap p) (q.tmod 64)),(0:Int))=(jb4 false p (shN false q),0);obtain ⟨a,rfl⟩:=N1 b.1;rw [K9 c.1,f,wa7 (by omega) g];unfold jb4;rw [<-vw7 false (a:=a) (show a<2^64 by omega)];rfl
  ·rfl
  ·show (IntKind.u64.wrap (0-p),(0:Int))=((0-p)%(18446744073709551615+1),0);rw [q7];rfl
def yu7 (p q:Int):Int:=vi5 ((p.toNat|||q.toNat:Nat):Int)
def jw9 (nw:Bool) (op:Int) (u v:j6):Option j6:=
 if op=1 then (if v.Hi<=j9 nw-u.Hi\/v.Lo>j9 nw-u.Lo then some ⟨(u.Lo+v.Lo)%(j9 nw+1),(u.Hi+v.Hi)%(j9 nw+1)⟩ else none)
 else if op=2 then (if u.Lo>=v.Hi\/u.Hi<v.Lo then some ⟨(u.Lo-v.Hi)%(j9 nw+1),(u.Hi-v.Lo)%(j9 nw+1)⟩ else none)
 else if op=3 then (if u.Hi*v.Hi<=j9 nw then some ⟨u.Lo*v.Lo,u.Hi*v.Hi⟩ else none)
 else if op=4 then some ⟨u.Lo/max v.Hi 1,u.Hi/max v.Lo 1⟩
 else if op=5 then some (if u.Hi<max v.Lo 1 then u else ⟨0,min u.Hi (max v.Hi 1-1)⟩)
 else if op=6 then some (if u.Lo=u.Hi/\v.Lo=v.Hi then ⟨((u.Lo.toNat&&&v.Lo.toNat:Nat):Int),((u.Lo.toNat&&&v.Lo.toNat:Nat):Int)⟩ else ⟨0,min u.Hi v.Hi⟩)
 else if op=7 then some (if u.Lo=u.Hi/\v.Lo=v.Hi then ⟨((u.Lo.toNat|||v.Lo.toNat:Nat):Int),((u.Lo.toNat|||v.Lo.toNat:Nat):Int)⟩ else ⟨max u.Lo v.Lo,yu7 u.Hi v.Hi⟩)
 else if op=8 then some (if u.Lo=u.Hi/\v.Lo=v.Hi then ⟨((u.Lo.toNat^^^v.Lo.toNat:Nat):Int),((u.Lo.toNat^^^v.Lo.toNat:Nat):Int)⟩ else ⟨0,yu7 u.Hi v.Hi⟩)
 else if op=9 then (if v.Lo=v.Hi/\u.Hi*2^shN nw v.Lo<=j9 nw then some ⟨u.Lo*2^shN nw v.Lo,u.Hi*2^shN nw v.Lo⟩ else none)
 else if op=10 then some (if v.Lo=v.Hi then ⟨u.Lo/2^shN nw v.Lo,u.Hi/2^shN nw v.Lo⟩ else if v.Hi>=zf1 nw then ⟨0,u.Hi⟩ else ⟨u.Lo/2^v.Hi.toNat,u.Hi/2^v.Lo.toNat⟩)
 else if op=11 then (if v.Lo=v.Hi/\(j9 nw<2*u.Lo↔j9 nw<2*u.Hi) then some ⟨jb4 nw u.Lo (shN nw v.Lo),jb4 nw u.Hi (shN nw v.Lo)⟩ else none)
 else if op=12 then some v
 else (if u.Hi=0 then some u else if u.Lo>0 then some ⟨(0-u.Hi)%(j9 nw+1),(0-u.Lo)%(j9 nw+1)⟩ else none)
def yv5 {α c p} [Decidable p] (h:c=decide p) (x y:α) (a:p->x=y):(zk1 (za3 c) none fun _=>some x)=if p then some y else none:=by
 rw [qg3,h];by_cases b:p
 ·simp [b,a b]
 ·simp [b]
def jv8 {nw} (a b x y):qbw (wk nw a b) (IntKind.u64.wrap x) (IntKind.u64.wrap y)=⟨x%(j9 nw+1),y%(j9 nw+1)⟩:=by
 have c: ∀x:Int,g9 .u64 (IntKind.u64.wrap x) (j9 nw)=x%(j9 nw+1):=by
  intro x;cases nw with
  |true=>show g9 .u64 _ 4294967295=x%4294967296;rw [yj9 (zc1 x),q7];omega
  |false=>show g9 .u64 _ 18446744073709551615=x%18446744073709551616;rw [wk8 (zc1 x),q7]
 show (⟨_,_⟩:j6)=_;rw [show (wk nw a b).most=j9 nw from rfl,c,c]
def vu6 {nw p q} (a:0<=p/\p<=j9 nw) (b:0<=q/\q<=j9 nw):qcf (bOr .u64 p q)=yu7 p q:=by
 have d:=zm9 nw;have c:q8 (bOr .u64 p q):=zc1 _;rw [wk6 c,qq4 ⟨a.1,by omega⟩ ⟨b.1,by omega⟩];rfl
def vy0 {nw x y} (a:0<=x/\x<=j9 nw) (b:0<=y/\y<=j9 nw):(za4 11 nw x y).1=jb4 nw x (shN nw y):=by
 have c:=zm9 nw;have e: ∀z:Int,(0<=z/\z<=j9 nw)->yc5 nw z=z:=by
  intro z d;cases nw with
  |true=>show z%4294967296=z;have:j9 true=4294967295:=rfl;omega
  |false=>rfl
 rw [zm0 (by omega) ⟨a.1,by omega⟩ ⟨b.1,by omega⟩,e x a,e y b];rfl
def qf9 {op} (E:1<=op/\op<=13) {nw u v} (o:SpOk nw u) (z:SpOk nw v):zb8 op (wk nw u v)=jw9 nw op u v:=by
 have g:=o.lo;have j:=o.le;have i:=o.hi;have e:=z.lo;have l:=z.le;have m:=z.hi;have G:=zm9 nw;have A:=o.u;have B:=z.u;have F:op=1\/op=2\/op=3\/op=4\/op=5\/op=6\/op=7\/op=8\/op=9\/op=10\/op=11\/op=12\/op=13:=by omega
 rcases F with rfl|rfl|rfl|rfl|rfl|rfl|rfl|rfl|rfl|rfl|rfl|rfl|rfl
 ·refine yv5 (p:=v.Hi<=j9 nw-u.Hi\/v.Lo>j9 nw-u.Lo) ?_ _ _ fun _=>jv8 u v _ _;show (decide (v.Hi<=IntKind.u64.wrap (j9 nw-u.Hi))||decide (v.Lo>IntKind.u64.wrap (j9 nw-u.Lo)))=_;rw [q7,q7,V9 (by omega) (by omega),V9 (by omega) (by omega)];simp
 ·refine yv5 (p:=u.Lo>=v.Hi\/u.Hi<v.Lo) ?_ _ _ fun _=>jv8 u v _ _;show (decide (u.Lo>=v.Hi)||decide (u.Hi<v.Lo))=_;simp
 ·refine yv5 (p:=u.Hi*v.Hi<=j9 nw) ?_ _ _ fun h=>?_
  ·show (((ye5 u.Hi v.Hi).1==0)&&decide ((ye5 u.Hi v.Hi).2<=j9 nw))=_;exact kz1 ⟨by omega,i⟩ ⟨by omega,m⟩
  ·show (⟨IntKind.u64.wrap (u.Lo*v.Lo),(ye5 u.Hi v.Hi).2⟩:j6)=_;have b:0<=u.Lo*v.Lo:=M4 g e;have f:u.Lo*v.Lo<=u.Hi*v.Hi:=Int.mul_le_mul j l e (by omega);rw [wv2,q7,V9 b (by omega),V9 (by omega) (by omega)]
 ·show some (⟨IntKind.u64.wrap (u.Lo.tdiv (zh7 v.Hi 1)),IntKind.u64.wrap (u.Hi.tdiv (zh7 v.Lo 1))⟩:j6)=some ⟨u.Lo/max v.Hi 1,u.Hi/max v.Lo 1⟩;have d: ∀x y:Int,0<=x->x<=j9 nw->IntKind.u64.wrap (x.tdiv (zh7 y 1))=x/max y 1:=by
   intro x y b f;rw [zi8,S8 b,q7];have q:0<=x/max y 1:=N3 b (by omega);have D:x/max y 1<=x:=T6 _ b;exact V9 q (by omega)
  rw [d _ _ g (by omega),d _ _ (by omega) i]
 ·show some (if decide (u.Hi<zh7 v.Lo 1)=true then u else (⟨0,zo7 u.Hi (IntKind.u64.wrap (zh7 v.Hi 1-1))⟩:j6))=some (if u.Hi<max v.Lo 1 then u else ⟨0,min u.Hi (max v.Hi 1-1)⟩);rw [zi8,zi8,zu0,q7,V9 (by omega) (by omega)];simp only [decide_eq_true_eq]
 ·show some (qce (wk nw u v))=some (if u.Lo=u.Hi/\v.Lo=v.Hi then _ else _);unfold qce za5;simp only [ya9];by_cases b:u.Lo=u.Hi<;>by_cases f:v.Lo=v.Hi<;>simp [b,f,wk,zn0,zu0];rw [zm5 A.2 B.2]
 ·show some (qcg (wk nw u v))=some (if u.Lo=u.Hi/\v.Lo=v.Hi then _ else _);unfold qcg za5;simp only [ya9];have C:=vu6 (nw:=nw) ⟨J3 g j,i⟩ ⟨J3 e l,m⟩;by_cases b:u.Lo=u.Hi<;>by_cases f:v.Lo=v.Hi<;>simp [b,f,wk,zn0,zi8,C];rw [qq4 A.2 B.2]
 ·show some (qch (wk nw u v))=some (if u.Lo=u.Hi/\v.Lo=v.Hi then _ else _);unfold qch za5;simp only [ya9];have C:=vu6 (nw:=nw) ⟨J3 g j,i⟩ ⟨J3 e l,m⟩;by_cases b:u.Lo=u.Hi<;>by_cases f:v.Lo=v.Hi<;>simp [b,f,wk,zn0,C];rw [jk7 A.2 B.2]
 ·have k:(if nw then (32:Int) else 64)=(zf1 nw:Int):=by cases nw<;>rfl
  have r:v.Lo.tmod (if nw then (32:Int) else 64)=((shN nw v.Lo:Nat):Int):=by rw [K9 e,k,qn5 nw e]
  have s:=ji7 nw v.Lo;have t:zf1 nw<=64:=by have:=yz8 nw;omega
  have w:(0:Int)<2^shN nw v.Lo:=V1 (by omega);have n: ∀x:Int,x<=za6 .u64 (j9 nw) ((shN nw v.Lo:Nat):Int)↔x*2^shN nw v.Lo<=j9 nw:=by
   intro x;rw [zl6 (by omega),Z1];exact Int.le_ediv_iff_mul_le w
  refine yv5 (p:=v.Lo=v.Hi/\u.Hi*2^shN nw v.Lo<=j9 nw) ?_ _ _ fun h=>?_
  ·show (qy v&&decide (u.Hi<=za6 .u64 (j9 nw) (v.Lo.tmod (if nw then (32:Int) else 64))))=_;rw [yd7,r,W9];simp only [X3,decide_eq_true_eq,n]
  ·show (⟨zr4 .u64 u.Lo (v.Lo.tmod (if nw then (32:Int) else 64)),zr4 .u64 u.Hi (v.Lo.tmod (if nw then (32:Int) else 64))⟩:j6)=_;rw [r];have q:=qw6 (x:=u.Hi) (c:=((shN nw v.Lo:Nat):Int)) (by omega) (by omega) ((n _).2 h.2);have D:=qw6 (x:=u.Lo) (c:=((shN nw v.Lo:Nat):Int)) g (by omega) (J3 j ((n _).2 h.2));rw [q.1,D.1,Z1]
 ·have k:(if nw then (32:Int) else 64)=(zf1 nw:Int):=by cases nw<;>rfl
  have r:v.Lo.tmod (if nw then (32:Int) else 64)=((shN nw v.Lo:Nat):Int):=by rw [K9 e,k,qn5 nw e]
  have s:=ji7 nw v.Lo;have t:zf1 nw<=64:=by have:=yz8 nw;omega
  show some (if qy v then (⟨za6 .u64 u.Lo (v.Hi.tmod (if nw then 32 else 64)),za6 .u64 u.Hi (v.Lo.tmod (if nw then 32 else 64))⟩:j6) else if decide (v.Hi>=(if nw then (32:Int) else 64)) then ⟨0,u.Hi⟩ else ⟨za6 .u64 u.Lo v.Hi,za6 .u64 u.Hi v.Lo⟩)=some (if v.Lo=v.Hi then _ else if v.Hi>=zf1 nw then _ else _);rw [yd7];by_cases b:v.Lo=v.Hi
  ·simp only [b,decide_true,if_true];rw [b] at r s;rw [r,zl6 (by omega),zl6 (by omega),Z1]
  ·simp only [b,decide_false,W8,if_false];rw [k];by_cases f:v.Hi>=(zf1 nw:Int)
   ·simp only [f,decide_true,if_true]
   ·simp only [f,decide_false,W8,if_false];rw [zl6 (by omega),zl6 (by omega)]
 ·refine yv5 (p:=v.Lo=v.Hi/\(j9 nw<2*u.Lo↔j9 nw<2*u.Hi)) ?_ _ _ fun _=>?_
  ·show (qy v&& !(qav (wk nw u v) u))=_;rw [yd7,yy8 o];by_cases b:v.Lo=v.Hi<;>by_cases f:j9 nw<2*u.Lo<;>by_cases q:j9 nw<2*u.Hi<;>simp [b,f,q]
  ·show (⟨(za4 11 nw u.Lo v.Lo).1,(za4 11 nw u.Hi v.Lo).1⟩:j6)=_;rw [vy0 ⟨g,by omega⟩ ⟨e,by omega⟩,vy0 ⟨by omega,i⟩ ⟨e,by omega⟩]
 ·rfl
 ·show zj8 (wk nw u v)=if u.Hi=0 then some u else if u.Lo>0 then _ else none
  unfold zj8;by_cases b:u.Hi=0
  ·have f:((wk nw u v).a.Hi==0)=true:=by simpa [wk] using b
   rw [f,if_pos b];rfl
  ·have f:((wk nw u v).a.Hi==0)=false:=by simpa [wk] using b
   rw [f,if_neg b];exact yv5 (p:=u.Lo>0) rfl _ _ fun _=>jv8 u v _ _
end Go.Y
namespace Go.Y
open Go.RowKit Go.V Go.X Go.Proofs
end Go.Y
namespace Go.Y
open Go.RowKit Go.V Go.X Go.Proofs
def zc0 (nw:Bool) (p:Int):Bool:=decide (j9 nw<2*p)
def sgn (nw:Bool) (p:Int):Int:=if j9 nw<2*p then p-(j9 nw+1) else p
def isE (nw:Bool) (op p q:Int):Bool:=
 if op=17 then decide (p=q) else if op=18 then decide (p≠q) else if op=19 then decide (p>q) else if op=20 then decide (p>=q) else if op=21 then decide (p<q) else if op=22 then decide (p<=q)
 else if op=23 then decide (sgn nw p>sgn nw q) else if op=24 then decide (sgn nw p>=sgn nw q) else if op=25 then decide (sgn nw p<sgn nw q) else if op=26 then decide (sgn nw p<=sgn nw q) else decide (p.toNat&&&q.toNat≠0)
def woE (s n:j6):j6:=if s.Lo=s.Hi\/n.Lo≠n.Hi then s else ⟨if s.Lo=n.Lo then s.Lo+1 else s.Lo,if s.Hi=n.Lo then s.Hi-1 else s.Hi⟩
def gtE (u v:j6):Option (j6×j6):=if u.Hi>v.Lo then some (⟨max u.Lo (v.Lo+1),u.Hi⟩,⟨v.Lo,min v.Hi (u.Hi-1)⟩) else none
def geE (u v:j6):Option (j6×j6):=if u.Hi>=v.Lo then some (⟨max u.Lo v.Lo,u.Hi⟩,⟨v.Lo,min v.Hi u.Hi⟩) else none
def ji5 (o:Option (j6×j6)):Option (j6×j6):=o.map fun x=>(x.2,x.1)
def zx7 (op:Int) (u v:j6):Option (j6×j6):=
 if op=17 then (if max u.Lo v.Lo<=min u.Hi v.Hi then some (⟨max u.Lo v.Lo,min u.Hi v.Hi⟩,⟨max u.Lo v.Lo,min u.Hi v.Hi⟩) else none)
 else if op=18 then (if u.Lo=u.Hi/\v.Lo=v.Hi/\u.Lo=v.Lo then none else some (woE u v,woE v u))
 else if op=19 then gtE u v else if op=20 then geE u v else if op=21 then ji5 (gtE v u) else ji5 (geE v u)
def zr3 (nw:Bool) (op:Int) (u v:j6):Option (j6×j6):=
 if zc0 nw u.Lo≠zc0 nw u.Hi\/zc0 nw v.Lo≠zc0 nw v.Hi then some (u,v)
 else if zc0 nw u.Lo=zc0 nw v.Lo then zx7 (op-4) u v
 else if (op=23\/op=24)↔zc0 nw v.Lo=true then some (u,v) else none
def zx2 (yes:Bool) (u v:j6):Option (j6×j6):=
 if yes=false then (if u.Lo=u.Hi/\v.Lo=v.Hi/\u.Lo.toNat&&&v.Lo.toNat≠0 then none else some (u,v))
 else if u.Hi>0/\v.Hi>0/\ ¬(u.Lo=u.Hi/\v.Lo=v.Hi/\u.Lo.toNat&&&v.Lo.toNat=0) then some (⟨max u.Lo 1,u.Hi⟩,⟨max v.Lo 1,v.Hi⟩) else none
def jh1 (op:Int):Int:=if op=17 then 18 else if op=18 then 17 else if op=19 then 22 else if op=20 then 21 else if op=21 then 20 else if op=22 then 19 else if op=23 then 26 else if op=24 then 25 else if op=25 then 24 else 23
def qc9 (nw:Bool) (op:Int) (yes:Bool) (u v:j6):Option (j6×j6):=
 if op=27 then zx2 yes u v else if (if yes=true then op else jh1 op)>=23 then zr3 nw (if yes=true then op else jh1 op) u v else zx7 (if yes=true then op else jh1 op) u v
def jo5 {nw s n} (b:SpOk nw s):qx s n=woE s n:=by
 have c:=b.lo;have d:=b.le;have e:=b.hi;have f:=zm9 nw;unfold qx ji3 woE za5;simp only [yd7,beq_iff_eq];by_cases c1:s.Lo=s.Hi
 ·simp [c1]
 ·by_cases c2:n.Lo=n.Hi
  ·simp only [c1,c2,decide_false,decide_true,W5,Bool.or_self,W8,if_false,ne_eq,not_true_eq_false,or_self];rw [q7,V9 (a:=s.Lo+1) (by omega) (by omega),q7,V9 (a:=s.Hi-1) (by omega) (by omega)];split<;>split<;>rfl
  ·simp [c1,c2]
def jq0 {nw u v} (a:SpOk nw u) (b:SpOk nw v):zn7 (wk nw u v)=gtE u v:=by
 have c:=a.lo;have d:=a.le;have e:=a.hi;have f:=b.lo;have g:=b.le;have i:=b.hi;have j:=zm9 nw;refine yv5 (p:=u.Hi>v.Lo) rfl _ _ fun h=>?_;show ((⟨zh7 u.Lo (IntKind.u64.wrap (v.Lo+1)),u.Hi⟩:j6),(⟨v.Lo,zo7 v.Hi (IntKind.u64.wrap (u.Hi-1))⟩:j6))=_;rw [zi8,zu0,q7,V9 (by omega) (by omega),q7,V9 (by omega) (by omega)]
def jm1 {nw u v}:zn6 (wk nw u v)=geE u v:=by
 refine yv5 (p:=u.Hi>=v.Lo) rfl _ _ fun h=>?_;show ((⟨zh7 u.Lo v.Lo,u.Hi⟩:j6),(⟨v.Lo,zo7 v.Hi u.Hi⟩:j6))=_;rw [zi8,zu0]
def qb3 (o):zk1 o none (fun x=>some (x.2,x.1))=ji5 o:=by cases o<;>rfl
def jq7 (o:Option (j6×j6)):zk1 o none (fun x=>some (x.1,x.2))=o:=by cases o<;>rfl
def vc7 {op} (g:17<=op/\op<=22) {nw u v} (d:SpOk nw u) (f:SpOk nw v):zn4 (wk nw u v) op=zx7 op u v:=by
 have k:=d.lo;have l:=d.le;have m:=d.hi;have n:=f.lo;have o:=f.le;have q:=f.hi;have r:=zm9 nw;have i:op=17\/op=18\/op=19\/op=20\/op=21\/op=22:=by omega
 rcases i with rfl|rfl|rfl|rfl|rfl|rfl
 ·show zk1 (za3 (zx6 u v).2) none (fun _=>some ((zx6 u v).1,(zx6 u v).1))=if max u.Lo v.Lo<=min u.Hi v.Hi then _ else none
  have e:zx6 u v=if max u.Lo v.Lo<=min u.Hi v.Hi then (⟨max u.Lo v.Lo,min u.Hi v.Hi⟩,true) else (⟨0,0⟩,false):=by
   unfold zx6 q9 za5;rw [zi8,zu0];by_cases c:max u.Lo v.Lo<=min u.Hi v.Hi
   ·rw [if_pos c,W3 c];rfl
   ·rw [if_neg c,W4 c];rfl
  rw [e];by_cases c:max u.Lo v.Lo<=min u.Hi v.Hi
  ·rw [if_pos c,if_pos c];rfl
  ·rw [if_neg c,if_neg c];rfl
 ·refine (yv5 (p:= ¬(u.Lo=u.Hi/\v.Lo=v.Hi/\u.Lo=v.Lo)) ?_ _ (woE u v,woE v u) fun _=>?_).trans ?_
  ·show ((!(qag (wk nw u v)))||(!((u.Lo==v.Lo)&&(u.Hi==v.Hi))))=_;have j: ∀a b:Int,(a==b)=decide (a=b):=fun a b=>by rw [W9];simp
   rw [ya9];by_cases c1:u.Lo=u.Hi<;>by_cases c2:v.Lo=v.Hi<;>simp [c1,c2,wk,j]
  ·show (qx u v,qx v u)=_;rw [jo5 d,jo5 f]
  ·show _=if u.Lo=u.Hi/\v.Lo=v.Hi/\u.Lo=v.Lo then none else _
   by_cases c:u.Lo=u.Hi/\v.Lo=v.Hi/\u.Lo=v.Lo
   ·rw [if_pos c,if_neg (fun h=>h c)]
   ·rw [if_neg c,if_pos c]
 ·exact jq0 d f
 ·exact jm1
 ·show zk1 (zn7 (wk nw v u)) none (fun x=>some (x.2,x.1))=ji5 (gtE v u);rw [jq0 f d,qb3]
 ·show zk1 (zn6 (wk nw v u)) none (fun x=>some (x.2,x.1))=ji5 (geE v u);rw [jm1,qb3]
def kg2 {op} (f:23<=op/\op<=26) {nw u v} (c:SpOk nw u) (d:SpOk nw v):ye0 (wk nw u v) op=zr3 nw op u v:=by
 have g:=c.lo;have j:=c.le;have k:=c.hi;have i:=d.lo;have l:=d.le;have m:=d.hi;show (if (qav (wk nw u v) u||qav (wk nw u v) v)=true then some (u,v) else if (qaa (wk nw u v) u.Lo==qaa (wk nw u v) v.Lo)=true then zk1 (zn4 (wk nw u v) (IntKind.u8.wrap (IntKind.u8.wrap (op-23)+19))) none (fun x=>some (x.1,x.2)) else zk1 (za3 (((op==23)||(op==24))==qaa (wk nw u v) v.Lo)) none (fun _=>some (u,v)))=_;rw [yy8 c,yy8 d,yn4 (nw:=nw) (a:=u) (b:=v) (x:=u.Lo) ⟨g,by omega⟩,yn4 (nw:=nw) (a:=u) (b:=v) (x:=v.Lo) ⟨i,by omega⟩];rw [show IntKind.u8.wrap (IntKind.u8.wrap (op-23)+19)=op-4 from by rw [zx5,zx5];omega,vc7 (by omega) c d,jq7];unfold zr3;rw [show decide (j9 nw<2*u.Lo)=zc0 nw u.Lo from rfl,show decide (j9 nw<2*u.Hi)=zc0 nw u.Hi from rfl,show decide (j9 nw<2*v.Lo)=zc0 nw v.Lo from rfl,show decide (j9 nw<2*v.Hi)=zc0 nw v.Hi from rfl];simp only [V6,bne_iff_ne,beq_iff_eq];split
 ·rfl
 ·split
  ·rfl
  ·rw [qg3];have:((((op==23)||(op==24))==zc0 nw v.Lo)=true)↔((op=23\/op=24)↔zc0 nw v.Lo=true):=by
    rw [beq_iff_eq,W9];simp
   by_cases e:(op=23\/op=24)↔zc0 nw v.Lo=true
   ·rw [if_pos e,if_pos (this.2 e)]
   ·rw [if_neg e,if_neg (fun h=>e (this.1 h))]
def uu6 {nw yes u v} (d:SpOk nw u) (e:SpOk nw v):yd0 (wk nw u v) yes=zx2 yes u v:=by
 have f:=d.u;have g:=e.u;have c:g9 .u64 u.Lo v.Lo=((u.Lo.toNat&&&v.Lo.toNat:Nat):Int):=zm5 f.1 g.1;cases yes with
 |false=>
  refine (yv5 (p:= ¬(u.Lo=u.Hi/\v.Lo=v.Hi/\u.Lo.toNat&&&v.Lo.toNat≠0)) ?_ _ (u,v) fun _=>rfl).trans ?_
  ·show ((!(qag (wk nw u v)))||(!(g9 .u64 u.Lo v.Lo != 0)))=_;rw [ya9,c];have b:(((u.Lo.toNat&&&v.Lo.toNat:Nat):Int) != 0)=decide (u.Lo.toNat&&&v.Lo.toNat≠0):=by rw [W9,bne_iff_ne,decide_eq_true_eq];omega
   rw [b];by_cases c1:u.Lo=u.Hi<;>by_cases c2:v.Lo=v.Hi<;>simp [c1,c2,wk]
  ·show _=if u.Lo=u.Hi/\v.Lo=v.Hi/\u.Lo.toNat&&&v.Lo.toNat≠0 then none else some (u,v)
   by_cases a:u.Lo=u.Hi/\v.Lo=v.Hi/\u.Lo.toNat&&&v.Lo.toNat≠0
   ·rw [if_pos a,if_neg (fun h=>h a)]
   ·rw [if_neg a,if_pos a]
 |true=>
  refine yv5 (p:=u.Hi>0/\v.Hi>0/\ ¬(u.Lo=u.Hi/\v.Lo=v.Hi/\u.Lo.toNat&&&v.Lo.toNat=0)) ?_ _ _ fun _=>?_
  ·show ((decide (u.Hi>0)&&decide (v.Hi>0))&&((!(qag (wk nw u v)))||(g9 .u64 u.Lo v.Lo != 0)))=_;rw [ya9,c];have b:(((u.Lo.toNat&&&v.Lo.toNat:Nat):Int) != 0)=decide (u.Lo.toNat&&&v.Lo.toNat≠0):=by rw [W9,bne_iff_ne,decide_eq_true_eq];omega
   rw [b];by_cases c1:u.Lo=u.Hi<;>by_cases c2:v.Lo=v.Hi<;>simp [c1,c2,wk,Bool.and_assoc]
  ·show ((⟨zh7 u.Lo 1,u.Hi⟩:j6),(⟨zh7 v.Lo 1,v.Hi⟩:j6))=_;rw [zi8,zi8]
def zac1 {op} (d:17<=op/\op<=27) {nw yes u v} (b:SpOk nw u) (c:SpOk nw v):ys8 (wk nw u v) op yes=qc9 nw op yes u v:=by
 have a: ∀q:Int,17<=q/\q<=26->zl4 (wk nw u v) op yes q=if q>=23 then zr3 nw q u v else zx7 q u v:=by
  intro q f;unfold zl4;rw [jq7,jq7];by_cases h:q>=23
  ·rw [if_pos h,if_pos (by simpa using h),kg2 (by omega) b c]
  ·rw [if_neg h,if_neg (by simpa using h),vc7 (by omega) b c]
 have e:op=17\/op=18\/op=19\/op=20\/op=21\/op=22\/op=23\/op=24\/op=25\/op=26\/op=27:=by omega
 rcases e with rfl|rfl|rfl|rfl|rfl|rfl|rfl|rfl|rfl|rfl|rfl
 case inr.inr.inr.inr.inr.inr.inr.inr.inr.inr=>
  show zk1 (yd0 (wk nw u v) yes) none (fun x=>some (x.1,x.2))=zx2 yes u v;rw [jq7,uu6 b c]
 ·cases yes with
  |true=>exact a 17 (by omega)
  |false=>exact a 18 (by omega)
 ·cases yes with
  |true=>exact a 18 (by omega)
  |false=>exact a 17 (by omega)
 ·cases yes with
  |true=>exact a 19 (by omega)
  |false=>exact a 22 (by omega)
 ·cases yes with
  |true=>exact a 20 (by omega)
  |false=>exact a 21 (by omega)
 ·cases yes with
  |true=>exact a 21 (by omega)
  |false=>exact a 20 (by omega)
 ·cases yes with
  |true=>exact a 22 (by omega)
  |false=>exact a 19 (by omega)
 ·cases yes with
  |true=>exact a 23 (by omega)
  |false=>exact a 26 (by omega)
 ·cases yes with
  |true=>exact a 24 (by omega)
  |false=>exact a 25 (by omega)
 ·cases yes with
  |true=>exact a 25 (by omega)
  |false=>exact a 24 (by omega)
 ·cases yes with
  |true=>exact a 26 (by omega)
  |false=>exact a 23 (by omega)
def jr7 {op} (c:17<=op/\op<=27) {nw yes a b} (f:q8 a.Lo/\q8 a.Hi) (g:q8 b.Lo/\q8 b.Hi) (d:a.Lo<=a.Hi) (e:b.Lo<=b.Hi):
  zq9 op nw yes a b=match qc9 nw op yes (qh a nw) (qh b nw) with|none=>(⟨0,0⟩,⟨0,0⟩,false)|some x=>(if a.Hi>j9 nw then a else x.1,if b.Hi>j9 nw then b else x.2,true):=by
 unfold zq9 q9 za5;rw [if_neg (by simp;omega),vw9];simp only;rw [zac1 c (zl5 f d) (zl5 g e)];cases qc9 nw op yes (qh a nw) (qh b nw) with
 |none=>rfl
 |some x=>
  show (if decide (a.Hi>j9 nw)=true then _ else _)=_;unfold yv9;simp only [decide_eq_true_eq];rw [show (wk nw (qh a nw) (qh b nw)).most=j9 nw from rfl];split<;>split<;>rfl
end Go.Y
namespace Go.Y
open Go.RowKit Go.V Go.X Go.Proofs
def Hs (s:j6) (x:Int):Prop:=s.Lo<=x/\x<=s.Hi
def Wi (s t:j6):Prop:=t.Lo<=s.Lo/\s.Hi<=t.Hi
def kw1 {a c d:Int} (b:0<=a) (e:0<c) (f:c<=d):a/d<=a/c:=by
 rw [Int.le_ediv_iff_mul_le e];have g:0<=a/d:=N3 b (by omega);have h:a/d*c<=a/d*d:=Int.mul_le_mul_of_nonneg_left f g;have i:a/d*d<=a:=Int.ediv_mul_le a (by omega);omega
def jj0 {a b c d:Int} (h:0<=a) (e:a<=b) (f:0<c) (g:c<=d):a/d<=b/c:=
 J3 (Int.ediv_le_ediv (by omega) e) (kw1 (by omega) f g)
def zq4 (k:Nat):(0:Int)<2^k:=V1 (by omega)
def ql5 {j k:Nat} (h:j<=k):(2:Int)^j<=2^k:=by
 have:=J4 (n:=2) (by decide) h;have e: ∀n:Nat,(2:Int)^n=((2^n:Nat):Int):=fun n=>by simp
 rw [e,e];omega
def vh2 {n:Int} (c:0<=n): ∃j:Nat,vi5 n=((2^j:Nat):Int)-1/\n.toNat<2^j/\ ∀k:Nat,n.toNat<2^k->j<=k:=by
 unfold vi5;by_cases a:n=0
 ·subst a;exact ⟨0,by simp,by decide,fun k _=>K6 k⟩
 ·rw [if_neg a];refine ⟨Nat.log2 n.toNat+1,rfl,(Nat.log2_lt (by omega)).1 (Nat.lt_succ_self _),fun k b=>?_⟩;have:=(Nat.log2_lt (n:=n.toNat) (k:=k) (by omega)).2 b;omega
def js3 {p q:Int}: ∃j:Nat,yu7 p q=((2^j:Nat):Int)-1/\p.toNat<2^j/\q.toNat<2^j/\ ∀k:Nat,p.toNat<2^k->q.toNat<2^k->j<=k:=by
 obtain ⟨j,c,a,b⟩:=vh2 (n:=((p.toNat|||q.toNat:Nat):Int)) (by omega);rw [Z1] at a b;exact ⟨j,c,Nat.lt_of_le_of_lt Nat.left_le_or a,Nat.lt_of_le_of_lt Nat.right_le_or a,fun k d e=>b k (K8 d e)⟩
def qy1 {p q a b:Int} (d:a<=p) (e:b<=q) {x:Nat} (c: ∀k:Nat,a.toNat<2^k->b.toNat<2^k->x<2^k):(x:Int)<=yu7 p q:=by
 obtain ⟨j,f,g,h,_⟩:=js3 (p:=p) (q:=q);have:=c j (by omega) (by omega);omega
def qh3 {nw:Bool} {p q:Int} (b:0<=p/\p<=j9 nw) (c:0<=q/\q<=j9 nw):max p q<=yu7 p q/\yu7 p q<=j9 nw:=by
 obtain ⟨j,d,f,g,a⟩:=js3 (p:=p) (q:=q);have h:=yn1 nw;have e:(2:Int)^zf1 nw=((2^zf1 nw:Nat):Int):=by simp
 have:=J4 (n:=2) (by decide) (a (zf1 nw) (by omega) (by omega));omega
def ju5 {nw:Bool} {p:Int} {s:Nat} (d:0<=p/\p<=j9 nw) (c:s<zf1 nw):0<=jb4 nw p s/\jb4 nw p s<=j9 nw:=by
 have f:=yn1 nw;have e:(2:Int)^zf1 nw=((2^zf1 nw:Nat):Int):=by simp
 have:=jn9 (z:=zf1 nw) (a:=p.toNat) (s:=s) (b:=decide (j9 nw<2*p)) (by omega) c;unfold jb4;omega
def jf4 {nw:Bool} {p q:Int} {s:Nat} (d:0<=p/\p<=q) (f:q<=j9 nw) (a:s<zf1 nw) (b:j9 nw<2*p↔j9 nw<2*q):jb4 nw p s<=jb4 nw q s:=by
 have g:=yn1 nw;have e:(2:Int)^zf1 nw=((2^zf1 nw:Nat):Int):=by simp
 unfold jb4;rw [ya7 (by omega) a,ya7 (by omega) a,show decide (j9 nw<2*p)=decide (j9 nw<2*q) from by rw [W9,decide_eq_true_eq,decide_eq_true_eq];exact b];have:=Nat.div_le_div_right (c:=2^s) (show p.toNat<=q.toNat by omega);omega
def qy9 {nw:Bool} {op p q x:Int} (i:1<=op/\op<=13) (f:0<=p/\p<=j9 nw) (g:0<=q/\q<=j9 nw) (h:qj6 nw op p q=some x):0<=x/\x<=j9 nw:=by
 have o:=zm9 nw;have j:=yn1 nw;have e:(2:Int)^zf1 nw=((2^zf1 nw:Nat):Int):=by simp
 have a: ∀z:Int,0<=z%(j9 nw+1)/\z%(j9 nw+1)<=j9 nw:=fun z=>by
  have k:=R5 z (show j9 nw+1≠0 by omega);have l:=S6 z (show 0<j9 nw+1 by omega);omega
 have m:op=1\/op=2\/op=3\/op=4\/op=5\/op=6\/op=7\/op=8\/op=9\/op=10\/op=11\/op=12\/op=13:=by omega
 have b:p.toNat<2^zf1 nw:=by omega
 have c:q.toNat<2^zf1 nw:=by omega
 have d: ∀y:Int,0<=y->0<=p/y/\p/y<=p:=fun y n=>⟨N3 f.1 n,T6 _ f.1⟩;rcases m with rfl|rfl|rfl|rfl|rfl|rfl|rfl|rfl|rfl|rfl|rfl|rfl|rfl
 ·obtain rfl:_=x:=X5 h;exact a _
 ·obtain rfl:_=x:=X5 h;exact a _
 ·obtain rfl:_=x:=X5 h;exact a _
 ·have h:(if q=0 then none else some (p/q))=some x:=h;split at h
  ·cases h
  ·obtain rfl:_=x:=X5 h;have:=d q g.1;omega
 ·have h:(if q=0 then none else some (p%q))=some x:=h;split at h
  ·cases h
  ·obtain rfl:_=x:=X5 h;have k:=R5 p (show q≠0 by omega);have l:=S6 p (show 0<q by omega);omega
 ·obtain rfl:((p.toNat&&&q.toNat:Nat):Int)=x:=X5 h;have:p.toNat&&&q.toNat<=p.toNat:=Nat.and_le_left;omega
 ·obtain rfl:((p.toNat|||q.toNat:Nat):Int)=x:=X5 h;have:=K8 b c;omega
 ·obtain rfl:((p.toNat^^^q.toNat:Nat):Int)=x:=X5 h;have:=M2 b c;omega
 ·obtain rfl:_=x:=X5 h;exact a _
 ·obtain rfl:p/2^shN nw q=x:=X5 h;have:=d (2^shN nw q) (V7 (zq4 _));omega
 ·obtain rfl:_=x:=X5 h;exact ju5 f (ji7 nw q)
 ·obtain rfl:q=x:=X5 h;exact g
 ·obtain rfl:_=x:=X5 h;exact a _
def wk4 {M a b c d p q:Int} (e:M=4294967295\/M=18446744073709551615) (f:0<=a/\b<=M/\0<=c/\d<=M) (g:a<=p/\p<=b) (h:c<=q/\q<=d) (i:d<=M-b\/c>M-a):
  (a+c)%(M+1)<=(p+q)%(M+1)/\(p+q)%(M+1)<=(b+d)%(M+1):=by rcases e with rfl|rfl<;>omega
def wl0 {M a b c d p q:Int} (e:M=4294967295\/M=18446744073709551615) (f:0<=a/\b<=M/\0<=c/\d<=M) (g:a<=p/\p<=b) (h:c<=q/\q<=d) (i:a>=d\/b<c):
  (a-d)%(M+1)<=(p-q)%(M+1)/\(p-q)%(M+1)<=(b-c)%(M+1):=by rcases e with rfl|rfl<;>omega
def wn4 {M a b p:Int} (c:M=4294967295\/M=18446744073709551615) (d:0<a/\b<=M) (e:a<=p/\p<=b):
  (0-b)%(M+1)<=(0-p)%(M+1)/\(0-p)%(M+1)<=(0-a)%(M+1)/\0<=(0-p)%(M+1)/\(0-p)%(M+1)<=M:=by rcases c with rfl|rfl<;>omega
def qs0 {nw:Bool} {op:Int} (P:1<=op/\op<=13) {u v r:j6} (F:SpOk nw u) (I:SpOk nw v) (g:jw9 nw op u v=some r):
  SpOk nw r/\ ∀p q x,Hs u p->Hs v q->qj6 nw op p q=some x->Hs r x:=by
 have i:=F.lo;have l:=F.le;have s:=F.hi;have w:=I.lo;have z:=I.le;have D:=I.hi;have V:=zm9 nw;have Q:=yn1 nw;have e:(2:Int)^zf1 nw=((2^zf1 nw:Nat):Int):=by simp
 have R:op=1\/op=2\/op=3\/op=4\/op=5\/op=6\/op=7\/op=8\/op=9\/op=10\/op=11\/op=12\/op=13:=by omega
 have J:=ge2 nw;rcases R with rfl|rfl|rfl|rfl|rfl|rfl|rfl|rfl|rfl|rfl|rfl|rfl|rfl
 ·have g:(if v.Hi<=j9 nw-u.Hi\/v.Lo>j9 nw-u.Lo then some (⟨(u.Lo+v.Lo)%(j9 nw+1),(u.Hi+v.Hi)%(j9 nw+1)⟩:j6) else none)=some r:=g;split at g
  ·rename_i y;obtain rfl:=X5 g;have j: ∀p q,Hs u p->Hs v q->(u.Lo+v.Lo)%(j9 nw+1)<=(p+q)%(j9 nw+1)/\(p+q)%(j9 nw+1)<=(u.Hi+v.Hi)%(j9 nw+1):=
    fun p q c d=>wk4 J ⟨i,s,w,D⟩ c d y
   refine ⟨⟨?_,(J3 (j u.Lo v.Lo ⟨W7 _,l⟩ ⟨W7 _,z⟩).2 (W7 _)),?_⟩,fun p q x c d f=>?_⟩
   ·exact R5 _ (by omega)
   ·have:=S6 (u.Hi+v.Hi) (show 0<j9 nw+1 by omega);show (u.Hi+v.Hi)%(j9 nw+1)<=j9 nw;omega
   ·obtain rfl:(p+q)%(j9 nw+1)=x:=X5 f;exact j p q c d
  ·cases g
 ·have g:(if u.Lo>=v.Hi\/u.Hi<v.Lo then some (⟨(u.Lo-v.Hi)%(j9 nw+1),(u.Hi-v.Lo)%(j9 nw+1)⟩:j6) else none)=some r:=g;split at g
  ·rename_i y;obtain rfl:=X5 g;have j: ∀p q,Hs u p->Hs v q->(u.Lo-v.Hi)%(j9 nw+1)<=(p-q)%(j9 nw+1)/\(p-q)%(j9 nw+1)<=(u.Hi-v.Lo)%(j9 nw+1):=
    fun p q c d=>wl0 J ⟨i,s,w,D⟩ c d y
   refine ⟨⟨?_,(J3 (j u.Lo v.Hi ⟨W7 _,l⟩ ⟨z,W7 _⟩).2 (W7 _)),?_⟩,fun p q x c d f=>?_⟩
   ·exact R5 _ (by omega)
   ·have:=S6 (u.Hi-v.Lo) (show 0<j9 nw+1 by omega);show (u.Hi-v.Lo)%(j9 nw+1)<=j9 nw;omega
   ·obtain rfl:(p-q)%(j9 nw+1)=x:=X5 f;exact j p q c d
  ·cases g
 ·have g:(if u.Hi*v.Hi<=j9 nw then some (⟨u.Lo*v.Lo,u.Hi*v.Hi⟩:j6) else none)=some r:=g;split at g
  ·rename_i y;obtain rfl:=X5 g;have j: ∀p q,Hs u p->Hs v q->u.Lo*v.Lo<=p*q/\p*q<=u.Hi*v.Hi:=fun p q c d=>
    ⟨Int.mul_le_mul c.1 d.1 w (by have:=c.1;omega),Int.mul_le_mul c.2 d.2 (by have:=d.1;omega) (by omega)⟩
   refine ⟨⟨M4 i w,(j u.Lo v.Lo ⟨W7 _,l⟩ ⟨W7 _,z⟩).2,y⟩,fun p q x c d f=>?_⟩;obtain rfl:(p*q)%(j9 nw+1)=x:=X5 f;have:=j p q c d;have X:0<=u.Lo*v.Lo:=M4 i w;rw [V9 (by omega) (by omega)];exact this
  ·cases g
 ·obtain rfl:(⟨u.Lo/max v.Hi 1,u.Hi/max v.Lo 1⟩:j6)=r:=X5 g;have m:0<=u.Lo/max v.Hi 1:=N3 i (by omega);have o:u.Hi/max v.Lo 1<=u.Hi:=T6 _ (by omega);refine ⟨⟨m,jj0 i l (by omega) (by omega),by show u.Hi/max v.Lo 1<=_;omega⟩,fun p q x c d f=>?_⟩;have f:(if q=0 then none else some (p/q))=some x:=f;split at f
  ·cases f
  ·obtain rfl:=X5 f;have:=c.1;have:=c.2;have:=d.1;have:=d.2;exact ⟨jj0 i (by omega) (by omega) (by omega),jj0 (by omega) (by omega) (by omega) (by omega)⟩
 ·obtain rfl:(if u.Hi<max v.Lo 1 then u else (⟨0,min u.Hi (max v.Hi 1-1)⟩:j6))=r:=X5 g;have t: ∀p q x,Hs u p->Hs v q->qj6 nw 5 p q=some x->0<=x/\x<=p/\x<q/\(p<q->x=p):=by
   intro p q x c d f;have f:(if q=0 then none else some (p%q))=some x:=f;split at f
   ·cases f
   ·obtain rfl:=X5 f;have m:=c.1;have o:=d.1;have C:=R5 p (show q≠0 by omega);have E:=S6 p (show 0<q by omega);have N:p%q<=p:=by
     have:=Int.emod_def p q;have Y:0<=q*(p/q):=M4 (by omega) (N3 (by omega) (by omega));omega
    exact ⟨C,N,E,fun h=>V9 (by omega) h⟩
  split
  ·rename_i y;refine ⟨F,fun p q x c d f=>?_⟩;obtain ⟨m,o,C,E⟩:=t p q x c d f;have:=c.2;have:=d.1;rw [E (by omega)];exact c
  ·refine ⟨⟨W7 _,by show (0:Int)<=min u.Hi (max v.Hi 1-1);omega,by show min u.Hi (max v.Hi 1-1)<=_;omega⟩,fun p q x c d f=>?_⟩;obtain ⟨m,o,C,E⟩:=t p q x c d f;have:=c.2;have:=d.2;exact ⟨m,by show x<=min u.Hi (max v.Hi 1-1);omega⟩
 ·obtain rfl:(if u.Lo=u.Hi/\v.Lo=v.Hi then (⟨((u.Lo.toNat&&&v.Lo.toNat:Nat):Int),((u.Lo.toNat&&&v.Lo.toNat:Nat):Int)⟩:j6) else ⟨0,min u.Hi v.Hi⟩)=r:=X5 g;have G: ∀a b:Nat,a&&&b<=a/\a&&&b<=b:=fun a b=>⟨Nat.and_le_left,Nat.and_le_right⟩;split
  ·rename_i y;have C:=G u.Lo.toNat v.Lo.toNat;refine ⟨⟨by show (0:Int)<=((_:Nat):Int);omega,W7 _,by show ((u.Lo.toNat&&&v.Lo.toNat:Nat):Int)<=_;omega⟩,fun p q x c d f=>?_⟩;obtain rfl:((p.toNat&&&q.toNat:Nat):Int)=x:=X5 f;have m:p=u.Lo:=by have:=c.1;have:=c.2;omega
   have o:q=v.Lo:=by have:=d.1;have:=d.2;omega
   subst m;subst o;exact ⟨W7 _,W7 _⟩
  ·refine ⟨⟨W7 _,by show (0:Int)<=min u.Hi v.Hi;omega,by show min u.Hi v.Hi<=_;omega⟩,fun p q x c d f=>?_⟩;obtain rfl:((p.toNat&&&q.toNat:Nat):Int)=x:=X5 f;have C:=G p.toNat q.toNat;have:=c.1;have:=c.2;have:=d.1;have:=d.2;exact ⟨by show (0:Int)<=((_:Nat):Int);omega,by show ((p.toNat&&&q.toNat:Nat):Int)<=min u.Hi v.Hi;omega⟩
 ·obtain rfl:(if u.Lo=u.Hi/\v.Lo=v.Hi then (⟨((u.Lo.toNat|||v.Lo.toNat:Nat):Int),((u.Lo.toNat|||v.Lo.toNat:Nat):Int)⟩:j6) else ⟨max u.Lo v.Lo,yu7 u.Hi v.Hi⟩)=r:=X5 g;have K:=qh3 (nw:=nw) ⟨J3 i l,s⟩ ⟨J3 w z,D⟩;split
  ·rename_i y;have C:=K8 (n:=zf1 nw) (show u.Lo.toNat<_ by omega) (show v.Lo.toNat<_ by omega);refine ⟨⟨by show (0:Int)<=((_:Nat):Int);omega,W7 _,by show ((u.Lo.toNat|||v.Lo.toNat:Nat):Int)<=_;omega⟩,fun p q x c d f=>?_⟩;obtain rfl:((p.toNat|||q.toNat:Nat):Int)=x:=X5 f;have m:p=u.Lo:=by have:=c.1;have:=c.2;omega
   have o:q=v.Lo:=by have:=d.1;have:=d.2;omega
   subst m;subst o;exact ⟨W7 _,W7 _⟩
  ·refine ⟨⟨by show (0:Int)<=max u.Lo v.Lo;omega,by show max u.Lo v.Lo<=yu7 u.Hi v.Hi;omega,K.2⟩,fun p q x c d f=>?_⟩;obtain rfl:((p.toNat|||q.toNat:Nat):Int)=x:=X5 f;have C:p.toNat<=p.toNat|||q.toNat:=Nat.left_le_or;have E:q.toNat<=p.toNat|||q.toNat:=Nat.right_le_or;have:=c.1;have:=d.1;exact ⟨by show max u.Lo v.Lo<=((p.toNat|||q.toNat:Nat):Int);omega,qy1 c.2 d.2 fun k m o=>K8 m o⟩
 ·obtain rfl:(if u.Lo=u.Hi/\v.Lo=v.Hi then (⟨((u.Lo.toNat^^^v.Lo.toNat:Nat):Int),((u.Lo.toNat^^^v.Lo.toNat:Nat):Int)⟩:j6) else ⟨0,yu7 u.Hi v.Hi⟩)=r:=X5 g;have K:=qh3 (nw:=nw) ⟨J3 i l,s⟩ ⟨J3 w z,D⟩;split
  ·rename_i y;have C:=M2 (n:=zf1 nw) (show u.Lo.toNat<_ by omega) (show v.Lo.toNat<_ by omega);refine ⟨⟨by show (0:Int)<=((_:Nat):Int);omega,W7 _,by show ((u.Lo.toNat^^^v.Lo.toNat:Nat):Int)<=_;omega⟩,fun p q x c d f=>?_⟩;obtain rfl:((p.toNat^^^q.toNat:Nat):Int)=x:=X5 f;have m:p=u.Lo:=by have:=c.1;have:=c.2;omega
   have o:q=v.Lo:=by have:=d.1;have:=d.2;omega
   subst m;subst o;exact ⟨W7 _,W7 _⟩
  ·refine ⟨⟨W7 _,by show (0:Int)<=yu7 u.Hi v.Hi;omega,K.2⟩,fun p q x c d f=>?_⟩;obtain rfl:((p.toNat^^^q.toNat:Nat):Int)=x:=X5 f;exact ⟨by show (0:Int)<=((_:Nat):Int);omega,qy1 c.2 d.2 fun k m o=>M2 m o⟩
 ·have g:(if v.Lo=v.Hi/\u.Hi*2^shN nw v.Lo<=j9 nw then some (⟨u.Lo*2^shN nw v.Lo,u.Hi*2^shN nw v.Lo⟩:j6) else none)=some r:=g;split at g
  ·rename_i y;obtain rfl:=X5 g;have H:=zq4 (shN nw v.Lo);refine ⟨⟨M4 i (by omega),S9 l (by omega),y.2⟩,fun p q x c d f=>?_⟩;obtain rfl:(p*2^shN nw q)%(j9 nw+1)=x:=X5 f;have o:q=v.Lo:=by have:=d.1;have:=d.2;omega
   subst o;have C:=S9 c.1 (show (0:Int)<=2^shN nw v.Lo by omega);have E:=S9 c.2 (show (0:Int)<=2^shN nw v.Lo by omega);have N:0<=u.Lo*2^shN nw v.Lo:=M4 i (by omega);rw [V9 (by omega) (by omega)];exact ⟨C,E⟩
  ·cases g
 ·obtain rfl:(if v.Lo=v.Hi then (⟨u.Lo/2^shN nw v.Lo,u.Hi/2^shN nw v.Lo⟩:j6) else if v.Hi>=zf1 nw then ⟨0,u.Hi⟩ else ⟨u.Lo/2^v.Hi.toNat,u.Hi/2^v.Lo.toNat⟩)=r:=X5 g;have A: ∀(a:Int) (k:Nat),0<=a->0<=a/2^k/\a/2^k<=a:=fun a k O=>⟨N3 O (V7 (zq4 _)),T6 _ O⟩;split
  ·have m:=A u.Lo (shN nw v.Lo) i;have o:=A u.Hi (shN nw v.Lo) (by omega);refine ⟨⟨m.1,Int.ediv_le_ediv (zq4 _) l,by show u.Hi/2^shN nw v.Lo<=_;omega⟩,fun p q x c d f=>?_⟩;obtain rfl:p/2^shN nw q=x:=X5 f;have o:q=v.Lo:=by have:=d.1;have:=d.2;omega
   subst o;exact ⟨Int.ediv_le_ediv (zq4 _) c.1,Int.ediv_le_ediv (zq4 _) c.2⟩
  ·split
   ·refine ⟨⟨W7 _,by show (0:Int)<=u.Hi;omega,s⟩,fun p q x c d f=>?_⟩;obtain rfl:p/2^shN nw q=x:=X5 f;have:=A p (shN nw q) (by have:=c.1;omega);have:=c.2;exact ⟨by show (0:Int)<=p/2^shN nw q;omega,by show p/2^shN nw q<=u.Hi;omega⟩
   ·have m:=A u.Lo v.Hi.toNat i;have o:=A u.Hi v.Lo.toNat (by omega);refine ⟨⟨m.1,jj0 i l (zq4 _) (ql5 (by omega)),by show u.Hi/2^v.Lo.toNat<=_;omega⟩,fun p q x c d f=>?_⟩;obtain rfl:p/2^shN nw q=x:=X5 f;have S:=d.1;have T:=d.2;have U:shN nw q=q.toNat:=by unfold shN;rw [V9 (by omega) (by omega)]
    rw [U];exact ⟨jj0 i c.1 (zq4 _) (ql5 (by omega)),jj0 (by have:=c.1;omega) c.2 (zq4 _) (ql5 (by omega))⟩
 ·have g:(if v.Lo=v.Hi/\(j9 nw<2*u.Lo↔j9 nw<2*u.Hi) then some (⟨jb4 nw u.Lo (shN nw v.Lo),jb4 nw u.Hi (shN nw v.Lo)⟩:j6) else none)=some r:=g;split at g
  ·rename_i y;obtain rfl:=X5 g;have B:=ji7 nw v.Lo;refine ⟨⟨(ju5 ⟨i,by omega⟩ B).1,jf4 ⟨i,l⟩ s B y.2,(ju5 ⟨by omega,s⟩ B).2⟩,fun p q x c d f=>?_⟩;obtain rfl:jb4 nw p (shN nw q)=x:=X5 f;have o:q=v.Lo:=by have:=d.1;have:=d.2;omega
   subst o;have L:=c.1;have H:=c.2;exact ⟨jf4 ⟨i,L⟩ (by omega) B (by omega),jf4 ⟨by omega,H⟩ s B (by omega)⟩
  ·cases g
 ·obtain rfl:v=r:=X5 g;refine ⟨I,fun p q x c d f=>?_⟩;obtain rfl:q=x:=X5 f;exact d
 ·have g:(if u.Hi=0 then some u else if u.Lo>0 then some (⟨(0-u.Hi)%(j9 nw+1),(0-u.Lo)%(j9 nw+1)⟩:j6) else none)=some r:=g;have t: ∀p q x,qj6 nw 13 p q=some x->x=(0-p)%(j9 nw+1):=fun p q x f=>(X5 f).symm;split at g
  ·rename_i y;obtain rfl:=X5 g;refine ⟨F,fun p q x c d f=>?_⟩;have m:p=0:=by have:=c.1;have:=c.2;omega
   rw [t p q x f,m,show (0:Int)-0=0 from rfl,Int.zero_emod];exact ⟨by omega,by omega⟩
  ·split at g
   ·rename_i y M;obtain rfl:=X5 g;have j: ∀p,Hs u p->(0-u.Hi)%(j9 nw+1)<=(0-p)%(j9 nw+1)/\(0-p)%(j9 nw+1)<=(0-u.Lo)%(j9 nw+1)/\0<=(0-p)%(j9 nw+1)/\(0-p)%(j9 nw+1)<=j9 nw:=
     fun p c=>wn4 J ⟨M,s⟩ c
    refine ⟨⟨(j u.Hi ⟨l,W7 _⟩).2.2.1,(j u.Hi ⟨l,W7 _⟩).2.1,(j u.Lo ⟨W7 _,l⟩).2.2.2⟩,fun p q x c d f=>?_⟩;rw [t p q x f];exact ⟨(j p c).1,(j p c).2.1⟩
   ·cases g
def jr6 {s:j6} {nw:Bool} {p:Int} (h:q8 s.Lo/\q8 s.Hi) (a:Hs s p):Hs (qh s nw) (yc5 nw p):=by
 cases nw with
 |false=>exact a
 |true=>
  have c:=a.1;have d:=a.2;unfold qh;simp only [W5,W8,if_false,gv8,yj9 h.1,yj9 h.2];show Hs _ (p%4294967296);split
  ·exact ⟨by show (0:Int)<=_;omega,by show p%4294967296<=(4294967295:Int);omega⟩
  ·rename_i b;have b:s.Lo/4294967296=s.Hi/4294967296:=by simpa using b
   exact ⟨by show s.Lo%4294967296<=_;omega,by show _<=s.Hi%4294967296;omega⟩
def jt9 {op:Int} (c:1<=op/\op<=13) {nw:Bool} {a b:j6} (l:q8 a.Lo/\q8 a.Hi) (m:q8 b.Lo/\q8 b.Hi) (f:a.Lo<=a.Hi) (g:b.Lo<=b.Hi):
  SpOk nw (span_Do op nw a b)/\ ∀p q,q8 p->q8 q->Hs a p->Hs b q->(za4 op nw p q).2=0->Hs (span_Do op nw a b) (za4 op nw p q).1:=by
 have n:=zl5 (nw:=nw) l f;have o:=zl5 (nw:=nw) m g;rw [zr7,if_pos ⟨c,f,g⟩,qf9 c n o];have i: ∀p q,q8 p->q8 q->(za4 op nw p q).2=0->qj6 nw op (yc5 nw p) (yc5 nw q)=some (za4 op nw p q).1:=by
  intro p q d e h;rw [zm0 c d e] at h⊢;cases hx:qj6 nw op (yc5 nw p) (yc5 nw q) with
  |none=>rw [hx] at h;exact absurd h (by decide)
  |some x=>rfl
 cases hr:jw9 nw op (qh a nw) (qh b nw) with
 |none=>
  refine ⟨⟨W7 _,(zm9 nw).1,W7 _⟩,fun p q d e _ _ h=>?_⟩;exact qy9 c (jp6 d) (jp6 e) (i p q d e h)
 |some r=>
  obtain ⟨s,t⟩:=qs0 c n o hr;exact ⟨s,fun p q d e j k h=>t _ _ _ (jr6 l j) (jr6 m k) (i p q d e h)⟩
end Go.Y
namespace Go.Y
open Go.RowKit Go.V Go.X
def j5 {R} (c:Bool) (x y:Option R):j4 c x y=if c=true then x else y:=rfl
def z9 {R} (x y:Option R):j4 true x y=x:=rfl
def z5 {R} (x y:Option R):j4 false x y=y:=rfl
def z6 {α b} (a:α) (f:α->Option b):z8 (some a) f=f a:=rfl
def za9 {R} (c:Bool) (x y:R):j4 c (some x) (some y)=some (if c=true then x else y):=by cases c<;>rfl
def zx8 (c x):j4 c (some x) (some false)=some (c&&x):=by cases c<;>rfl
def u0 {x} (h: -9223372036854775808<=x/\x<=9223372036854775807):IntKind.i64.wrap x=x:=by
 unfold IntKind.wrap;simp [IntKind.bits,IntKind.signed];omega
def zc1 {x} (h:0<=x/\x<=18446744073709551615):IntKind.u64.wrap x=x:=by
 unfold IntKind.wrap;simp [IntKind.bits,IntKind.signed];omega
def loop {α} (f:Nat->Nat->Option α) (c len:Nat) (r:Option α) (a: ∀n k,k<len->f (n+c) k=f n (k+1)) (b: ∀n,f (n+1) len=r): ∀m k n,k+m=len->c*m+1<=n->f n k=r
 |0,k,n,g,e=>by
  obtain ⟨d,rfl⟩: ∃d,n=d+1:=⟨n-1,by omega⟩;have:k=len:=by omega
  subst this;exact b d
 |m+1,k,n,g,e=>by
  obtain ⟨d,rfl⟩: ∃d,n=d+c:=⟨n-c,by rw [Nat.mul_succ] at e;omega⟩;rw [a d k (by omega)];exact loop f c len r a b m (k+1) d (by omega) (by rw [Nat.mul_succ] at e;omega)
def vf6 {α} (f:Nat->Nat->Option α) (c len:Nat) (r:Option α) (a: ∀n k,k<len->f (n+c) k=f n (k+1)) (b: ∀n,f (n+1) len=r) (n:Nat) (d:c*len+1<=n):f n 0=r:=loop f c len r a b len 0 n (by omega) d
def ws4 {α} (f:Nat->Nat->Option α) (c len:Nat) (r:Nat->Option α) (a: ∀n k,k<len->f (n+c) k=r k\/(f (n+c) k=f n (k+1)/\r k=r (k+1))) (b: ∀n,f (n+1) len=r len): ∀m k n,k+m=len->c*m+1<=n->f n k=r k
 |0,k,n,g,e=>by
  obtain ⟨d,rfl⟩: ∃d,n=d+1:=⟨n-1,by omega⟩;have:k=len:=by omega
  subst this;exact b d
 |m+1,k,n,g,e=>by
  obtain ⟨d,rfl⟩: ∃d,n=d+c:=⟨n-c,by rw [Nat.mul_succ] at e;omega⟩;rcases a d k (by omega) with h|⟨i,j⟩
  ·exact h
  ·rw [i,j];exact ws4 f c len r a b m (k+1) d (by omega) (by rw [Nat.mul_succ] at e;omega)
def nx {k len:Nat} (h:k<len) (a:len<=1000000000):IntKind.i64.wrap ((k:Int)+1)=((k+1:Nat):Int):=by rw [u0 (by omega)];omega
end Go.Y
