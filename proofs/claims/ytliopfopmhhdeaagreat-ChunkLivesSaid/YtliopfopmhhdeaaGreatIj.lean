import Derived.Test.YtliopfopmhhdeaaGreatIa
namespace Go.X
open Go.RowKit Go.V Go.Proofs
section
variable {P:Program} {ops:Array Oper} {Q:Exit->Act->World->Prop} {k n:Nat} {F:PF} {w:World}
end
structure ChCon (W:World) (g1 g2 N:Nat) (ad:Option Addr) (cap len:Nat):Prop where
 b1:Blk W g1 #[.slice ad len cap] 22
 b2:Blk W g2 #[.int .i64 1024] 3
 cnt:(len+1023)/1024=N
 le:len<=cap
 big:len<=1099511627776
section
variable {w0 w:World} {S0:Ow} {F:AF TT} {H:List (Ent TT.U)} {F':PF} {S:List Nat} {φ:Nat->RA}
end
end Go.X
