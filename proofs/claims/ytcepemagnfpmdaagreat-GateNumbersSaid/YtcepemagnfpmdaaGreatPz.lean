import Derived.Test.YtcepemagnfpmdaaGreatLv1
import Derived.Test.YtcepemagnfpmdaaGreatLv2
import Derived.Test.YtcepemagnfpmdaaGreatLv3
import Derived.Test.YtcepemagnfpmdaaGreatLv4
import Derived.Test.YtcepemagnfpmdaaGreatLv5
import Derived.Test.YtcepemagnfpmdaaGreatLv6
import Derived.Test.YtcepemagnfpmdaaGreatLv7
import Derived.Test.YtcepemagnfpmdaaGreatLv8
import Derived.Test.YtcepemagnfpmdaaGreatAw
set_option linter.defProp false
namespace Go.Y
open Go.RowKit Go.V Go.X Go.Proofs
def zm0 {R:Type} {c:Bool} {x y:Option R} (h:c=false):zb8 c x y=y:=by subst h;rfl
def zn0 {R:Type} {c:Bool} {x y:Option R} (h:c=true):zb8 c x y=x:=by subst h;rfl
def zd6 {α β:Type} (x:α) (f:α->Option β):za0 (some x) f=f x:=rfl
def ye5:zc0=some true:=law29_awakeO_eq.trans qs4
abbrev jc8 (v:Int):(Int×Int×Unit×Unit×Int×Int×Unit×Unit×Int×Int×Unit×Unit×Int×Int×Unit×Unit×Int×Int×Unit×Unit×Unit)×List Ins×List Int×List Ins×List Ins×Unit:=((0,v,(),(),3,0,(),(),0,5,(),(),0,v,(),(),3,0,(),(),()),zd4,[1],zd4,exI,())
def lv1:zi2 zd4 [1] zd4 exI=some (jc8 (-9223372036854775808),(true,())):=by rw [zn7,ge7,ye5];rfl
def lv2:zi3 zd4 [1] zd4 exI=some (jc8 (-1),(true,())):=by rw [zn8,ge8,ye5];rfl
def lv3:zi4 zd4 [1] zd4 exI=some (jc8 0,(true,())):=by rw [zn9,ge9,ye5];rfl
def lv4:zi5 zd4 [1] zd4 exI=some (jc8 1,(true,())):=by rw [zo0,gf0,ye5];rfl
def lv5:zi6 zd4 [1] zd4 exI=some (jc8 1073741823,(true,())):=by rw [zo1,gf1,ye5];rfl
def lv6:zi7 zd4 [1] zd4 exI=some (jc8 1073741824,(true,())):=by rw [zo2,gf2,ye5];rfl
def lv7:zi8 zd4 [1] zd4 exI=some (jc8 1073741825,(true,())):=by rw [zo3,gf3,ye5];rfl
def lv8:zi9 zd4 [1] zd4 exI=some (jc8 9223372036854775807,(true,())):=by rw [zo4,gf4,ye5];rfl
def gy2:qq w7=some zd4:=by kernel_rfl
def gx2:qn w7=some ((),(((),true,()),())):=by kernel_rfl
abbrev jm1:List Flat:= [⟨2,0,false,0,2,0,0,0,0⟩,⟨9,0,false,0,0,0,0,0,0⟩]
def gw6:qa w7 true 9 ja9=some ((((9,ja9,0,0,0,(),()),true,()),ja9,()),(⟨0,0⟩,())):=by kernel_rfl
def pk6 (xs:List Int):qt w7 9 ja9 0 0 0 true xs 1 65535=some ((((),true,()),(9,(),1,0,0,jm1,()),ja9,xs,()),(65535,9,())):=by kernel_rfl
def kn3:qh w7 9 ja9 1 0 0 jm1 true=some ((((),true,()),(9,(),1,0,0,(),()),ja9,jm1,()),(true,())):=by kernel_rfl
def pk7 (xs:List Int) (h:xs.length=65536):qbf w7 9 ja9 1 0 0 jm1 true xs=some ((((),true,()),(9,(),1,0,0,(),()),ja9,jm1,xs,()),(0,9,())):=by
 rw [gi6,kn3,zd6];refine (zm0 rfl).trans ?_;exact zn0 (by rw [h];rfl)
def pk4:qm w7 9 ja9 1 0 0 jm1 true=some ((((),true,()),(9,(),1,0,0,jm1,()),ja9,(),()),(0,9,())):=by kernel_rfl
def numbers_true:qbo w7=some true:=by
 rw [show qbo w7=qbo (999999991+9) from rfl,gj6];generalize hx:List.replicate 65536 (0:Int)=xs;have hl:xs.length=65536:=by rw [<-hx];exact Z9
 rw [gy2,zd6,zd6,lv1,zd6];refine (zm0 rfl).trans ?_;rw [zd6,zd6,lv2,zd6];refine (zm0 rfl).trans ?_;rw [zd6,zd6,lv3,zd6];refine (zm0 rfl).trans ?_;rw [zd6,zd6,lv4,zd6];refine (zm0 rfl).trans ?_;rw [zd6,zd6,lv5,zd6];refine (zm0 rfl).trans ?_;rw [zd6,zd6,lv6,zd6];refine (zm0 rfl).trans ?_;rw [zd6,zd6,lv7,zd6];refine (zm0 rfl).trans ?_;rw [zd6,zd6,lv8,zd6];refine (zm0 rfl).trans ?_;rw [gx2,zd6,if_pos (by decide)];refine (zm0 (by kernel_rfl)).trans ?_;rw [gw6,zd6,hl,if_pos (by decide),show (((65536:Nat):Int).toNat-1)=65535 from rfl,pk6,zd6,pk7 xs hl,zd6,pk4,zd6];refine (zn0 rfl).trans ((zn0 rfl).trans ((zn0 rfl).trans ((zn0 rfl).trans ((zn0 rfl).trans ((zn0 rfl).trans ((zn0 rfl).trans ?_))))));rw [ye5,zd6]
end Go.Y
