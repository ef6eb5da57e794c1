import Derived.Test.YtliopfopmhhdeaaGreatAB
namespace Go.X
open Go.RowKit Go.V
section
variable (T:Tab)
end
section
variable {T:Tab} {P:Program}
end
end Go.X
