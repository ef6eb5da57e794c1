/- A function that leaves all that it was handed as it was. Nothing here is about one program. -/
import Derived.Test.YtjjlcenmifcaeaaXK
namespace Go.X
open Go.RowKit Go.V

section
variable (T : Tab)
end
section
variable {T : Tab} {P : Program}
end
end Go.X
