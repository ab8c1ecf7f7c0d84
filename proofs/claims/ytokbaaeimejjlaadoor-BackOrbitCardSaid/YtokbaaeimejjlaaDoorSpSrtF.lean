/- slices.Sorted(slices.Values(l)) as a word of models. -/
import Derived.Test.YtokbaaeimejjlaaDoorSpClo3x
import Derived.Test.YtokbaaeimejjlaaDoorBkCellsx

namespace Go.Sp
open Go
noncomputable section
end
end Go.Sp
