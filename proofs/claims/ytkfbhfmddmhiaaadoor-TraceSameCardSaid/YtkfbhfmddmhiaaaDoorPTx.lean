-- PRINTED by print.py (a twelfth state) out of the translation. Not trusted: Lean checks it.
import Derived.Test.YtkfbhfmddmhiaaaDoorPTx0
import Derived.Test.YtkfbhfmddmhiaaaDoorPTx1
import Derived.Test.YtkfbhfmddmhiaaaDoorPTx2
import Derived.Test.YtkfbhfmddmhiaaaDoorPTx3
import Derived.Test.YtkfbhfmddmhiaaaDoorPTx4
import Derived.Test.YtkfbhfmddmhiaaaDoorPTx5
import Derived.Test.YtkfbhfmddmhiaaaDoorPTx6
namespace Go.Proofs.YtkfbhfmddmhiaaaDoor.PT
open Go.RowKit Go.Proofs.YtkfbhfmddmhiaaaDoorW.PrintWords Go.Proofs.YtkfbhfmddmhiaaaDoorW.PrintLast Go.Proofs.YtkfbhfmddmhiaaaDoorW.PrintMore
attribute [local go_sem] max2_int min2_int max_two min_two max_three min_three max_four min_four   -- for this text's walks alone
set_option linter.unusedVariables false
set_option linter.unusedSimpArgs false

end Go.Proofs.YtkfbhfmddmhiaaaDoor.PT
