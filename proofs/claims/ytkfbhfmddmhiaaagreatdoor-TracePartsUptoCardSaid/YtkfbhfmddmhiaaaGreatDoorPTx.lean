-- PRINTED by print.py (a twelfth state) out of the translation. Not trusted: Lean checks it.
import Derived.Test.YtkfbhfmddmhiaaaGreatDoorPTx0
import Derived.Test.YtkfbhfmddmhiaaaGreatDoorPTx1
import Derived.Test.YtkfbhfmddmhiaaaGreatDoorPTx2
import Derived.Test.YtkfbhfmddmhiaaaGreatDoorPTx3
import Derived.Test.YtkfbhfmddmhiaaaGreatDoorPTx4
import Derived.Test.YtkfbhfmddmhiaaaGreatDoorPTx5
import Derived.Test.YtkfbhfmddmhiaaaGreatDoorPTx6
import Derived.Test.YtkfbhfmddmhiaaaGreatDoorPTx7
namespace Go.Proofs.YtkfbhfmddmhiaaaGreatDoor.PT
open Go.RowKit Go.Proofs.YtkfbhfmddmhiaaaGreatDoorW.PrintWords Go.Proofs.YtkfbhfmddmhiaaaGreatDoorW.PrintLast Go.Proofs.YtkfbhfmddmhiaaaGreatDoorW.PrintMore
attribute [local go_sem] max2_int min2_int max_two min_two max_three min_three max_four min_four   -- for this text's walks alone
set_option linter.unusedVariables false
set_option linter.unusedSimpArgs false

end Go.Proofs.YtkfbhfmddmhiaaaGreatDoor.PT
