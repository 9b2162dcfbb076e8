/- Contract: alive. No condition. -/
import Derived.Test.YtcbcmfmcpdimkaaD
import Derived.Test.YtcbcmfmcpdimkaaQ
set_option maxRecDepth 100000
set_option linter.unusedSimpArgs false
set_option linter.unusedVariables false
namespace Go.Vm
open Go Go.RowKit Go.Proofs

def trueG : List DV → Option RV
  | [] => some (.one (.pl (.bool true)))
  | _ => none

theorem full_big : 18446744073709551616 < full := by rw [full_eq]; omega
theorem okW_lit1 : okW 1 = true := okW_of (by omega) (by omega)
theorem okW_lit2 : okW 2 = true := okW_of (by omega) (by omega)

end Go.Vm
