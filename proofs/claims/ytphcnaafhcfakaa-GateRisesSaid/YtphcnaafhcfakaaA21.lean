/-
  The chapter's messages are packed and unpacked as it says (awake).
-/
import Derived.Test.YtphcnaafhcfakaaA20
-- all by hand
namespace Go.Proofs.Ytphcnaafhcfakaa
open Go.Hb
attribute [local irreducible] LR CW At Ev thn blk finK noG again CallsTo DW QL dnext
set_option linter.unusedSimpArgs false
set_option linter.unusedVariables false
set_option maxRecDepth 100000

def markedM : Msg := ⟨2, 3, 0, 0, 0, 0, 0, false, 5, 2, 1, 7, []⟩
def textM : Msg := ⟨1, 1, 9, 2, 0, 1, 130, true, 0, 0, 0, 0, [65]⟩
theorem p_marked : pack markedM = ([2, 3, 0, 0, 0, 0, 0, 0, 5, 2, 1, 7, 0], 0) := by kernel_rfl
theorem p_text : pack textM = ([1, 1, 9, 2, 0, 1, 130, 1, 1, 0, 0, 0, 0, 1, 65], 0) := by kernel_rfl
theorem u_text : unpack [1, 1, 9, 2, 0, 1, 130, 1, 1, 0, 0, 0, 0, 1, 65] = (textM, 0) := by kernel_rfl

end Go.Proofs.Ytphcnaafhcfakaa
