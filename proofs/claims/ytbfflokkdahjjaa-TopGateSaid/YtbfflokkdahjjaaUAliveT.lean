/- The example of the gate's theorems, reckoned. -/
import Derived.Test.YtbfflokkdahjjaaGNew
import Derived.Test.YtbfflokkdahjjaaUGate
namespace Go.Proofs.Ytbfflokkdahjjaa.PV
open Go.RowKit Go.Proofs.Ytbfflokkdahjjaa.PAll Go.Proofs.Ytbfflokkdahjjaa.Pure Go.Proofs.YtbfflokkdahjjaaW.PrintWords Go.Proofs.YtbfflokkdahjjaaW.PrintLast Go.Proofs.YtbfflokkdahjjaaW.PrintMore
set_option linter.unusedVariables false
set_option linter.unusedSimpArgs false
def xp : S40 := ⟨1, 2, 1, 0, 120, [1], [], ⟨0, 1000⟩, 10⟩
def xt1 : Int := signT 7 3 0 1 (-1) 1 (-1) 0 (-1)
def xt2 : Int := signT 7 3 1 1 5 0 0 1 5
theorem x1 : newF 7 3 1 1 = (⟨3, 0, 1, -1, 1, -1, 0, -1, xt1⟩, 0) := by
  unfold newF
  rw [if_pos (by decide +kernel)]
  rfl
theorem x2 : decideF ⟨1, 1, 1, 1, 7, 0, [], 0⟩ [xp] ⟨3, 0, 1, -1, 1, -1, 0, -1, xt1⟩ 5 = 0 := by
  rw [decide_open]
  exact ⟨by decide +kernel, chk_iff.2 ⟨by decide +kernel, rfl⟩, by decide +kernel, rfl, by decide +kernel⟩
theorem x3 : passF ⟨1, 1, 1, 1, 7, 0, [], 0⟩ [xp] ⟨3, 0, 1, -1, 1, -1, 0, -1, xt1⟩ 5 = (⟨1, 1, 1, 2, 7, 0, [], 0⟩, ⟨3, 1, 1, 5, 0, 0, 1, 5, xt2⟩, ⟨1, 1, 3, 1, 1, 1, 5⟩, 0) := by
  unfold passF
  rw [x2, if_neg (by decide +kernel), if_neg (by decide +kernel), if_neg (by decide +kernel)]
  kernel_rfl
theorem x4 : decideF ⟨1, 1, 1, 2, 7, 0, [], 0⟩ [xp] ⟨3, 1, 1, 5, 0, 0, 1, 5, xt2⟩ 900 = 7 := by
  unfold decideF
  rw [if_neg (by decide +kernel), if_neg (by rw [show chk _ ⟨3, 1, 1, 5, 0, 0, 1, 5, xt2⟩ = true from chk_iff.2 ⟨by decide +kernel, rfl⟩]; decide), if_neg (by decide +kernel), if_neg (by decide +kernel)]
  decide +kernel
end Go.Proofs.Ytbfflokkdahjjaa.PV
