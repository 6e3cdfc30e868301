/- The plain law: no card, and a session that no call made. -/
import Derived.Test.YtfepcangbajjjacGreatDf
set_option linter.unusedVariables false
set_option linter.unusedSimpArgs false
namespace Go.Proofs.YtfepcangbajjjacGreat
open Go Go.RowKit Go.Pv
theorem TalkNone_law (b : List UInt8) : provisolaw24_TalkNone b = some true := by
  unfold provisolaw24_TalkNone talk_New_n talk_Session_Handle_np talk_Session_Waits_n talk_Session_Handle_zp talk_Session_Waits_z
  simp
end Go.Proofs.YtfepcangbajjjacGreat
