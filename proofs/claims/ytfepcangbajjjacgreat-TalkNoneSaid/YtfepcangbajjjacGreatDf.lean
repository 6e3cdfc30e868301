/- The plain functions. -/
import Derived.Test.YtfepcangbajjjacGreatTy
set_option linter.unusedVariables false
set_option linter.unusedSimpArgs false
namespace Go.Proofs.YtfepcangbajjjacGreat
open Go Go.RowKit Go.Pv
-- proviso/talk.New
noncomputable def talk_New_n  : Option (Unit × Int) :=
  some ((), 8)
-- (*proviso/talk.Session).Handle
noncomputable def talk_Session_Handle_np (a1 : List UInt8) : Option ((List UInt8)) :=
  some ([] : List UInt8)
-- (*proviso/talk.Session).Waits
noncomputable def talk_Session_Waits_n  : Option Int :=
  some 0
-- (*proviso/talk.Session).Handle
noncomputable def talk_Session_Handle_zp (a1 : List UInt8) : Option ((List UInt8)) :=
  some ([] : List UInt8)
-- (*proviso/talk.Session).Waits
noncomputable def talk_Session_Waits_z  : Option Int :=
  some 0
-- proviso/provisolaw24.TalkNone
noncomputable def provisolaw24_TalkNone (a0 : List UInt8) : Option Bool :=
  (talk_New_n).bind fun x16 => if (x16.2 != 8) = true then (some false) else ((talk_Session_Handle_np a0).bind fun x192 => if ((x192.length : Int) == 0) = true then ((talk_Session_Waits_n).bind fun x210 => if (x210 == 0) = true then ((talk_Session_Handle_zp a0).bind fun x226 => if ((x226.length : Int) == 0) = true then ((talk_Session_Waits_z).bind fun x250 => some (x250 == 0)) else (some false)) else (some false)) else (some false))
end Go.Proofs.YtfepcangbajjjacGreat
