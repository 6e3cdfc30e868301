/- The plain kinds of the program's structs. -/
import Derived.Test.YtfepcangbajjjacGreatPvm
set_option linter.unusedVariables false
set_option linter.unusedSimpArgs false
namespace Go.Proofs.YtfepcangbajjjacGreat
open Go Go.RowKit Go.Pv

end Go.Proofs.YtfepcangbajjjacGreat
