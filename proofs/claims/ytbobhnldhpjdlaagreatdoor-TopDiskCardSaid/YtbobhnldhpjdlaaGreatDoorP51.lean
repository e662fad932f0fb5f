/- Lemmas and walks: what each function does, by its own code. No condition beyond those of each statement. -/
import Derived.Test.YtbobhnldhpjdlaaGreatDoorP1
import Derived.LaidEql
import Derived.Stop.Asserts
import Derived.RowKitTokens
import Derived.Laws.Tables
set_option linter.all false
set_option linter.unusedVariables false
namespace Go.Cs
open Go Go.RowKit Go.Extern.Stop Go.Stop Go.Extern
end Go.Cs
