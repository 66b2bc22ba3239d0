/-
  Policies, qualifiers and sets of the examples: what the trees' laws need of them.
-/
import Derived.Test.YtkefahdbckjajaaGreatDoorEzL2
import Derived.Test.YtkefahdbckjajaaGreatDoorEzG2
import Derived.Test.YtkefahdbckjajaaGreatDoorEzOe
import Derived.Test.YtkefahdbckjajaaGreatDoorEzXF
set_option linter.unusedSimpArgs false
set_option linter.unusedVariables false
set_option maxRecDepth 100000
namespace Go.Ev
open Go

end Go.Ev
