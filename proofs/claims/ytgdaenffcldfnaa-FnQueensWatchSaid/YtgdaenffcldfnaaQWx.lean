-- PRINTED by print.py (a twelfth state) out of the translation. Not trusted: Lean checks it.
import Derived.Test.YtgdaenffcldfnaaQWx0
import Derived.Test.YtgdaenffcldfnaaQWx1
import Derived.Test.YtgdaenffcldfnaaQWx2
import Derived.Test.YtgdaenffcldfnaaQWx3
import Derived.Test.YtgdaenffcldfnaaQWx4
import Derived.Test.YtgdaenffcldfnaaQWx5
import Derived.Test.YtgdaenffcldfnaaQWx6
import Derived.Test.YtgdaenffcldfnaaQWx7
namespace Go.Proofs.Ytgdaenffcldfnaa.QW
open Go.RowKit Go.Proofs.YtgdaenffcldfnaaW.PrintWords Go.Proofs.YtgdaenffcldfnaaW.PrintLast Go.Proofs.YtgdaenffcldfnaaW.PrintMore
attribute [local go_sem] max2_int min2_int max_two min_two max_three min_three max_four min_four   -- for this text's walks alone
set_option linter.unusedVariables false
set_option linter.unusedSimpArgs false

end Go.Proofs.Ytgdaenffcldfnaa.QW
