/- Plain laws of lists of integers: orders, insertion, what is in all and in some. -/
import Derived.KernelRfl
set_option linter.unusedVariables false
set_option linter.unusedSimpArgs false
set_option linter.all false
namespace Go.Own
end Go.Own
