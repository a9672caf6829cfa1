/- A walk by reckoning: what a Go function comes to, reckoned out of its operations, and why that is so. -/
import Derived.Test.YtplmejnoepkdgaaSumcheckVerifiesH
import Derived.Test.YtplmejnoepkdgaaRf4
import Derived.Test.YtplmejnoepkdgaaSumcheckVerifiesP0
set_option linter.unusedVariables false
set_option linter.unusedSimpArgs false
namespace Go.Proofs.Ytplmejnoepkdgaa.H1
open Go Go.Proofs.Ytplmejnoepkdgaa.Rf
/-! Tables, bound in their first variable. -/
end Go.Proofs.Ytplmejnoepkdgaa.H1
namespace Go.Proofs.Ytplmejnoepkdgaa.Fld
end Go.Proofs.Ytplmejnoepkdgaa.Fld
namespace Go.Proofs.Ytplmejnoepkdgaa.H1
open Go Go.Proofs.Ytplmejnoepkdgaa.Rf
/-! Proving. -/
end Go.Proofs.Ytplmejnoepkdgaa.H1
