/- A walk by reckoning: what a Go function comes to, reckoned out of its operations, and why that is so. -/
import Derived.Test.YtlmcalffemklnaaWitnessCondsHe0
import Derived.Test.YtlmcalffemklnaaWitnessCondsHe1
set_option linter.unusedVariables false
set_option linter.unusedSimpArgs false
namespace Go.Proofs.Ytlmcalffemklnaa.H1
end Go.Proofs.Ytlmcalffemklnaa.H1
