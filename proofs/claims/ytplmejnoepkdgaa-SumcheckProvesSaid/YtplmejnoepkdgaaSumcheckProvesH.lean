/- A walk by reckoning: what a Go function comes to, reckoned out of its operations, and why that is so. -/
import Derived.Test.YtplmejnoepkdgaaSumcheckProvesHe0
import Derived.Test.YtplmejnoepkdgaaSumcheckProvesHe1
import Derived.Test.YtplmejnoepkdgaaSumcheckProvesHe2
set_option linter.unusedVariables false
set_option linter.unusedSimpArgs false
namespace Go.Proofs.Ytplmejnoepkdgaa.H1
end Go.Proofs.Ytplmejnoepkdgaa.H1
