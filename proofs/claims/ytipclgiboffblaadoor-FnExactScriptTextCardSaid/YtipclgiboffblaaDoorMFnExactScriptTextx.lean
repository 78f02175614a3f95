/- Laid by a program of this session out of the kit's print for the law FnExactScriptText: what it says of the machine is proved here, function by function; each contract under the conditions that it names. -/
import Derived.Test.YtipclgiboffblaaDoorMFnExactScriptTextx0
import Derived.Test.YtipclgiboffblaaDoorMFnExactScriptTextx1
import Derived.Test.YtipclgiboffblaaDoorMFnExactScriptTextx2
import Derived.Test.YtipclgiboffblaaDoorMFnExactScriptTextx3
import Derived.Test.YtipclgiboffblaaDoorMFnExactScriptTextx4
import Derived.Test.YtipclgiboffblaaDoorMFnExactScriptTextx5
import Derived.Test.YtipclgiboffblaaDoorMFnExactScriptTextx6
import Derived.Test.YtipclgiboffblaaDoorMFnExactScriptTextx7
