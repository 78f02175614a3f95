/- Laid by a program of this session out of the kit's print for the law FnExactOpText: what it says of the machine is proved here, function by function; each contract under the conditions that it names. -/
import Derived.Test.YtipclgiboffblaaDoorMFnExactOpTextx0
import Derived.Test.YtipclgiboffblaaDoorMFnExactOpTextx1
import Derived.Test.YtipclgiboffblaaDoorMFnExactOpTextx2
import Derived.Test.YtipclgiboffblaaDoorMFnExactOpTextx3
import Derived.Test.YtipclgiboffblaaDoorMFnExactOpTextx4
import Derived.Test.YtipclgiboffblaaDoorMFnExactOpTextx5
