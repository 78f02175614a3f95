/- Laid by a program of this session out of the kit's print for the law FnExactFaultText: what it says of the machine is proved here, function by function; each contract under the conditions that it names. -/
import Derived.Test.YtipclgiboffblaaDoorMFnExactFaultTextx0
import Derived.Test.YtipclgiboffblaaDoorMFnExactFaultTextx1
import Derived.Test.YtipclgiboffblaaDoorMFnExactFaultTextx2
