/- Laid by a program of this session out of the kit's print for the law FnFound: what it says of the machine is proved here, function by function; each contract under the conditions that it names. -/
import Derived.Test.YtbogpdgfghpkeabMFnFoundx0
import Derived.Test.YtbogpdgfghpkeabMFnFoundx1
import Derived.Test.YtbogpdgfghpkeabMFnFoundx2
import Derived.Test.YtbogpdgfghpkeabMFnFoundx3
import Derived.Test.YtbogpdgfghpkeabMFnFoundx4
import Derived.Test.YtbogpdgfghpkeabMFnFoundx5
import Derived.Test.YtbogpdgfghpkeabMFnFoundx6
import Derived.Test.YtbogpdgfghpkeabMFnFoundx7
import Derived.Test.YtbogpdgfghpkeabMFnFoundx8
import Derived.Test.YtbogpdgfghpkeabMFnFoundx9
import Derived.Test.YtbogpdgfghpkeabMFnFoundx10
import Derived.Test.YtbogpdgfghpkeabMFnFoundx11
