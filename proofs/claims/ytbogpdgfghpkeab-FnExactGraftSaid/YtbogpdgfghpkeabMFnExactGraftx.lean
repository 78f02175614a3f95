/- Laid by a program of this session out of the kit's print for the law FnExactGraft: what it says of the machine is proved here, function by function; each contract under the conditions that it names. -/
import Derived.Test.YtbogpdgfghpkeabMFnExactGraftx0
import Derived.Test.YtbogpdgfghpkeabMFnExactGraftx1
import Derived.Test.YtbogpdgfghpkeabMFnExactGraftx2
import Derived.Test.YtbogpdgfghpkeabMFnExactGraftx3
import Derived.Test.YtbogpdgfghpkeabMFnExactGraftx4
import Derived.Test.YtbogpdgfghpkeabMFnExactGraftx5
import Derived.Test.YtbogpdgfghpkeabMFnExactGraftx6
import Derived.Test.YtbogpdgfghpkeabMFnExactGraftx7
