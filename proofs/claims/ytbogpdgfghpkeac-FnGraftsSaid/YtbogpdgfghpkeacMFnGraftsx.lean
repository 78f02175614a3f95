/- Laid by a program of this session out of the kit's print for the law FnGrafts: what it says of the machine is proved here, function by function; each contract under the conditions that it names. -/
import Derived.Test.YtbogpdgfghpkeacMFnGraftsx0
import Derived.Test.YtbogpdgfghpkeacMFnGraftsx1
import Derived.Test.YtbogpdgfghpkeacMFnGraftsx2
import Derived.Test.YtbogpdgfghpkeacMFnGraftsx3
import Derived.Test.YtbogpdgfghpkeacMFnGraftsx4
import Derived.Test.YtbogpdgfghpkeacMFnGraftsx5
import Derived.Test.YtbogpdgfghpkeacMFnGraftsx6
import Derived.Test.YtbogpdgfghpkeacMFnGraftsx7
import Derived.Test.YtbogpdgfghpkeacMFnGraftsx8
import Derived.Test.YtbogpdgfghpkeacMFnGraftsx9
import Derived.Test.YtbogpdgfghpkeacMFnGraftsx10
import Derived.Test.YtbogpdgfghpkeacMFnGraftsx11
import Derived.Test.YtbogpdgfghpkeacMFnGraftsx12
import Derived.Test.YtbogpdgfghpkeacMFnGraftsx13
