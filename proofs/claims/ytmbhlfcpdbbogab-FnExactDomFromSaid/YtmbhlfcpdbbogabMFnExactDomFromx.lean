/- Laid by a program of this session out of the kit's print for the law FnExactDomFrom: what it says of the machine is proved here, function by function; each contract under the conditions that it names. -/
import Derived.Test.YtmbhlfcpdbbogabMFnExactDomFromx0
import Derived.Test.YtmbhlfcpdbbogabMFnExactDomFromx1
import Derived.Test.YtmbhlfcpdbbogabMFnExactDomFromx2
import Derived.Test.YtmbhlfcpdbbogabMFnExactDomFromx3
import Derived.Test.YtmbhlfcpdbbogabMFnExactDomFromx4
import Derived.Test.YtmbhlfcpdbbogabMFnExactDomFromx5
import Derived.Test.YtmbhlfcpdbbogabMFnExactDomFromx6
import Derived.Test.YtmbhlfcpdbbogabMFnExactDomFromx7
import Derived.Test.YtmbhlfcpdbbogabMFnExactDomFromx8
import Derived.Test.YtmbhlfcpdbbogabMFnExactDomFromx9
import Derived.Test.YtmbhlfcpdbbogabMFnExactDomFromx10
